/- What the functions that the law reaches return: part 4 (the conditions stand at each). -/
import Derived.Test.YtmbhjcgikblpiaaGreatWkc
open Int renaming reduceEq → iQ, reduceBEq → iB, reduceBNe → iX, reduceNeg → iN, reduceAdd → iA, reduceSub → iS, reduceMul → iM
namespace Go.Vm.YtmbhjcgikblpiaaGreat
open Go Go.Vm
set_option maxRecDepth 10000
set_option maxHeartbeats 32000000
set_option linter.unusedSimpArgs false
set_option linter.unusedVariables false
theorem spec_l13Analyse.fc (p:List StepD) (op:ProgOk p):FCt prog F_spec_l13Analyse [.ro] [steps p] (anaN p p.length).d []:=by
 refine fct_run spec_l13Analyse.ok rfl ?_
 have l1:=op.len.1
 have l2:=op.len.2
 have q1:(p.length:Int) * (1:Nat)≤70368744177664:=by omega
 have q2:(p.length:Int) * (96:Nat)≤70368744177664:=by omega
 have q3:(0:Int) < p.length:=by omega
 have q4:0 < p.length:=by omega
 have st:=startM_ok.len
 have s1:=st.reg
 have s2:=st.bits
 have s3:=st.cell
 have s4:=st.isset
 have z0:(D.agg [D.sl 2 [],D.sl 2 [],D.sl 2 [],D.sl 1 []])=zeroM.d:=rfl
 have e1:((List.replicate p.length (D.bool false)).set 0 (.bool true))=((List.replicate p.length false).set 0 true).map Bb:=by simp
 have e2:((List.replicate p.length zeroM.d).set 0 startM.d)=((List.replicate p.length zeroM).set 0 startM).map MayD.d:=by simp
 have g0:∀ d:D,(List.replicate p.length d)[0]? = some d:=fun d=>by rw [List.getElem?_replicate,if_pos q4]
 simp only [go_sem,q1,q2,q3,g0,Int.le_refl]
 refine fcW_bd spec_StartMay.fc noRs_May ?_
 simp only [go_sem,q3,s1,s2,s3,s4,tk_S,tk_K,tk_B,g0,take_map_len]
 refine R_loop (α:=Nat) (fun i s' M'=>i≤p.length∧s' 28=aI i∧M'.m 64=some (.box 0 (.agg [.nil 1,.nil 4,.nil 1]))∧M'.m 256=some (.arr 192 true 1 ((anaN p i).met.map Bb))∧M'.m 448=some (.arr 384 true 4 ((anaN p i).mays.map MayD.d)) ∧
  (∃ bx o,M'.m 576=some (.box 512 (.agg [.sl 256 192 0 p.length 1,.sl 448 384 0 p.length 4,bx]))∧M'.m 3584=o∧BadX 3584 bx o (anaN p i).bad)) (fun i=>p.length - i) 0
  ⟨by omega,by simp only [go_sem];rfl,by simp only [go_sem],by simp only [go_sem,e1];try rfl,by simp only [go_sem];rw [z0];exact congrArg (fun z=>some (Obj.arr 384 true 4 z)) e2,_,_,by simp only [go_sem];try rfl,rfl,.inl ⟨rfl,rfl⟩⟩ ?_
 rintro i s' M' ⟨hi,h28,m0,m1,m2,bx,o,m3,m4,hbx⟩ ho
 unfold spec_l13Analyse.b1
 have j0:s' 0=.dat none (steps p):=by rw [ho 0 rfl];simp only [go_sem]
 have j2:s' 2=.ptr 64 0 0 none:=by rw [ho 2 rfl];simp only [go_sem]
 have j3:s' 3=.ptr 576 512 0 none:=by rw [ho 3 rfl];simp only [go_sem]
 have j26:s' 26=.dat none (steps p):=by rw [ho 26 rfl];simp only [go_sem]
 have j27:s' 27=aI p.length:=by rw [ho 27 rfl];simp only [go_sem]
 clear ho
 have ok:=anaN_ok op i
 have hbl:=anaN_bad (p:=p) i
 by_cases hlt:i < p.length
 · have hi':(i:Int) < p.length:=by omega
   have ga:p[i]? = some p[i]:=List.getElem?_eq_getElem hlt
   have hw:IntKind.i64.wrap (i+1)=((i+1:Nat):Int):=wrap_k hlt (by omega)
   have hst:anaN p (i+1)=anaS p i (anaN p i):=rfl
   have hv:=(op.all i hlt).1
   unfold anaS at hst
   rw [ga] at hst
   dsimp only at hst
   generalize p[i]=s at ga hv hst
   generalize anaN p i=r at hst ok hbl m1 m2 hbx
   have gm:r.met[i]? = some (metB r i):=getD_some (by rw [ok.lm];exact hlt)
   have gy:r.mays[i]? = some (getM r i):=getD_some (by rw [ok.ly];exact hlt)
   cases hm:metB r i with
   | false =>
    rw [hm] at hst gm
    simp only [Bool.false_eq_true,if_false] at hst
    simp only [go_sem,gm,j0,j2,j3,j26,j27,h28,m0,m1,m2,m3,m4,hi',ga,hw]
    exact ⟨i+1,by dsimp only;omega,by omega,by simp only [go_sem,j0,j2,j3,j26,j27,h28,m0,m1,m2,m3,m4,hi',ga,hw],by simp only [go_sem,j0,j2,j3,j26,j27,h28,m0,m1,m2,m3,m4,hi',ga,hw],by simp only [go_sem,hst,j0,j2,j3,j26,j27,h28,m0,m1,m2,m3,m4,hi',ga,hw],by simp only [go_sem,hst,j0,j2,j3,j26,j27,h28,m0,m1,m2,m3,m4,hi',ga,hw],_,_,by simp only [go_sem,j0,j2,j3,j26,j27,h28,m0,m1,m2,m3,m4,hi',ga,hw];rfl,rfl,by simp only [go_sem,j0,j2,j3,j26,j27,h28,m0,m1,m2,m3,m4,hi',ga,hw];rw [hst];exact hbx⟩
   | true =>
    rw [hm] at hst gm
    simp only [if_true] at hst
    have om:=ok.ok i hm
    have cs:=spec_l13Step.fc s (getM r i) om hv
    have oa:=mayV_ok om hv
    generalize getM r i=m at gy om cs oa hst
    simp only [go_sem,gm,gy,j0,j2,j3,j26,j27,h28,m0,m1,m2,m3,m4,hi',ga,hw]
    refine fcW_bd (spec_l13Own.fc m om.len) noRs_May ?_
    have M1:=tk_S om.reg
    have M2:=tk_K om.bits
    have M3:=tk_S om.cell
    have M4:=tk_B om.isset
    have M5:=om.reg
    have M6:=om.bits
    have M7:=om.cell
    have M8:=om.isset
    have hfz:=mayV_fault (s:=s) (m:=m)
    generalize mayV s m=A at cs oa hst hfz
    obtain ⟨a,f⟩:=A
    dsimp only at cs oa hst hfz
    simp only [go_sem,M1,M2,M3,M4,M5,M6,M7,M8,Nat.le_refl,j0,j2,j3,j26,j27,h28,m0,m1,m2,m3,m4,hi',ga,hw]
    refine coW_of cs noRs_mayI rfl ?_
    cases hf:(f == 0) with
    | false =>
     have hf2:f > 0:=by rcases hfz with q|q;rw [q] at hf;cases hf;exact q
     rw [hf] at hst
     simp only [Bool.false_eq_true,if_false] at hst
     have hbb:(r.bad.length+1) * 8≤70368744177664:=by omega
     have sn:r.bad.map Ii++[Ii i]=(r.bad++[(i:Int)]).map Ii:=by simp
     have el:(r.bad++[(i:Int)]).length=r.bad.length+1:=by simp
     have el2:([(i:Int)]:List Int).length=1:=rfl
     have tk:(r.bad.map Ii).take r.bad.length=r.bad.map Ii:=List.take_of_length_le (by simp)
     rcases hbx with ⟨b1,b2⟩|⟨v,b1,b2⟩
     · subst b2
       simp only [go_sem,hf2,j0,j2,j3,j26,j27,h28,m0,m1,m2,m3,m4,hi',ga,hw]
       exact ⟨i+1,by dsimp only;omega,by omega,by simp only [go_sem,j0,j2,j3,j26,j27,h28,m0,m1,m2,m3,m4,hi',ga,hw],by simp only [go_sem,j0,j2,j3,j26,j27,h28,m0,m1,m2,m3,m4,hi',ga,hw],by simp only [go_sem,hst,j0,j2,j3,j26,j27,h28,m0,m1,m2,m3,m4,hi',ga,hw],by simp only [go_sem,hst,j0,j2,j3,j26,j27,h28,m0,m1,m2,m3,m4,hi',ga,hw],_,_,by simp only [go_sem,j0,j2,j3,j26,j27,h28,m0,m1,m2,m3,m4,hi',ga,hw];try rfl,rfl,.inr ⟨_,by rw [hst];dsimp only;rw [b1];rfl,by simp only [go_sem,hst,b1,j0,j2,j3,j26,j27,h28,m0,m1,m2,m3,m4,hi',ga,hw];try rfl⟩⟩
     · subst b1
       rw [b2] at m4
       simp only [go_sem,hf2,m4,hbb,sn,tk,j0,j2,j3,j26,j27,h28,m0,m1,m2,m3,m4,hi',ga,hw]
       exact ⟨i+1,by dsimp only;omega,by omega,by simp only [go_sem,j0,j2,j3,j26,j27,h28,m0,m1,m2,m3,m4,hi',ga,hw],by simp only [go_sem,j0,j2,j3,j26,j27,h28,m0,m1,m2,m3,m4,hi',ga,hw],by simp only [go_sem,hst,j0,j2,j3,j26,j27,h28,m0,m1,m2,m3,m4,hi',ga,hw],by simp only [go_sem,hst,j0,j2,j3,j26,j27,h28,m0,m1,m2,m3,m4,hi',ga,hw],_,_,by simp only [go_sem,j0,j2,j3,j26,j27,h28,m0,m1,m2,m3,m4,hi',ga,hw];try rfl,rfl,.inr ⟨_,by rw [hst];dsimp only;rw [el];try rfl,by simp only [go_sem,hst,j0,j2,j3,j26,j27,h28,m0,m1,m2,m3,m4,hi',ga,hw];try rfl⟩⟩
    | true =>
     have hf2:¬ f > 0:=by have:f=0:=(by simpa using hf);omega
     rw [hf] at hst
     simp only [if_true] at hst
     simp only [go_sem,hf2,j0,j2,j3,j26,j27,h28,m0,m1,m2,m3,m4,hi',ga,hw]
     have cn:=spec_l2Nexts.fc p i s (by omega) hi' op.len.2 (by rw [Int.toNat_natCast];exact ga) hv
     have hnx:∀ x∈nextsL s i,0≤x∧x < p.length:=fun x hx=>next_in (b:=x) op (by omega) (by rw [Int.toNat_natCast];exact ga) (List.any_eq_true.2 ⟨x,hx,by simp⟩)
     have hbr:brB s=true→s.kind=9∨s.kind=10:=fun h=>by simpa [brB] using h
     have co:=spec_l13Own.fc a oa.len
     have hlen:(nextsL s i).length≤2:=by
      unfold nextsL
      repeat' split
      all_goals simp
     generalize nextsL s i=N at cn hnx hst hlen
     refine fcW_bd cn noRs_ints ?_
     obtain ⟨a1,a2,a3,a4,_,_,_⟩:=oa.len.reg,oa.len.bits,oa.len.cell,oa.len.isset,trivial,trivial,trivial
     simp only [go_sem,j0,j2,j3,j26,j27,h28,m0,m1,m2,m3,m4,hi',ga,hw]
     generalize hR:foldN s a 0 N r=R at hst
     refine R_loop (α:=Nat×RepD) (fun b s' M'=>b.1≤N.length∧s' 62=aI b.1∧foldN s a b.1 (N.drop b.1) b.2=R∧RepOk p b.2∧b.2.bad=r.bad∧M'.m 64=some (.box 0 (.agg [.nil 1,.nil 4,.nil 1]))∧M'.m 256=some (.arr 192 true 1 (b.2.met.map Bb))∧M'.m 448=some (.arr 384 true 4 (b.2.mays.map MayD.d)) ∧
      M'.m 576=some (.box 512 (.agg [.sl 256 192 0 p.length 1,.sl 448 384 0 p.length 4,bx]))∧M'.m 3584=o ∧
      (∃ v,M'.m 1728=some (.box v (.dat none s.d))∧s' 5=.ptr 1728 v 0 none)∧(∃ v,M'.m 3904=some (.arr v true 1 (N.map Ii))∧s' 60=.sl 3904 v 0 N.length 1) ∧
      (∃ v v1 v2 v3 v4,M'.m 3008=some (.box v (.agg [.sl 2752 v1 0 6 2,.sl 2753 v2 0 6 2,.sl 2754 v3 0 16 2,.sl 2755 v4 0 16 1]))∧s' 6=.ptr 3008 v 0 none∧M'.m 2752=some (.arr v1 true 2 (a.reg.map strD))∧M'.m 2753=some (.arr v2 true 2 (a.bits.map knownD))∧M'.m 2754=some (.arr v3 true 2 (a.cell.map strD))∧M'.m 2755=some (.arr v4 true 1 (a.isset.map Bb))))
      (fun b=>N.length - b.1) (0,r)
      ⟨Nat.zero_le _,by simp only [go_sem,j0,j2,j3,j26,j27,h28,m0,m1,m2,m3,m4,hi',ga,hw];rfl,hR,ok,rfl,by simp only [go_sem,j0,j2,j3,j26,j27,h28,m0,m1,m2,m3,m4,hi',ga,hw],by simp only [go_sem,j0,j2,j3,j26,j27,h28,m0,m1,m2,m3,m4,hi',ga,hw],by simp only [go_sem,j0,j2,j3,j26,j27,h28,m0,m1,m2,m3,m4,hi',ga,hw],by simp only [go_sem,j0,j2,j3,j26,j27,h28,m0,m1,m2,m3,m4,hi',ga,hw],by simp only [go_sem,j0,j2,j3,j26,j27,h28,m0,m1,m2,m3,m4,hi',ga,hw];try simp,⟨_,by simp only [go_sem,j0,j2,j3,j26,j27,h28,m0,m1,m2,m3,m4,hi',ga,hw];try rfl,by simp only [go_sem,j0,j2,j3,j26,j27,h28,m0,m1,m2,m3,m4,hi',ga,hw];try rfl⟩,⟨_,by simp only [go_sem,j0,j2,j3,j26,j27,h28,m0,m1,m2,m3,m4,hi',ga,hw];try rfl,by simp only [go_sem,j0,j2,j3,j26,j27,h28,m0,m1,m2,m3,m4,hi',ga,hw];try rfl⟩,⟨_,_,_,_,_,by simp only [go_sem,a1,a2,a3,a4,j0,j2,j3,j26,j27,h28,m0,m1,m2,m3,m4,hi',ga,hw];try rfl,by simp only [go_sem,j0,j2,j3,j26,j27,h28,m0,m1,m2,m3,m4,hi',ga,hw];try rfl,by simp only [go_sem,j0,j2,j3,j26,j27,h28,m0,m1,m2,m3,m4,hi',ga,hw];try rfl,by simp only [go_sem,j0,j2,j3,j26,j27,h28,m0,m1,m2,m3,m4,hi',ga,hw];try rfl,by simp only [go_sem,j0,j2,j3,j26,j27,h28,m0,m1,m2,m3,m4,hi',ga,hw];try rfl,by simp only [go_sem,j0,j2,j3,j26,j27,h28,m0,m1,m2,m3,m4,hi',ga,hw];try rfl⟩⟩ ?_
     rintro ⟨n,q⟩ s2 M2 ⟨hn,h62,hfo,oq,hqb,m0,m1,m2,m3,m4,⟨v6,m6,h6⟩,⟨vN,mN,hN⟩,⟨v7,w1,w2,w3,w4,m7,h7,y1,y2,y3,y4⟩⟩ ho
     dsimp only at hn h62 hfo oq hqb m1 m2
     unfold spec_l13Analyse.b0
     have g0:s2 0=.dat none (steps p):=by rw [ho 0 rfl];simp only [go_sem,j0,j2,j3,j26,j27,h28,m0,m1,m2,m3,m4,hi',ga,hw]
     have g2:s2 2=.ptr 64 0 0 none:=by rw [ho 2 rfl];simp only [go_sem,j0,j2,j3,j26,j27,h28,m0,m1,m2,m3,m4,hi',ga,hw]
     have g3:s2 3=.ptr 576 512 0 none:=by rw [ho 3 rfl];simp only [go_sem,j0,j2,j3,j26,j27,h28,m0,m1,m2,m3,m4,hi',ga,hw]
     have g26:s2 26=.dat none (steps p):=by rw [ho 26 rfl];simp only [go_sem,j0,j2,j3,j26,j27,h28,m0,m1,m2,m3,m4,hi',ga,hw]
     have g27:s2 27=aI p.length:=by rw [ho 27 rfl];simp only [go_sem,j0,j2,j3,j26,j27,h28,m0,m1,m2,m3,m4,hi',ga,hw]
     have g61:s2 61=aI N.length:=by rw [ho 61 rfl];simp only [go_sem,j0,j2,j3,j26,j27,h28,m0,m1,m2,m3,m4,hi',ga,hw]
     have g28:s2 28=aI i:=by rw [ho 28 rfl];simp only [go_sem,j0,j2,j3,j26,j27,h28,m0,m1,m2,m3,m4,hi',ga,hw]
     clear ho
     by_cases hltn:n < N.length
     · have hn':(n:Int) < N.length:=by omega
       have gn:N[n]? = some N[n]:=List.getElem?_eq_getElem hltn
       have hwn:IntKind.i64.wrap (n+1)=((n+1:Nat):Int):=wrap_k hltn (by omega)
       have hd:N.drop n=N[n]::N.drop (n+1):=List.drop_eq_getElem_cons hltn
       have hx:=hnx N[n] (List.getElem_mem hltn)
       rw [hd,foldN_cons] at hfo
       generalize N[n]=x at gn hx hfo
       have T1:=tk_S a1
       have T2:=tk_K a2
       have T3:=tk_S a3
       have T4:=tk_B a4
       have x0:=hx.1
       have x1:=hx.2
       have gk:q.met[x.toNat]? = some (metB q x.toNat):=getD_some (by rw [oq.lm];omega)
       have gy:q.mays[x.toNat]? = some (getM q x.toNat):=getD_some (by rw [oq.ly];omega)
       have hxl:x.toNat < p.length:=by omega
       simp only [go_sem,a1,a2,a3,a4,T1,T2,T3,T4,Nat.le_refl,j0,j2,j3,j26,j27,h28,m0,m1,m2,m3,m4,hi',ga,hw,g0,g2,g3,g26,g27,g61,g28,h62,m0,m1,m2,m3,m4,m6,h6,mN,hN,m7,h7,y1,y2,y3,y4,hn',gn,hwn,x0,x1,gk,gy]
       refine fcW_bd co noRs_May ?_
       cases hbb:brB s with
       | true =>
        have ch:=spec_l13Heed.fc s a ((n:Int) == 1) oa hv (hbr hbb)
        have oh:=heedV_ok (t:=((n:Int) == 1)) oa hv
        have hfs:flowS s a n x q=if (heedV s a ((n:Int) == 1)).2 then landM q x.toNat (heedV s a ((n:Int) == 1)).1 else q:=by unfold flowS;rw [hbb];rfl
        rw [hfs] at hfo
        generalize heedV s a ((n:Int) == 1)=H at ch oh hfo
        obtain ⟨h,t⟩:=H
        dsimp only at ch oh hfo
        rcases hbr hbb with k9|k9 <;>
        · simp only [go_sem,a1,a2,a3,a4,T1,T2,T3,T4,Nat.le_refl,k9,iB,j0,j2,j3,j26,j27,h28,m0,m1,m2,m3,m4,hi',ga,hw,g0,g2,g3,g26,g27,g61,g28,h62,m0,m1,m2,m3,m4,m6,h6,mN,hN,m7,h7,y1,y2,y3,y4,hn',gn,hwn,x0,x1,gk,gy]
          refine coW_of ch noRs_mayB rfl ?_
          cases t with
          | false =>
           simp only [Bool.false_eq_true,if_false] at hfo
           simp only [go_sem,j0,j2,j3,j26,j27,h28,m0,m1,m2,m3,m4,hi',ga,hw,g0,g2,g3,g26,g27,g61,g28,h62,m0,m1,m2,m3,m4,m6,h6,mN,hN,m7,h7,y1,y2,y3,y4,hn',gn,hwn,x0,x1,gk,gy]
           exact ⟨(n+1,q),by dsimp only;omega,by dsimp only;omega,by simp only [go_sem,j0,j2,j3,j26,j27,h28,m0,m1,m2,m3,m4,hi',ga,hw,g0,g2,g3,g26,g27,g61,g28,h62,m0,m1,m2,m3,m4,m6,h6,mN,hN,m7,h7,y1,y2,y3,y4,hn',gn,hwn,x0,x1,gk,gy],hfo,oq,hqb,by simp only [go_sem,j0,j2,j3,j26,j27,h28,m0,m1,m2,m3,m4,hi',ga,hw,g0,g2,g3,g26,g27,g61,g28,h62,m0,m1,m2,m3,m4,m6,h6,mN,hN,m7,h7,y1,y2,y3,y4,hn',gn,hwn,x0,x1,gk,gy],by simp only [go_sem,j0,j2,j3,j26,j27,h28,m0,m1,m2,m3,m4,hi',ga,hw,g0,g2,g3,g26,g27,g61,g28,h62,m0,m1,m2,m3,m4,m6,h6,mN,hN,m7,h7,y1,y2,y3,y4,hn',gn,hwn,x0,x1,gk,gy],by simp only [go_sem,j0,j2,j3,j26,j27,h28,m0,m1,m2,m3,m4,hi',ga,hw,g0,g2,g3,g26,g27,g61,g28,h62,m0,m1,m2,m3,m4,m6,h6,mN,hN,m7,h7,y1,y2,y3,y4,hn',gn,hwn,x0,x1,gk,gy],by simp only [go_sem,j0,j2,j3,j26,j27,h28,m0,m1,m2,m3,m4,hi',ga,hw,g0,g2,g3,g26,g27,g61,g28,h62,m0,m1,m2,m3,m4,m6,h6,mN,hN,m7,h7,y1,y2,y3,y4,hn',gn,hwn,x0,x1,gk,gy],by simp only [go_sem,j0,j2,j3,j26,j27,h28,m0,m1,m2,m3,m4,hi',ga,hw,g0,g2,g3,g26,g27,g61,g28,h62,m0,m1,m2,m3,m4,m6,h6,mN,hN,m7,h7,y1,y2,y3,y4,hn',gn,hwn,x0,x1,gk,gy],⟨_,by simp only [go_sem,j0,j2,j3,j26,j27,h28,m0,m1,m2,m3,m4,hi',ga,hw,g0,g2,g3,g26,g27,g61,g28,h62,m0,m1,m2,m3,m4,m6,h6,mN,hN,m7,h7,y1,y2,y3,y4,hn',gn,hwn,x0,x1,gk,gy];try rfl,by simp only [go_sem,j0,j2,j3,j26,j27,h28,m0,m1,m2,m3,m4,hi',ga,hw,g0,g2,g3,g26,g27,g61,g28,h62,m0,m1,m2,m3,m4,m6,h6,mN,hN,m7,h7,y1,y2,y3,y4,hn',gn,hwn,x0,x1,gk,gy];try rfl⟩,⟨_,by simp only [go_sem,j0,j2,j3,j26,j27,h28,m0,m1,m2,m3,m4,hi',ga,hw,g0,g2,g3,g26,g27,g61,g28,h62,m0,m1,m2,m3,m4,m6,h6,mN,hN,m7,h7,y1,y2,y3,y4,hn',gn,hwn,x0,x1,gk,gy];try rfl,by simp only [go_sem,j0,j2,j3,j26,j27,h28,m0,m1,m2,m3,m4,hi',ga,hw,g0,g2,g3,g26,g27,g61,g28,h62,m0,m1,m2,m3,m4,m6,h6,mN,hN,m7,h7,y1,y2,y3,y4,hn',gn,hwn,x0,x1,gk,gy];try rfl⟩,⟨_,_,_,_,_,by simp only [go_sem,j0,j2,j3,j26,j27,h28,m0,m1,m2,m3,m4,hi',ga,hw,g0,g2,g3,g26,g27,g61,g28,h62,m0,m1,m2,m3,m4,m6,h6,mN,hN,m7,h7,y1,y2,y3,y4,hn',gn,hwn,x0,x1,gk,gy];try rfl,by simp only [go_sem,j0,j2,j3,j26,j27,h28,m0,m1,m2,m3,m4,hi',ga,hw,g0,g2,g3,g26,g27,g61,g28,h62,m0,m1,m2,m3,m4,m6,h6,mN,hN,m7,h7,y1,y2,y3,y4,hn',gn,hwn,x0,x1,gk,gy];try rfl,by simp only [go_sem,j0,j2,j3,j26,j27,h28,m0,m1,m2,m3,m4,hi',ga,hw,g0,g2,g3,g26,g27,g61,g28,h62,m0,m1,m2,m3,m4,m6,h6,mN,hN,m7,h7,y1,y2,y3,y4,hn',gn,hwn,x0,x1,gk,gy];try rfl,by simp only [go_sem,j0,j2,j3,j26,j27,h28,m0,m1,m2,m3,m4,hi',ga,hw,g0,g2,g3,g26,g27,g61,g28,h62,m0,m1,m2,m3,m4,m6,h6,mN,hN,m7,h7,y1,y2,y3,y4,hn',gn,hwn,x0,x1,gk,gy];try rfl,by simp only [go_sem,j0,j2,j3,j26,j27,h28,m0,m1,m2,m3,m4,hi',ga,hw,g0,g2,g3,g26,g27,g61,g28,h62,m0,m1,m2,m3,m4,m6,h6,mN,hN,m7,h7,y1,y2,y3,y4,hn',gn,hwn,x0,x1,gk,gy];try rfl,by simp only [go_sem,j0,j2,j3,j26,j27,h28,m0,m1,m2,m3,m4,hi',ga,hw,g0,g2,g3,g26,g27,g61,g28,h62,m0,m1,m2,m3,m4,m6,h6,mN,hN,m7,h7,y1,y2,y3,y4,hn',gn,hwn,x0,x1,gk,gy];try rfl⟩⟩
          | true =>
           simp only [if_true] at hfo
           have oh:=oh rfl
           obtain ⟨b1,b2,b3,b4⟩:=oh.len
           have U1:=tk_S b1
           have U2:=tk_K b2
           have U3:=tk_S b3
           have U4:=tk_B b4
           simp only [go_sem,j0,j2,j3,j26,j27,h28,m0,m1,m2,m3,m4,hi',ga,hw,g0,g2,g3,g26,g27,g61,g28,h62,m0,m1,m2,m3,m4,m6,h6,mN,hN,m7,h7,y1,y2,y3,y4,hn',gn,hwn,x0,x1,gk,gy]
           have ol:=landM_ok (k:=x.toNat) oq oh
           have hlb:(landM q x.toNat h).bad=q.bad:=landM_bad
           cases hk:metB q x.toNat with
           | true =>
            have cj:=spec_l13Join.fc (getM q x.toNat) h (oq.ok _ hk).len oh.len
            have hl:landM q x.toNat h = { q with mays:=q.mays.set x.toNat (joinM (getM q x.toNat) h) }:=by unfold landM;rw [hk];rfl
            obtain ⟨c1,c2,c3,c4⟩:=joinM_len (oq.ok _ hk).len oh.len
            generalize joinM (getM q x.toNat) h=J at cj hl c1 c2 c3 c4
            rw [hl] at ol hlb hfo
            have V1:=tk_S c1
            have V2:=tk_K c2
            have V3:=tk_S c3
            have V4:=tk_B c4
            simp only [go_sem,b1,b2,b3,b4,U1,U2,U3,U4,Nat.le_refl,j0,j2,j3,j26,j27,h28,m0,m1,m2,m3,m4,hi',ga,hw,g0,g2,g3,g26,g27,g61,g28,h62,m0,m1,m2,m3,m4,m6,h6,mN,hN,m7,h7,y1,y2,y3,y4,hn',gn,hwn,x0,x1,gk,gy]
            refine fcW_bd cj noRs_May ?_
            simp only [go_sem,c1,c2,c3,c4,V1,V2,V3,V4,Nat.le_refl,hxl,my_set,j0,j2,j3,j26,j27,h28,m0,m1,m2,m3,m4,hi',ga,hw,g0,g2,g3,g26,g27,g61,g28,h62,m0,m1,m2,m3,m4,m6,h6,mN,hN,m7,h7,y1,y2,y3,y4,hn',gn,hwn,x0,x1,gk,gy]
            exact ⟨(n+1,_),by dsimp only;omega,by dsimp only;omega,by simp only [go_sem,j0,j2,j3,j26,j27,h28,m0,m1,m2,m3,m4,hi',ga,hw,g0,g2,g3,g26,g27,g61,g28,h62,m0,m1,m2,m3,m4,m6,h6,mN,hN,m7,h7,y1,y2,y3,y4,hn',gn,hwn,x0,x1,gk,gy],hfo,ol,hlb.trans hqb,by simp only [go_sem,j0,j2,j3,j26,j27,h28,m0,m1,m2,m3,m4,hi',ga,hw,g0,g2,g3,g26,g27,g61,g28,h62,m0,m1,m2,m3,m4,m6,h6,mN,hN,m7,h7,y1,y2,y3,y4,hn',gn,hwn,x0,x1,gk,gy],by simp only [go_sem,j0,j2,j3,j26,j27,h28,m0,m1,m2,m3,m4,hi',ga,hw,g0,g2,g3,g26,g27,g61,g28,h62,m0,m1,m2,m3,m4,m6,h6,mN,hN,m7,h7,y1,y2,y3,y4,hn',gn,hwn,x0,x1,gk,gy],by simp only [go_sem,j0,j2,j3,j26,j27,h28,m0,m1,m2,m3,m4,hi',ga,hw,g0,g2,g3,g26,g27,g61,g28,h62,m0,m1,m2,m3,m4,m6,h6,mN,hN,m7,h7,y1,y2,y3,y4,hn',gn,hwn,x0,x1,gk,gy],by simp only [go_sem,j0,j2,j3,j26,j27,h28,m0,m1,m2,m3,m4,hi',ga,hw,g0,g2,g3,g26,g27,g61,g28,h62,m0,m1,m2,m3,m4,m6,h6,mN,hN,m7,h7,y1,y2,y3,y4,hn',gn,hwn,x0,x1,gk,gy],by simp only [go_sem,j0,j2,j3,j26,j27,h28,m0,m1,m2,m3,m4,hi',ga,hw,g0,g2,g3,g26,g27,g61,g28,h62,m0,m1,m2,m3,m4,m6,h6,mN,hN,m7,h7,y1,y2,y3,y4,hn',gn,hwn,x0,x1,gk,gy],⟨_,by simp only [go_sem,j0,j2,j3,j26,j27,h28,m0,m1,m2,m3,m4,hi',ga,hw,g0,g2,g3,g26,g27,g61,g28,h62,m0,m1,m2,m3,m4,m6,h6,mN,hN,m7,h7,y1,y2,y3,y4,hn',gn,hwn,x0,x1,gk,gy];try rfl,by simp only [go_sem,j0,j2,j3,j26,j27,h28,m0,m1,m2,m3,m4,hi',ga,hw,g0,g2,g3,g26,g27,g61,g28,h62,m0,m1,m2,m3,m4,m6,h6,mN,hN,m7,h7,y1,y2,y3,y4,hn',gn,hwn,x0,x1,gk,gy];try rfl⟩,⟨_,by simp only [go_sem,j0,j2,j3,j26,j27,h28,m0,m1,m2,m3,m4,hi',ga,hw,g0,g2,g3,g26,g27,g61,g28,h62,m0,m1,m2,m3,m4,m6,h6,mN,hN,m7,h7,y1,y2,y3,y4,hn',gn,hwn,x0,x1,gk,gy];try rfl,by simp only [go_sem,j0,j2,j3,j26,j27,h28,m0,m1,m2,m3,m4,hi',ga,hw,g0,g2,g3,g26,g27,g61,g28,h62,m0,m1,m2,m3,m4,m6,h6,mN,hN,m7,h7,y1,y2,y3,y4,hn',gn,hwn,x0,x1,gk,gy];try rfl⟩,⟨_,_,_,_,_,by simp only [go_sem,j0,j2,j3,j26,j27,h28,m0,m1,m2,m3,m4,hi',ga,hw,g0,g2,g3,g26,g27,g61,g28,h62,m0,m1,m2,m3,m4,m6,h6,mN,hN,m7,h7,y1,y2,y3,y4,hn',gn,hwn,x0,x1,gk,gy];try rfl,by simp only [go_sem,j0,j2,j3,j26,j27,h28,m0,m1,m2,m3,m4,hi',ga,hw,g0,g2,g3,g26,g27,g61,g28,h62,m0,m1,m2,m3,m4,m6,h6,mN,hN,m7,h7,y1,y2,y3,y4,hn',gn,hwn,x0,x1,gk,gy];try rfl,by simp only [go_sem,j0,j2,j3,j26,j27,h28,m0,m1,m2,m3,m4,hi',ga,hw,g0,g2,g3,g26,g27,g61,g28,h62,m0,m1,m2,m3,m4,m6,h6,mN,hN,m7,h7,y1,y2,y3,y4,hn',gn,hwn,x0,x1,gk,gy];try rfl,by simp only [go_sem,j0,j2,j3,j26,j27,h28,m0,m1,m2,m3,m4,hi',ga,hw,g0,g2,g3,g26,g27,g61,g28,h62,m0,m1,m2,m3,m4,m6,h6,mN,hN,m7,h7,y1,y2,y3,y4,hn',gn,hwn,x0,x1,gk,gy];try rfl,by simp only [go_sem,j0,j2,j3,j26,j27,h28,m0,m1,m2,m3,m4,hi',ga,hw,g0,g2,g3,g26,g27,g61,g28,h62,m0,m1,m2,m3,m4,m6,h6,mN,hN,m7,h7,y1,y2,y3,y4,hn',gn,hwn,x0,x1,gk,gy];try rfl,by simp only [go_sem,j0,j2,j3,j26,j27,h28,m0,m1,m2,m3,m4,hi',ga,hw,g0,g2,g3,g26,g27,g61,g28,h62,m0,m1,m2,m3,m4,m6,h6,mN,hN,m7,h7,y1,y2,y3,y4,hn',gn,hwn,x0,x1,gk,gy];try rfl⟩⟩
           | false =>
            have hl:landM q x.toNat h = { q with met:=q.met.set x.toNat true,mays:=q.mays.set x.toNat h }:=by unfold landM;rw [hk];rfl
            rw [hl] at ol hlb hfo
            simp only [go_sem,b1,b2,b3,b4,U1,U2,U3,U4,Nat.le_refl,hxl,my_set,setBb,j0,j2,j3,j26,j27,h28,m0,m1,m2,m3,m4,hi',ga,hw,g0,g2,g3,g26,g27,g61,g28,h62,m0,m1,m2,m3,m4,m6,h6,mN,hN,m7,h7,y1,y2,y3,y4,hn',gn,hwn,x0,x1,gk,gy]
            exact ⟨(n+1,_),by dsimp only;omega,by dsimp only;omega,by simp only [go_sem,j0,j2,j3,j26,j27,h28,m0,m1,m2,m3,m4,hi',ga,hw,g0,g2,g3,g26,g27,g61,g28,h62,m0,m1,m2,m3,m4,m6,h6,mN,hN,m7,h7,y1,y2,y3,y4,hn',gn,hwn,x0,x1,gk,gy],hfo,ol,hlb.trans hqb,by simp only [go_sem,j0,j2,j3,j26,j27,h28,m0,m1,m2,m3,m4,hi',ga,hw,g0,g2,g3,g26,g27,g61,g28,h62,m0,m1,m2,m3,m4,m6,h6,mN,hN,m7,h7,y1,y2,y3,y4,hn',gn,hwn,x0,x1,gk,gy],by simp only [go_sem,j0,j2,j3,j26,j27,h28,m0,m1,m2,m3,m4,hi',ga,hw,g0,g2,g3,g26,g27,g61,g28,h62,m0,m1,m2,m3,m4,m6,h6,mN,hN,m7,h7,y1,y2,y3,y4,hn',gn,hwn,x0,x1,gk,gy],by simp only [go_sem,j0,j2,j3,j26,j27,h28,m0,m1,m2,m3,m4,hi',ga,hw,g0,g2,g3,g26,g27,g61,g28,h62,m0,m1,m2,m3,m4,m6,h6,mN,hN,m7,h7,y1,y2,y3,y4,hn',gn,hwn,x0,x1,gk,gy],by simp only [go_sem,j0,j2,j3,j26,j27,h28,m0,m1,m2,m3,m4,hi',ga,hw,g0,g2,g3,g26,g27,g61,g28,h62,m0,m1,m2,m3,m4,m6,h6,mN,hN,m7,h7,y1,y2,y3,y4,hn',gn,hwn,x0,x1,gk,gy],by simp only [go_sem,j0,j2,j3,j26,j27,h28,m0,m1,m2,m3,m4,hi',ga,hw,g0,g2,g3,g26,g27,g61,g28,h62,m0,m1,m2,m3,m4,m6,h6,mN,hN,m7,h7,y1,y2,y3,y4,hn',gn,hwn,x0,x1,gk,gy],⟨_,by simp only [go_sem,j0,j2,j3,j26,j27,h28,m0,m1,m2,m3,m4,hi',ga,hw,g0,g2,g3,g26,g27,g61,g28,h62,m0,m1,m2,m3,m4,m6,h6,mN,hN,m7,h7,y1,y2,y3,y4,hn',gn,hwn,x0,x1,gk,gy];try rfl,by simp only [go_sem,j0,j2,j3,j26,j27,h28,m0,m1,m2,m3,m4,hi',ga,hw,g0,g2,g3,g26,g27,g61,g28,h62,m0,m1,m2,m3,m4,m6,h6,mN,hN,m7,h7,y1,y2,y3,y4,hn',gn,hwn,x0,x1,gk,gy];try rfl⟩,⟨_,by simp only [go_sem,j0,j2,j3,j26,j27,h28,m0,m1,m2,m3,m4,hi',ga,hw,g0,g2,g3,g26,g27,g61,g28,h62,m0,m1,m2,m3,m4,m6,h6,mN,hN,m7,h7,y1,y2,y3,y4,hn',gn,hwn,x0,x1,gk,gy];try rfl,by simp only [go_sem,j0,j2,j3,j26,j27,h28,m0,m1,m2,m3,m4,hi',ga,hw,g0,g2,g3,g26,g27,g61,g28,h62,m0,m1,m2,m3,m4,m6,h6,mN,hN,m7,h7,y1,y2,y3,y4,hn',gn,hwn,x0,x1,gk,gy];try rfl⟩,⟨_,_,_,_,_,by simp only [go_sem,j0,j2,j3,j26,j27,h28,m0,m1,m2,m3,m4,hi',ga,hw,g0,g2,g3,g26,g27,g61,g28,h62,m0,m1,m2,m3,m4,m6,h6,mN,hN,m7,h7,y1,y2,y3,y4,hn',gn,hwn,x0,x1,gk,gy];try rfl,by simp only [go_sem,j0,j2,j3,j26,j27,h28,m0,m1,m2,m3,m4,hi',ga,hw,g0,g2,g3,g26,g27,g61,g28,h62,m0,m1,m2,m3,m4,m6,h6,mN,hN,m7,h7,y1,y2,y3,y4,hn',gn,hwn,x0,x1,gk,gy];try rfl,by simp only [go_sem,j0,j2,j3,j26,j27,h28,m0,m1,m2,m3,m4,hi',ga,hw,g0,g2,g3,g26,g27,g61,g28,h62,m0,m1,m2,m3,m4,m6,h6,mN,hN,m7,h7,y1,y2,y3,y4,hn',gn,hwn,x0,x1,gk,gy];try rfl,by simp only [go_sem,j0,j2,j3,j26,j27,h28,m0,m1,m2,m3,m4,hi',ga,hw,g0,g2,g3,g26,g27,g61,g28,h62,m0,m1,m2,m3,m4,m6,h6,mN,hN,m7,h7,y1,y2,y3,y4,hn',gn,hwn,x0,x1,gk,gy];try rfl,by simp only [go_sem,j0,j2,j3,j26,j27,h28,m0,m1,m2,m3,m4,hi',ga,hw,g0,g2,g3,g26,g27,g61,g28,h62,m0,m1,m2,m3,m4,m6,h6,mN,hN,m7,h7,y1,y2,y3,y4,hn',gn,hwn,x0,x1,gk,gy];try rfl,by simp only [go_sem,j0,j2,j3,j26,j27,h28,m0,m1,m2,m3,m4,hi',ga,hw,g0,g2,g3,g26,g27,g61,g28,h62,m0,m1,m2,m3,m4,m6,h6,mN,hN,m7,h7,y1,y2,y3,y4,hn',gn,hwn,x0,x1,gk,gy];try rfl⟩⟩
       | false =>
        have hfs:flowS s a n x q=landM q x.toNat a:=by unfold flowS;rw [hbb];rfl
        rw [hfs] at hfo
        have k9:(s.kind == 9)=false∧(s.kind == 10)=false:=by unfold brB at hbb;rwa [Bool.or_eq_false_iff] at hbb
        simp only [go_sem,k9.1,k9.2,a1,a2,a3,a4,T1,T2,T3,T4,Nat.le_refl,j0,j2,j3,j26,j27,h28,m0,m1,m2,m3,m4,hi',ga,hw,g0,g2,g3,g26,g27,g61,g28,h62,m0,m1,m2,m3,m4,m6,h6,mN,hN,m7,h7,y1,y2,y3,y4,hn',gn,hwn,x0,x1,gk,gy]
        have ol:=landM_ok (k:=x.toNat) oq oa
        have hlb:(landM q x.toNat a).bad=q.bad:=landM_bad
        cases hk:metB q x.toNat with
        | true =>
         have cj:=spec_l13Join.fc (getM q x.toNat) a (oq.ok _ hk).len oa.len
         have hl:landM q x.toNat a = { q with mays:=q.mays.set x.toNat (joinM (getM q x.toNat) a) }:=by unfold landM;rw [hk];rfl
         obtain ⟨c1,c2,c3,c4⟩:=joinM_len (oq.ok _ hk).len oa.len
         generalize joinM (getM q x.toNat) a=J at cj hl c1 c2 c3 c4
         rw [hl] at ol hlb hfo
         have V1:=tk_S c1
         have V2:=tk_K c2
         have V3:=tk_S c3
         have V4:=tk_B c4
         simp only [go_sem,a1,a2,a3,a4,T1,T2,T3,T4,Nat.le_refl,j0,j2,j3,j26,j27,h28,m0,m1,m2,m3,m4,hi',ga,hw,g0,g2,g3,g26,g27,g61,g28,h62,m0,m1,m2,m3,m4,m6,h6,mN,hN,m7,h7,y1,y2,y3,y4,hn',gn,hwn,x0,x1,gk,gy]
         refine fcW_bd cj noRs_May ?_
         simp only [go_sem,c1,c2,c3,c4,V1,V2,V3,V4,Nat.le_refl,hxl,my_set,j0,j2,j3,j26,j27,h28,m0,m1,m2,m3,m4,hi',ga,hw,g0,g2,g3,g26,g27,g61,g28,h62,m0,m1,m2,m3,m4,m6,h6,mN,hN,m7,h7,y1,y2,y3,y4,hn',gn,hwn,x0,x1,gk,gy]
         exact ⟨(n+1,_),by dsimp only;omega,by dsimp only;omega,by simp only [go_sem,j0,j2,j3,j26,j27,h28,m0,m1,m2,m3,m4,hi',ga,hw,g0,g2,g3,g26,g27,g61,g28,h62,m0,m1,m2,m3,m4,m6,h6,mN,hN,m7,h7,y1,y2,y3,y4,hn',gn,hwn,x0,x1,gk,gy],hfo,ol,hlb.trans hqb,by simp only [go_sem,j0,j2,j3,j26,j27,h28,m0,m1,m2,m3,m4,hi',ga,hw,g0,g2,g3,g26,g27,g61,g28,h62,m0,m1,m2,m3,m4,m6,h6,mN,hN,m7,h7,y1,y2,y3,y4,hn',gn,hwn,x0,x1,gk,gy],by simp only [go_sem,j0,j2,j3,j26,j27,h28,m0,m1,m2,m3,m4,hi',ga,hw,g0,g2,g3,g26,g27,g61,g28,h62,m0,m1,m2,m3,m4,m6,h6,mN,hN,m7,h7,y1,y2,y3,y4,hn',gn,hwn,x0,x1,gk,gy],by simp only [go_sem,j0,j2,j3,j26,j27,h28,m0,m1,m2,m3,m4,hi',ga,hw,g0,g2,g3,g26,g27,g61,g28,h62,m0,m1,m2,m3,m4,m6,h6,mN,hN,m7,h7,y1,y2,y3,y4,hn',gn,hwn,x0,x1,gk,gy],by simp only [go_sem,j0,j2,j3,j26,j27,h28,m0,m1,m2,m3,m4,hi',ga,hw,g0,g2,g3,g26,g27,g61,g28,h62,m0,m1,m2,m3,m4,m6,h6,mN,hN,m7,h7,y1,y2,y3,y4,hn',gn,hwn,x0,x1,gk,gy],by simp only [go_sem,j0,j2,j3,j26,j27,h28,m0,m1,m2,m3,m4,hi',ga,hw,g0,g2,g3,g26,g27,g61,g28,h62,m0,m1,m2,m3,m4,m6,h6,mN,hN,m7,h7,y1,y2,y3,y4,hn',gn,hwn,x0,x1,gk,gy],⟨_,by simp only [go_sem,j0,j2,j3,j26,j27,h28,m0,m1,m2,m3,m4,hi',ga,hw,g0,g2,g3,g26,g27,g61,g28,h62,m0,m1,m2,m3,m4,m6,h6,mN,hN,m7,h7,y1,y2,y3,y4,hn',gn,hwn,x0,x1,gk,gy];try rfl,by simp only [go_sem,j0,j2,j3,j26,j27,h28,m0,m1,m2,m3,m4,hi',ga,hw,g0,g2,g3,g26,g27,g61,g28,h62,m0,m1,m2,m3,m4,m6,h6,mN,hN,m7,h7,y1,y2,y3,y4,hn',gn,hwn,x0,x1,gk,gy];try rfl⟩,⟨_,by simp only [go_sem,j0,j2,j3,j26,j27,h28,m0,m1,m2,m3,m4,hi',ga,hw,g0,g2,g3,g26,g27,g61,g28,h62,m0,m1,m2,m3,m4,m6,h6,mN,hN,m7,h7,y1,y2,y3,y4,hn',gn,hwn,x0,x1,gk,gy];try rfl,by simp only [go_sem,j0,j2,j3,j26,j27,h28,m0,m1,m2,m3,m4,hi',ga,hw,g0,g2,g3,g26,g27,g61,g28,h62,m0,m1,m2,m3,m4,m6,h6,mN,hN,m7,h7,y1,y2,y3,y4,hn',gn,hwn,x0,x1,gk,gy];try rfl⟩,⟨_,_,_,_,_,by simp only [go_sem,j0,j2,j3,j26,j27,h28,m0,m1,m2,m3,m4,hi',ga,hw,g0,g2,g3,g26,g27,g61,g28,h62,m0,m1,m2,m3,m4,m6,h6,mN,hN,m7,h7,y1,y2,y3,y4,hn',gn,hwn,x0,x1,gk,gy];try rfl,by simp only [go_sem,j0,j2,j3,j26,j27,h28,m0,m1,m2,m3,m4,hi',ga,hw,g0,g2,g3,g26,g27,g61,g28,h62,m0,m1,m2,m3,m4,m6,h6,mN,hN,m7,h7,y1,y2,y3,y4,hn',gn,hwn,x0,x1,gk,gy];try rfl,by simp only [go_sem,j0,j2,j3,j26,j27,h28,m0,m1,m2,m3,m4,hi',ga,hw,g0,g2,g3,g26,g27,g61,g28,h62,m0,m1,m2,m3,m4,m6,h6,mN,hN,m7,h7,y1,y2,y3,y4,hn',gn,hwn,x0,x1,gk,gy];try rfl,by simp only [go_sem,j0,j2,j3,j26,j27,h28,m0,m1,m2,m3,m4,hi',ga,hw,g0,g2,g3,g26,g27,g61,g28,h62,m0,m1,m2,m3,m4,m6,h6,mN,hN,m7,h7,y1,y2,y3,y4,hn',gn,hwn,x0,x1,gk,gy];try rfl,by simp only [go_sem,j0,j2,j3,j26,j27,h28,m0,m1,m2,m3,m4,hi',ga,hw,g0,g2,g3,g26,g27,g61,g28,h62,m0,m1,m2,m3,m4,m6,h6,mN,hN,m7,h7,y1,y2,y3,y4,hn',gn,hwn,x0,x1,gk,gy];try rfl,by simp only [go_sem,j0,j2,j3,j26,j27,h28,m0,m1,m2,m3,m4,hi',ga,hw,g0,g2,g3,g26,g27,g61,g28,h62,m0,m1,m2,m3,m4,m6,h6,mN,hN,m7,h7,y1,y2,y3,y4,hn',gn,hwn,x0,x1,gk,gy];try rfl⟩⟩
        | false =>
         have hl:landM q x.toNat a = { q with met:=q.met.set x.toNat true,mays:=q.mays.set x.toNat a }:=by unfold landM;rw [hk];rfl
         rw [hl] at ol hlb hfo
         simp only [go_sem,a1,a2,a3,a4,T1,T2,T3,T4,Nat.le_refl,hxl,my_set,setBb,j0,j2,j3,j26,j27,h28,m0,m1,m2,m3,m4,hi',ga,hw,g0,g2,g3,g26,g27,g61,g28,h62,m0,m1,m2,m3,m4,m6,h6,mN,hN,m7,h7,y1,y2,y3,y4,hn',gn,hwn,x0,x1,gk,gy]
         exact ⟨(n+1,_),by dsimp only;omega,by dsimp only;omega,by simp only [go_sem,j0,j2,j3,j26,j27,h28,m0,m1,m2,m3,m4,hi',ga,hw,g0,g2,g3,g26,g27,g61,g28,h62,m0,m1,m2,m3,m4,m6,h6,mN,hN,m7,h7,y1,y2,y3,y4,hn',gn,hwn,x0,x1,gk,gy],hfo,ol,hlb.trans hqb,by simp only [go_sem,j0,j2,j3,j26,j27,h28,m0,m1,m2,m3,m4,hi',ga,hw,g0,g2,g3,g26,g27,g61,g28,h62,m0,m1,m2,m3,m4,m6,h6,mN,hN,m7,h7,y1,y2,y3,y4,hn',gn,hwn,x0,x1,gk,gy],by simp only [go_sem,j0,j2,j3,j26,j27,h28,m0,m1,m2,m3,m4,hi',ga,hw,g0,g2,g3,g26,g27,g61,g28,h62,m0,m1,m2,m3,m4,m6,h6,mN,hN,m7,h7,y1,y2,y3,y4,hn',gn,hwn,x0,x1,gk,gy],by simp only [go_sem,j0,j2,j3,j26,j27,h28,m0,m1,m2,m3,m4,hi',ga,hw,g0,g2,g3,g26,g27,g61,g28,h62,m0,m1,m2,m3,m4,m6,h6,mN,hN,m7,h7,y1,y2,y3,y4,hn',gn,hwn,x0,x1,gk,gy],by simp only [go_sem,j0,j2,j3,j26,j27,h28,m0,m1,m2,m3,m4,hi',ga,hw,g0,g2,g3,g26,g27,g61,g28,h62,m0,m1,m2,m3,m4,m6,h6,mN,hN,m7,h7,y1,y2,y3,y4,hn',gn,hwn,x0,x1,gk,gy],by simp only [go_sem,j0,j2,j3,j26,j27,h28,m0,m1,m2,m3,m4,hi',ga,hw,g0,g2,g3,g26,g27,g61,g28,h62,m0,m1,m2,m3,m4,m6,h6,mN,hN,m7,h7,y1,y2,y3,y4,hn',gn,hwn,x0,x1,gk,gy],⟨_,by simp only [go_sem,j0,j2,j3,j26,j27,h28,m0,m1,m2,m3,m4,hi',ga,hw,g0,g2,g3,g26,g27,g61,g28,h62,m0,m1,m2,m3,m4,m6,h6,mN,hN,m7,h7,y1,y2,y3,y4,hn',gn,hwn,x0,x1,gk,gy];try rfl,by simp only [go_sem,j0,j2,j3,j26,j27,h28,m0,m1,m2,m3,m4,hi',ga,hw,g0,g2,g3,g26,g27,g61,g28,h62,m0,m1,m2,m3,m4,m6,h6,mN,hN,m7,h7,y1,y2,y3,y4,hn',gn,hwn,x0,x1,gk,gy];try rfl⟩,⟨_,by simp only [go_sem,j0,j2,j3,j26,j27,h28,m0,m1,m2,m3,m4,hi',ga,hw,g0,g2,g3,g26,g27,g61,g28,h62,m0,m1,m2,m3,m4,m6,h6,mN,hN,m7,h7,y1,y2,y3,y4,hn',gn,hwn,x0,x1,gk,gy];try rfl,by simp only [go_sem,j0,j2,j3,j26,j27,h28,m0,m1,m2,m3,m4,hi',ga,hw,g0,g2,g3,g26,g27,g61,g28,h62,m0,m1,m2,m3,m4,m6,h6,mN,hN,m7,h7,y1,y2,y3,y4,hn',gn,hwn,x0,x1,gk,gy];try rfl⟩,⟨_,_,_,_,_,by simp only [go_sem,j0,j2,j3,j26,j27,h28,m0,m1,m2,m3,m4,hi',ga,hw,g0,g2,g3,g26,g27,g61,g28,h62,m0,m1,m2,m3,m4,m6,h6,mN,hN,m7,h7,y1,y2,y3,y4,hn',gn,hwn,x0,x1,gk,gy];try rfl,by simp only [go_sem,j0,j2,j3,j26,j27,h28,m0,m1,m2,m3,m4,hi',ga,hw,g0,g2,g3,g26,g27,g61,g28,h62,m0,m1,m2,m3,m4,m6,h6,mN,hN,m7,h7,y1,y2,y3,y4,hn',gn,hwn,x0,x1,gk,gy];try rfl,by simp only [go_sem,j0,j2,j3,j26,j27,h28,m0,m1,m2,m3,m4,hi',ga,hw,g0,g2,g3,g26,g27,g61,g28,h62,m0,m1,m2,m3,m4,m6,h6,mN,hN,m7,h7,y1,y2,y3,y4,hn',gn,hwn,x0,x1,gk,gy];try rfl,by simp only [go_sem,j0,j2,j3,j26,j27,h28,m0,m1,m2,m3,m4,hi',ga,hw,g0,g2,g3,g26,g27,g61,g28,h62,m0,m1,m2,m3,m4,m6,h6,mN,hN,m7,h7,y1,y2,y3,y4,hn',gn,hwn,x0,x1,gk,gy];try rfl,by simp only [go_sem,j0,j2,j3,j26,j27,h28,m0,m1,m2,m3,m4,hi',ga,hw,g0,g2,g3,g26,g27,g61,g28,h62,m0,m1,m2,m3,m4,m6,h6,mN,hN,m7,h7,y1,y2,y3,y4,hn',gn,hwn,x0,x1,gk,gy];try rfl,by simp only [go_sem,j0,j2,j3,j26,j27,h28,m0,m1,m2,m3,m4,hi',ga,hw,g0,g2,g3,g26,g27,g61,g28,h62,m0,m1,m2,m3,m4,m6,h6,mN,hN,m7,h7,y1,y2,y3,y4,hn',gn,hwn,x0,x1,gk,gy];try rfl⟩⟩
     · have hi':¬ (n:Int) < N.length:=by omega
       obtain rfl:n=N.length:=by omega
       rw [List.drop_length] at hfo
       have hfo:q=R:=hfo
       simp only [go_sem,Int.lt_irrefl,hw,j0,j2,j3,j26,j27,h28,m0,m1,m2,m3,m4,hi',ga,hw,g0,g2,g3,g26,g27,g61,g28,h62,m0,m1,m2,m3,m4,m6,h6,mN,hN,m7,h7,y1,y2,y3,y4]
       subst hfo
       exact ⟨i+1,by dsimp only;omega,by omega,by simp only [go_sem,j0,j2,j3,j26,j27,h28,m0,m1,m2,m3,m4,hi',ga,hw,g0,g2,g3,g26,g27,g61,g28,h62,m0,m1,m2,m3,m4,m6,h6,mN,hN,m7,h7,y1,y2,y3,y4],by simp only [go_sem,j0,j2,j3,j26,j27,h28,m0,m1,m2,m3,m4,hi',ga,hw,g0,g2,g3,g26,g27,g61,g28,h62,m0,m1,m2,m3,m4,m6,h6,mN,hN,m7,h7,y1,y2,y3,y4],by simp only [go_sem,hst,j0,j2,j3,j26,j27,h28,m0,m1,m2,m3,m4,hi',ga,hw,g0,g2,g3,g26,g27,g61,g28,h62,m0,m1,m2,m3,m4,m6,h6,mN,hN,m7,h7,y1,y2,y3,y4],by simp only [go_sem,hst,j0,j2,j3,j26,j27,h28,m0,m1,m2,m3,m4,hi',ga,hw,g0,g2,g3,g26,g27,g61,g28,h62,m0,m1,m2,m3,m4,m6,h6,mN,hN,m7,h7,y1,y2,y3,y4],_,_,by simp only [go_sem,j0,j2,j3,j26,j27,h28,m0,m1,m2,m3,m4,hi',ga,hw,g0,g2,g3,g26,g27,g61,g28,h62,m0,m1,m2,m3,m4,m6,h6,mN,hN,m7,h7,y1,y2,y3,y4];try rfl,rfl,by simp only [go_sem,j0,j2,j3,j26,j27,h28,m0,m1,m2,m3,m4,hi',ga,hw,g0,g2,g3,g26,g27,g61,g28,h62,m0,m1,m2,m3,m4,m6,h6,mN,hN,m7,h7,y1,y2,y3,y4];rw [hst,hqb];exact hbx⟩
 · have hi':¬ (i:Int) < p.length:=by omega
   obtain rfl:i=p.length:=by omega
   have tb:∀ (b:List Bool),b.length=p.length→(b.map Bb).take p.length=b.map Bb:=fun b h=>List.take_of_length_le (by simp [h])
   have ty:∀ (b:List MayD),b.length=p.length→(b.map MayD.d).take p.length=b.map MayD.d:=fun b h=>List.take_of_length_le (by simp [h])
   have k1:=ok.lm
   have k2:=ok.ly
   generalize anaN p p.length=r at m1 m2 hbx hbl k1 k2 ⊢
   have t1:=tb _ k1
   have t2:=ty _ k2
   rcases hbx with ⟨b1,b2⟩|⟨v,b1,b2⟩
   · subst b2
     simp only [go_sem,Int.lt_irrefl,k1,k2,t1,t2,Nat.le_refl,j0,j2,j3,j26,j27,h28,m0,m1,m2,m3,m4]
     obtain ⟨rm,ry,rb⟩:=r
     dsimp only at b1
     subst b1
     rfl
   · subst b1
     rw [b2] at m4
     have tk:(r.bad.map Ii).take r.bad.length=r.bad.map Ii:=List.take_of_length_le (by simp)
     simp only [go_sem,Int.lt_irrefl,k1,k2,t1,t2,m4,tk,Nat.le_refl,j0,j2,j3,j26,j27,h28,m0,m1,m2,m3,m4]
theorem spec_AnalyseProgram.fc (p:List StepD) (hp:p.length≤4194304):FCt prog F_spec_AnalyseProgram [.ro] [steps p] (.tup [(anaV p).d,Bb (goodP p)]) []:=by
 refine fct_run spec_AnalyseProgram.ok rfl ?_
 unfold anaV
 simp only [go_sem]
 refine fcW_bool (spec_GoodProgram.fc p hp) ?_
 cases hg:goodP p with
 | false=>simp only [go_sem];rfl
 | true =>
  have op:=prog_ok hg
  have c:=spec_l13Analyse.fc p op
  have hk:=anaN_ok op p.length
  generalize anaN p p.length=r at c hk ⊢
  obtain ⟨r0,r1,r2⟩:=r
  have k1:(r0.map Bb).take r0.length=r0.map Bb:=List.take_of_length_le (by simp)
  have k2:(r1.map MayD.d).take r1.length=r1.map MayD.d:=List.take_of_length_le (by simp)
  have k3:(r2.map Ii).take r2.length=r2.map Ii:=List.take_of_length_le (by simp)
  simp only [go_sem]
  refine fcW_bd c noRs_Report ?_
  simp only [go_sem,take_map_len,k1,k2,k3]
set_option maxHeartbeats 4000000
def inS (x:Int) (s:Int×Int):Prop:=s.1≤x∧x≤s.2
def inK (x:Int) (k:Int×Int):Prop:=andNotI x k.2=k.1
theorem SOk.wd_of {s:Int×Int} (h:SOk s) {x:Int} (hx:inS x s):wd x:=⟨by have:=h.lo;have:=hx.1;omega,by have:=h.hi;have:=hx.2;omega⟩
theorem ends_sound {lo hi z:Int} (h1:lo≤z) (h2:z≤hi):inS (z % 65536) (endsI lo hi):=by
 unfold endsI inS
 split
 · dsimp only;omega
 · rename_i hc
   have hc:lo / 65536=hi / 65536:=by simpa using hc
   dsimp only
   omega
theorem or_ge {x y:Int} (hx:wd x) (hy:wd y):x≤orI x y∧y≤orI x y:=by
 rw [orI_nat hx.nn hy.nn]
 have h1:x.toNat≤x.toNat ||| y.toNat:=Nat.left_le_or
 have h2:y.toNat≤x.toNat ||| y.toNat:=Nat.right_le_or
 have:=hx.1;have:=hy.1
 omega
theorem or_ones {x y n:Int} (hx:wd x) (hy:wd y) (h1:x≤n) (h2:y≤n) (hn:n≤65535):orI x y≤onesW n 0∧xorI x y≤onesW n 0:=by
 obtain ⟨j,hj,e⟩:=onesW_form n hn
 have hge:=onesW_ge n 0 (Int.le_refl 0)
 rw [e] at hge ⊢
 have hx0:=hx.1
 have hy0:=hy.1
 have ex:((2:Nat) ^ j:Nat)=((2:Int) ^ j):=by simp
 have bx:x.toNat < 2 ^ j:=by omega
 have b_y:y.toNat < 2 ^ j:=by omega
 have ho:=Nat.or_lt_two_pow bx b_y
 have hxo:=Nat.xor_lt_two_pow bx b_y
 rw [orI_nat hx.nn hy.nn,xorI_nat hx.nn hy.nn]
 omega
theorem and_le {x y:Int} (hx:wd x) (hy:wd y):0≤andI x y∧andI x y≤x∧andI x y≤y:=by
 rw [andI_nat hx.nn hy.nn]
 have h1:x.toNat &&& y.toNat≤x.toNat:=Nat.and_le_left
 have h2:x.toNat &&& y.toNat≤y.toNat:=Nat.and_le_right
 have:=hx.1;have:=hy.1
 omega
theorem doI_cases (op x y:Int):doI op x y=if op == 1 then IntKind.i64.wrap (x+y) % 65536 else if op == 2 then IntKind.i64.wrap (x - y) % 65536 else if op == 3 then IntKind.i64.wrap (x * y) % 65536
 else if op == 4 then (if y == 0 then 0 else IntKind.i64.wrap (Int.tdiv x y)) else if op == 5 then (if y == 0 then x else Int.tmod x y)
 else if op == 6 then andI x y else if op == 7 then orI x y else if op == 8 then xorI x y
 else if op == 9 then IntKind.i64.wrap (x * shP y) % 65536 else Int.fdiv x (shP y):=rfl
theorem tdiv_w {x y:Int} (hx:wd x) (hy:0≤y):IntKind.i64.wrap (Int.tdiv x y)=Int.tdiv x y:=by
 have:=tdiv_in hx.1 hy
 have:=hx.2
 exact wrap_in (by omega) (by omega)
theorem stI_sound {op x y:Int} {a b:Int×Int} (ha:SOk a) (hb:SOk b) (hx:inS x a) (hy:inS y b):inS (doI op x y) (stI op a b):=by
 have wx:=ha.wd_of hx
 have wy:=hb.wd_of hy
 have hp:=shP_in wy.1
 have hor:=or_ge wx wy
 have hand:=and_le wx wy
 obtain ⟨a1,a2,a3⟩:=ha
 obtain ⟨b1,b2,b3⟩:=hb
 obtain ⟨x1,x2⟩:=hx
 obtain ⟨y1,y2⟩:=hy
 have hm:=mxI_ge (a:=a.1) (b:=b.1)
 have hm2:=mxI_ge (a:=a.2) (b:=b.2)
 have hn:=mnI_le (a:=a.2) (b:=b.2)
 have hn2:=mnI_le (a:=a.2) (b:=b.2 - 1)
 have hoo:=or_ones (n:=mxI a.2 b.2) wx wy (by omega) (by omega) (by omega)
 have ww:0≤x∧x≤65535:=wx
 have ww2:0≤y∧y≤65535:=wy
 rw [doI_cases]
 unfold stI
 split
 · rw [wrap_in (x:=x+y) (by omega) (by omega)]
   exact ends_sound (by omega) (by omega)
 split
 · rw [wrap_in (x:=x - y) (by omega) (by omega)]
   exact ends_sound (by omega) (by omega)
 split
 · have h1:x * y≤a.2 * b.2:=Int.mul_le_mul x2 y2 ww2.1 (by omega)
   have h2:a.1 * b.1≤x * y:=Int.mul_le_mul x1 y1 b1 (by omega)
   have h3:=mul_in (a:=x) (b:=y) (A:=65535) (B:=65535) ww.1 ww.2 ww2.1 ww2.2
   rw [wrap_in (x:=x * y) (by omega) (by omega)]
   exact ends_sound h2 h1
 split
 · by_cases y0:y=0
   · subst y0
     have:b.1=0:=by omega
     simp only [this,beq_self_eq_true,if_true]
     exact ⟨Int.le_refl 0,by dsimp only;omega⟩
   · have yb:(y == 0)=false:=by simpa using y0
     rw [yb,tdiv_w wx ww2.1]
     simp only [Bool.false_eq_true,if_false]
     have hin:=tdiv_in (a:=x) (b:=y) ww.1 ww2.1
     split
     · exact ⟨hin.1,by dsimp only;omega⟩
     · rename_i hb0
       have hb0:¬ b.1=0:=by simpa using hb0
       have h1:=tdiv_anti (a:=a.1) (b:=x) (c:=b.2) (d:=y) a1 x1 (by omega) y2
       have h2:=tdiv_anti (a:=x) (b:=a.2) (c:=y) (d:=b.1) ww.1 x2 (by omega) y1
       exact ⟨h1,h2⟩
 split
 · unfold modS
   by_cases y0:y=0
   · subst y0
     have hb0:b.1=0:=by omega
     simp only [beq_self_eq_true,if_true,hb0]
     split
     · exact ⟨x1,x2⟩
     · exact ⟨ww.1,by dsimp only;omega⟩
   · have yb:(y == 0)=false:=by simpa using y0
     rw [yb]
     simp only [Bool.false_eq_true,if_false]
     rw [Int.tmod_eq_emod_of_nonneg ww.1]
     have hl:=Int.emod_lt_of_pos x (show 0 < y by omega)
     have hg:=Int.emod_nonneg x y0
     have hle:x % y≤x:=by
      have:=Int.emod_add_mul_ediv x y
      have h3:0≤x / y:=Int.ediv_nonneg ww.1 ww2.1
      have h4:0≤y * (x / y):=Int.mul_nonneg ww2.1 h3
      omega
     split
     · rw [Int.emod_eq_of_lt ww.1 (by omega)]
       exact ⟨x1,x2⟩
     split
     · exact ⟨hg,by dsimp only;omega⟩
     · refine ⟨hg,?_⟩
       dsimp only
       omega
 split
 · exact ⟨hand.1,by dsimp only;omega⟩
 split
 · exact ⟨by dsimp only;omega,hoo.1⟩
 split
 · exact ⟨(xorI_wd wx wy).1,hoo.2⟩
 unfold shS
 split
 · split
   · rename_i hb1
     have hb1:b.1=b.2:=by simpa using hb1
     obtain rfl:y=b.1:=by omega
     have h3:=mul_in (a:=x) (b:=shP b.1) (A:=65535) (B:=32768) ww.1 ww.2 (by omega) hp.2
     rw [wrap_in (x:=x * shP b.1) (by omega) (by omega)]
     exact ends_sound (Int.mul_le_mul_of_nonneg_right x1 (by omega)) (Int.mul_le_mul_of_nonneg_right x2 (by omega))
   · have:=emod_wd (IntKind.i64.wrap (x * shP y))
     exact ⟨this.1,this.2⟩
 · rw [fdivP ww.1 (by omega)]
   have hin:=tdiv_in (a:=x) (b:=shP y) ww.1 (by omega)
   split
   · rename_i hb1
     have hb1:b.1=b.2:=by simpa using hb1
     obtain rfl:y=b.1:=by omega
     exact ⟨tdiv_mono a1 x1 (by omega),tdiv_mono ww.1 x2 (by omega)⟩
   · exact ⟨hin.1,by dsimp only;omega⟩
theorem inK_bits {x:Int} {k:Int×Int} (hk:KOk k) (hx:wd x):inK x k↔∀ i,i < 16→((bI x).getLsbD i&&!(bI k.2).getLsbD i)=(bI k.1).getLsbD i:=by
 unfold inK
 constructor
 · intro h i hi
   have e:bI (andNotI x k.2)=bI k.1:=by rw [h]
   rw [andNotI_bv,bI_toInt] at e
   rw [← e]
   simp [show i < 64 by omega]
 · intro h
   refine bI_inj (andNotI_wd hx) hk.v ?_
   rw [andNotI_bv,bI_toInt]
   apply BitVec.eq_of_getLsbD_eq
   intro i hi
   by_cases h16:i < 16
   · rw [← h i h16];simp [hi]
   · rw [bI_wd hk.v (by omega)]
     simp [bI_wd hx (show 16≤i by omega)]
theorem inK_exact {x n:Int} (hx:wd x) (h:inK x (n,0)):x=n:=by
 unfold inK at h
 rw [andNotI_nat (b:=0) hx.nn wd0.nn] at h
 have:=hx.1
 simp at h
 omega
theorem inK_self {n:Int} (hn:wd n):inK n (n,0):=by
 unfold inK
 rw [andNotI_nat (b:=0) hn.nn wd0.nn]
 have:=hn.1
 simp
 omega
theorem inK_all {x:Int} (hx:wd x):inK x (0,65535):=by
 rw [inK_bits unk_ok hx]
 intro i hi
 rw [bI_mask,bI_zero]
 simp [hi]
theorem knN_bits {x v m:Int} (hx:wd x) (hv:wd v) (hm:wd m) (h:∀ i,i < 16→(bI m).getLsbD i=false→(bI x).getLsbD i=(bI v).getLsbD i):inK x (knN v m):=by
 rw [inK_bits (knN_ok hv hm) hx]
 intro i hi
 have h64:i < 64:=by omega
 show _=(bI (andNotI v m)).getLsbD i
 rw [andNotI_bv,bI_toInt]
 simp only [knN,BitVec.getLsbD_and,BitVec.getLsbD_not,h64,decide_true,Bool.true_and]
 have:=h i hi
 cases hmi:(bI m).getLsbD i with
 | true=>simp
 | false=>rw [this hmi]
theorem joinK_sound {x:Int} {a b:Int×Int} (ha:KOk a) (hb:KOk b) (hx:wd x) (h:inK x a∨inK x b):inK x (joinK a b):=by
 refine knN_bits hx ha.v (orI_wd (orI_wd ha.m hb.m) (xorI_wd ha.v hb.v)) fun i hi hm=>?_
 rw [orI_bv,bI_toInt,orI_bv,bI_toInt,xorI_bv,bI_toInt] at hm
 simp only [BitVec.getLsbD_or,BitVec.getLsbD_xor,Bool.or_eq_false_iff] at hm
 obtain ⟨⟨h1,h2⟩,h3⟩:=hm
 rcases h with h|h
 · have:=(inK_bits ha hx).1 h i hi
   rw [h1] at this
   simpa using this
 · have:=(inK_bits hb hx).1 h i hi
   rw [h2] at this
   have h4:(bI a.1).getLsbD i=(bI b.1).getLsbD i:=by
    revert h3;cases (bI a.1).getLsbD i<;>cases (bI b.1).getLsbD i<;>simp
   rw [h4]
   simpa using this
theorem kbI_sound {op x y:Int} {a b:Int×Int} (ho:op=6∨op=7∨op=8) (ha:KOk a) (hb:KOk b) (wx:wd x) (wy:wd y) (hx:inK x a) (hy:inK y b):inK (doI op x y) (kbI op a b):=by
 have hx:=(inK_bits ha wx).1 hx
 have hy:=(inK_bits hb wy).1 hy
 rw [inK_bits (kbI_ok ha hb) (doI_wd wx wy)]
 intro i hi
 have h1:=hx i hi
 have h2:=hy i hi
 have d1:=disj ha.dj i
 have d2:=disj hb.dj i
 have h64:i < 64:=by omega
 rcases ho with rfl|rfl|rfl
 · show ((bI (andI x y)).getLsbD i&&!(bI (andNotI (andI (orI a.1 a.2) (orI b.1 b.2)) (andI a.1 b.1))).getLsbD i)=(bI (andI a.1 b.1)).getLsbD i
   simp only [andNotI_bv,orI_bv,andI_bv,bI_toInt,BitVec.getLsbD_and,BitVec.getLsbD_not,BitVec.getLsbD_or,h64,decide_true,Bool.true_and]
   revert h1 h2 d1 d2
   cases (bI a.1).getLsbD i<;>cases (bI a.2).getLsbD i<;>cases (bI b.1).getLsbD i<;>cases (bI b.2).getLsbD i<;>cases (bI x).getLsbD i<;>cases (bI y).getLsbD i<;>simp
 · show ((bI (orI x y)).getLsbD i&&!(bI (andNotI (orI a.2 b.2) (orI a.1 b.1))).getLsbD i)=(bI (orI a.1 b.1)).getLsbD i
   simp only [andNotI_bv,orI_bv,andI_bv,bI_toInt,BitVec.getLsbD_and,BitVec.getLsbD_not,BitVec.getLsbD_or,h64,decide_true,Bool.true_and]
   revert h1 h2 d1 d2
   cases (bI a.1).getLsbD i<;>cases (bI a.2).getLsbD i<;>cases (bI b.1).getLsbD i<;>cases (bI b.2).getLsbD i<;>cases (bI x).getLsbD i<;>cases (bI y).getLsbD i<;>simp
 · show ((bI (xorI x y)).getLsbD i&&!(bI (orI a.2 b.2)).getLsbD i)=(bI (andNotI (xorI a.1 b.1) (orI a.2 b.2))).getLsbD i
   simp only [andNotI_bv,orI_bv,andI_bv,xorI_bv,bI_toInt,BitVec.getLsbD_and,BitVec.getLsbD_not,BitVec.getLsbD_or,BitVec.getLsbD_xor,h64,decide_true,Bool.true_and]
   revert h1 h2 d1 d2
   cases (bI a.1).getLsbD i<;>cases (bI a.2).getLsbD i<;>cases (bI b.1).getLsbD i<;>cases (bI b.2).getLsbD i<;>cases (bI x).getLsbD i<;>cases (bI y).getLsbD i<;>simp
def sub (x y:BitVec 64):Prop:=∀ i,x.getLsbD i=true→y.getLsbD i=true
theorem sub_mod {x y:BitVec 64} (h:sub x y) (i:Nat):x.toNat % 2 ^ i≤y.toNat % 2 ^ i:=by
 have e:x.toNat % 2 ^ i=(x.toNat % 2 ^ i) &&& (y.toNat % 2 ^ i):=by
  apply Nat.eq_of_testBit_eq
  intro j
  simp only [Nat.testBit_and,Nat.testBit_mod_two_pow]
  have:=h j
  simp only [BitVec.getLsbD] at this
  cases hx:x.toNat.testBit j
  · simp
  · simp [this hx]
 rw [e]
 exact Nat.and_le_right
theorem carry_mono {i:Nat} {x y x' y':BitVec 64} (hx:sub x x') (hy:sub y y') (c:Bool) (h:BitVec.carry i x y c=true):BitVec.carry i x' y' c=true:=by
 simp only [BitVec.carry,decide_eq_true_eq] at h ⊢
 have:=sub_mod hx i
 have:=sub_mod hy i
 omega
theorem sum_bits {i:Nat} (hi:i < 64) {l m u l' m' u':BitVec 64} (c:Bool) (h1:sub l m) (h2:sub m u) (h3:sub l' m') (h4:sub m' u')
 (e1:l.getLsbD i=u.getLsbD i) (e2:l'.getLsbD i=u'.getLsbD i) (e:(l+l'+BitVec.setWidth 64 (BitVec.ofBool c)).getLsbD i=(u+u'+BitVec.setWidth 64 (BitVec.ofBool c)).getLsbD i) :
 (m+m'+BitVec.setWidth 64 (BitVec.ofBool c)).getLsbD i=(l+l'+BitVec.setWidth 64 (BitVec.ofBool c)).getLsbD i:=by
 have em:m.getLsbD i=l.getLsbD i:=by
  have a:=h1 i;have b:=h2 i
  revert a b e1
  cases l.getLsbD i<;>cases m.getLsbD i<;>cases u.getLsbD i<;>simp
 have em':m'.getLsbD i=l'.getLsbD i:=by
  have a:=h3 i;have b:=h4 i
  revert a b e2
  cases l'.getLsbD i<;>cases m'.getLsbD i<;>cases u'.getLsbD i<;>simp
 rw [BitVec.getLsbD_add_add_bool hi,BitVec.getLsbD_add_add_bool hi] at e ⊢
 rw [em,em']
 have c1:=carry_mono (i:=i) h1 h3 c
 have c2:=carry_mono (i:=i) h2 h4 c
 rw [← e1,← e2] at e
 revert c1 c2 e
 cases BitVec.carry i l l' c<;>cases BitVec.carry i m m' c<;>cases BitVec.carry i u u' c<;>cases l.getLsbD i<;>cases l'.getLsbD i<;>simp
theorem bI_add (a b:Int):bI (a+b)=bI a+bI b:=BitVec.ofInt_add a b
theorem bI_sub (a b:Int):bI (a - b)=bI a+~~~bI b+BitVec.setWidth 64 (BitVec.ofBool true):=by
 have h:bI (a - b)+bI b=bI a:=by rw [← bI_add];exact congrArg bI (by omega)
 have h2:bI a+~~~bI b+BitVec.setWidth 64 (BitVec.ofBool true)=bI a - bI b:=by
  rw [BitVec.sub_eq_add_neg,BitVec.neg_eq_not_add,BitVec.add_assoc];rfl
 rw [h2,← h,BitVec.add_sub_cancel]
theorem bI_emod (n:Int) {i:Nat} (hi:i < 16):(bI (n % 65536)).getLsbD i=(bI n).getLsbD i:=by
 rw [← andI_mask,andI_bv,bI_toInt,BitVec.getLsbD_and,bI_mask]
 simp [hi]
theorem add0 (x:BitVec 64):x+BitVec.setWidth 64 (BitVec.ofBool false)=x:=by
 have:BitVec.setWidth 64 (BitVec.ofBool false)=0#64:=by decide
 rw [this,BitVec.add_zero]
theorem sub_lo {x:Int} {k:Int×Int} (hk:KOk k) (hx:wd x) (h:inK x k):sub (bI k.1) (bI x):=by
 intro i hi
 by_cases h16:i < 16
 · have:=(inK_bits hk hx).1 h i h16
   rw [hi] at this
   simp only [Bool.and_eq_true] at this
   exact this.1
 · rw [bI_wd hk.v (by omega)] at hi;cases hi
theorem sub_hi {x:Int} {k:Int×Int} (hk:KOk k) (hx:wd x) (h:inK x k):sub (bI x) (bI k.1 ||| bI k.2):=by
 intro i hi
 by_cases h16:i < 16
 · have:=(inK_bits hk hx).1 h i h16
   rw [hi] at this
   rw [BitVec.getLsbD_or,← this]
   cases (bI k.2).getLsbD i<;>rfl
 · rw [bI_wd hx (by omega)] at hi;cases hi
theorem sub_not {x y:BitVec 64} (h:sub x y):sub (~~~y) (~~~x):=by
 intro i hi
 simp only [BitVec.getLsbD_not,Bool.and_eq_true,decide_eq_true_eq,Bool.not_eq_true'] at hi ⊢
 refine ⟨hi.1,?_⟩
 have:=h i
 cases hx:x.getLsbD i
 · rfl
 · rw [this hx] at hi;exact absurd hi.2 (by simp)
theorem or_add {k:Int×Int} (hk:KOk k):bI k.1 ||| bI k.2=bI (k.1+k.2):=by
 rw [bI_add,BitVec.add_eq_or_of_and_eq_zero _ _ (andI_zero hk.dj)]
theorem sub_or (x y:BitVec 64):sub x (x ||| y):=fun i h=>by rw [BitVec.getLsbD_or,h];rfl
theorem sub_refl (x:BitVec 64):sub x x:=fun _ h=>h
theorem kd_add {x y:Int} {a b:Int×Int} (ha:KOk a) (hb:KOk b) (wx:wd x) (wy:wd y) (hx:inK x a) (hy:inK y b):inK (doI 1 x y) (kdI 1 a b):=by
 have w1:=ha.v;have w2:=ha.m;have w3:=hb.v;have w4:=hb.m
 unfold wd at wx wy w1 w2 w3 w4
 have e1:doI 1 x y=(x+y) % 65536:=by
  show IntKind.i64.wrap (x+y) % 65536=_
  rw [wrap_in (x:=x+y) (by omega) (by omega)]
 have e2:kdI 1 a b=knN ((a.1+b.1) % 65536) (orI (orI a.2 b.2) (xorI ((a.1+b.1) % 65536) ((a.1+a.2+b.1+b.2) % 65536))):=by
  show knN (IntKind.i64.wrap (a.1+b.1) % 65536) (orI (orI a.2 b.2) (xorI (IntKind.i64.wrap (a.1+b.1) % 65536) (IntKind.i64.wrap (IntKind.i64.wrap (IntKind.i64.wrap (a.1+a.2)+b.1)+b.2) % 65536)))=_
  rw [wrap_in (x:=a.1+b.1) (by omega) (by omega),wrap_in (x:=a.1+a.2) (by omega) (by omega),wrap_in (x:=a.1+a.2+b.1) (by omega) (by omega),wrap_in (x:=a.1+a.2+b.1+b.2) (by omega) (by omega)]
 rw [e1,e2]
 refine knN_bits (emod_wd _) (emod_wd _) (orI_wd (orI_wd ha.m hb.m) (xorI_wd (emod_wd _) (emod_wd _))) fun i hi hm=>?_
 rw [orI_bv,bI_toInt,orI_bv,bI_toInt,xorI_bv,bI_toInt] at hm
 simp only [BitVec.getLsbD_or,BitVec.getLsbD_xor,Bool.or_eq_false_iff] at hm
 obtain ⟨⟨m1,m2⟩,m3⟩:=hm
 rw [bI_emod _ hi,bI_emod _ hi] at m3
 rw [bI_emod _ hi,bI_emod _ hi]
 have e3:a.1+a.2+b.1+b.2=(a.1+a.2)+(b.1+b.2):=by omega
 rw [e3,bI_add (a.1+a.2),← or_add ha,← or_add hb] at m3
 have m3:(bI (a.1+b.1)).getLsbD i=((bI a.1 ||| bI a.2)+(bI b.1 ||| bI b.2)).getLsbD i:=by
  revert m3
  cases (bI (a.1+b.1)).getLsbD i<;>cases ((bI a.1 ||| bI a.2)+(bI b.1 ||| bI b.2)).getLsbD i<;>simp
 rw [bI_add] at m3
 rw [bI_add,bI_add]
 have:=sum_bits (i:=i) (by omega) false (sub_lo ha wx hx) (sub_hi ha wx hx) (sub_lo hb wy hy) (sub_hi hb wy hy)
  (by rw [BitVec.getLsbD_or,m1,Bool.or_false]) (by rw [BitVec.getLsbD_or,m2,Bool.or_false]) (by rw [add0,add0];exact m3)
 rwa [add0,add0] at this
theorem kd_sub {x y:Int} {a b:Int×Int} (ha:KOk a) (hb:KOk b) (wx:wd x) (wy:wd y) (hx:inK x a) (hy:inK y b):inK (doI 2 x y) (kdI 2 a b):=by
 have w1:=ha.v;have w2:=ha.m;have w3:=hb.v;have w4:=hb.m
 unfold wd at wx wy w1 w2 w3 w4
 have e1:doI 2 x y=(x - y) % 65536:=by
  show IntKind.i64.wrap (x - y) % 65536=_
  rw [wrap_in (x:=x - y) (by omega) (by omega)]
 have e2:kdI 2 a b=knN ((a.1 - b.1) % 65536) (orI (orI a.2 b.2) (xorI ((a.1+a.2 - b.1) % 65536) ((a.1 - (b.1+b.2)) % 65536))):=by
  show knN (IntKind.i64.wrap (a.1 - b.1) % 65536) (orI (orI a.2 b.2) (xorI (IntKind.i64.wrap (IntKind.i64.wrap (a.1 - b.1) % 65536+a.2) % 65536) (IntKind.i64.wrap (IntKind.i64.wrap (a.1 - b.1) % 65536 - b.2) % 65536)))=_
  rw [wrap_in (x:=a.1 - b.1) (by omega) (by omega),wrap_in (x:=(a.1 - b.1) % 65536+a.2) (by omega) (by omega),wrap_in (x:=(a.1 - b.1) % 65536 - b.2) (by omega) (by omega)]
  have f1:((a.1 - b.1) % 65536+a.2) % 65536=(a.1+a.2 - b.1) % 65536:=by omega
  have f2:((a.1 - b.1) % 65536 - b.2) % 65536=(a.1 - (b.1+b.2)) % 65536:=by omega
  rw [f1,f2]
 rw [e1,e2]
 refine knN_bits (emod_wd _) (emod_wd _) (orI_wd (orI_wd ha.m hb.m) (xorI_wd (emod_wd _) (emod_wd _))) fun i hi hm=>?_
 rw [orI_bv,bI_toInt,orI_bv,bI_toInt,xorI_bv,bI_toInt] at hm
 simp only [BitVec.getLsbD_or,BitVec.getLsbD_xor,Bool.or_eq_false_iff] at hm
 obtain ⟨⟨m1,m2⟩,m3⟩:=hm
 rw [bI_emod _ hi,bI_emod _ hi] at m3
 rw [bI_emod _ hi,bI_emod _ hi]
 rw [bI_sub,bI_sub,← or_add ha,← or_add hb] at m3
 have h64:i < 64:=by omega
 have q1:(bI a.1).getLsbD i=(bI a.1 ||| bI a.2).getLsbD i:=by rw [BitVec.getLsbD_or,m1,Bool.or_false]
 have q2:(~~~(bI b.1 ||| bI b.2)).getLsbD i=(~~~bI b.1).getLsbD i:=by simp [m2]
 have m3:(bI a.1+~~~(bI b.1 ||| bI b.2)+BitVec.setWidth 64 (BitVec.ofBool true)).getLsbD i=((bI a.1 ||| bI a.2)+~~~bI b.1+BitVec.setWidth 64 (BitVec.ofBool true)).getLsbD i:=by
  revert m3
  generalize (bI a.1+~~~(bI b.1 ||| bI b.2)+BitVec.setWidth 64 (BitVec.ofBool true)).getLsbD i=p
  generalize ((bI a.1 ||| bI a.2)+~~~bI b.1+BitVec.setWidth 64 (BitVec.ofBool true)).getLsbD i=q
  cases p<;>cases q<;>simp
 have s1:=sum_bits h64 true (sub_lo ha wx hx) (sub_hi ha wx hx) (sub_not (sub_hi hb wy hy)) (sub_not (sub_lo hb wy hy)) q1 q2 m3
 have s2:=sum_bits h64 true (sub_refl (bI a.1)) (sub_or (bI a.1) (bI a.2)) (sub_not (sub_or (bI b.1) (bI b.2))) (sub_refl (~~~bI b.1)) q1 q2 m3
 rw [bI_sub,bI_sub,s1,s2]
theorem bI_nat {x:Int} (hx:0≤x):bI x=BitVec.ofNat 64 x.toNat:=by
 obtain ⟨n,rfl⟩:=Int.eq_ofNat_of_zero_le hx
 rw [Int.toNat_natCast]
 exact BitVec.ofInt_natCast 64 n
theorem bits_nat {x:Int} (hx:wd x) {i:Nat} (hi:i < 16):(bI x).getLsbD i=x.toNat.testBit i:=by
 rw [bI_nat hx.1,BitVec.getLsbD_ofNat]
 simp [show i < 64 by omega]
theorem inK_nat {x:Int} {k:Int×Int} (hk:KOk k) (hx:wd x):inK x k↔∀ i,i < 16→(x.toNat.testBit i&&!k.2.toNat.testBit i)=k.1.toNat.testBit i:=by
 rw [inK_bits hk hx]
 constructor
 · intro h i hi
   have:=h i hi
   rwa [bits_nat hx hi,bits_nat hk.m hi,bits_nat hk.v hi] at this
 · intro h i hi
   rw [bits_nat hx hi,bits_nat hk.m hi,bits_nat hk.v hi]
   exact h i hi
theorem kd_sh {op x y:Int} {a b:Int×Int} (ho:op=9∨op=10) (ha:KOk a) (hb:KOk b) (wx:wd x) (wy:wd y) (hx:inK x a) (hy:inK y b) (h0:b.2=0):inK (doI op x y) (doI op a.1 b.1,doI op a.2 b.1):=by
 have hk:KOk (doI op a.1 b.1,doI op a.2 b.1):=sh_ok ho ha hb
 obtain rfl:y=b.1:=inK_exact wy (by unfold inK at hy ⊢;rw [h0] at hy;exact hy)
 rw [inK_nat hk (doI_wd wx wy)]
 have hx:=(inK_nat ha wx).1 hx
 have ht:=tmod16 hb.v.1
 have hn:min (Int.tmod b.1 16).toNat IntKind.i64.bits < 16:=by show min _ 64 < 16;omega
 generalize hq:min (Int.tmod b.1 16).toNat IntKind.i64.bits=k at hn
 intro i hi
 dsimp only
 rcases ho with rfl|rfl
 · have e:∀ x,doI 9 x b.1=IntKind.i64.wrap (x * 2 ^ k) % 65536:=fun x=>by rw [← hq];rfl
   rw [e,e,e,shl_mod ha.v hn,shl_mod ha.m hn,shl_mod wx hn]
   simp only [Int.toNat_natCast,Nat.testBit_mod_two_pow,Nat.testBit_shiftLeft,hi,decide_true,Bool.true_and]
   by_cases hki:k≤i
   · simp only [ge_iff_le,hki,decide_true,Bool.true_and]
     exact hx (i - k) (by omega)
   · simp [hki]
 · have e:∀ x,doI 10 x b.1=Int.fdiv x (2 ^ k):=fun x=>by rw [← hq];rfl
   rw [e,e,e,fdiv_shift ha.v,fdiv_shift ha.m,fdiv_shift wx]
   simp only [Int.toNat_natCast,Nat.testBit_shiftRight]
   by_cases hki:k+i < 16
   · exact hx (k+i) hki
   · have z:∀ n:Int,wd n→n.toNat.testBit (k+i)=false:=fun n hn=>Nat.testBit_lt_two_pow (Nat.lt_of_lt_of_le hn.lt (Nat.pow_le_pow_right (by omega) (by omega)))
     rw [z x wx,z a.1 ha.v]
     simp
theorem kdI_sound {op x y:Int} {a b:Int×Int} (ha:KOk a) (hb:KOk b) (wx:wd x) (wy:wd y) (hx:inK x a) (hy:inK y b):inK (doI op x y) (kdI op a b):=by
 have hw:=doI_wd (op:=op) wx wy
 have bk:∀ j:Int,(op == j)=true→op=j:=fun j h=>by simpa using h
 unfold kdI
 split
 · rename_i h;exact kbI_sound (.inl (bk _ h)) ha hb wx wy hx hy
 split
 · rename_i h;exact kbI_sound (.inr (.inl (bk _ h))) ha hb wx wy hx hy
 split
 · rename_i h;exact kbI_sound (.inr (.inr (bk _ h))) ha hb wx wy hx hy
 split
 · rename_i h
   obtain rfl:=bk _ h
   exact kd_add ha hb wx wy hx hy
 split
 · rename_i h
   obtain rfl:=bk _ h
   exact kd_sub ha hb wx wy hx hy
 split
 · rename_i h
   obtain rfl:=bk _ h
   split
   · rename_i h0;exact kd_sh (.inl rfl) ha hb wx wy hx hy (by simpa using h0)
   · exact inK_all hw
 split
 · rename_i h
   obtain rfl:=bk _ h
   split
   · rename_i h0;exact kd_sh (.inr rfl) ha hb wx wy hx hy (by simpa using h0)
   · exact inK_all hw
 split
 · rename_i ha0
   split
   · rename_i hb0
     have ha0:a.2=0:=by simpa using ha0
     have hb0:b.2=0:=by simpa using hb0
     obtain rfl:x=a.1:=inK_exact wx (by unfold inK at hx ⊢;rw [ha0] at hx;exact hx)
     obtain rfl:y=b.1:=inK_exact wy (by unfold inK at hy ⊢;rw [hb0] at hy;exact hy)
     exact inK_self hw
   · exact inK_all hw
 · exact inK_all hw
theorem inK_bounds {x:Int} {k:Int×Int} (hk:KOk k) (hx:wd x) (h:inK x k):k.1≤x∧x≤k.1+k.2:=by
 unfold inK at h
 have e:andNotI x k.2+andI x k.2=x:=by
  have h1:bI (andNotI x k.2)+bI (andI x k.2)=bI x:=by
   rw [andNotI_bv,andI_bv,bI_toInt,bI_toInt,BitVec.add_eq_or_of_and_eq_zero]
   · apply BitVec.eq_of_getLsbD_eq
     intro i hi
     simp only [BitVec.getLsbD_or,BitVec.getLsbD_and,BitVec.getLsbD_not,hi,decide_true,Bool.true_and]
     cases (bI x).getLsbD i<;>cases (bI k.2).getLsbD i<;>simp
   · apply BitVec.eq_of_getLsbD_eq
     intro i hi
     simp only [BitVec.getLsbD_and,BitVec.getLsbD_not,hi,decide_true,Bool.true_and]
     cases (bI x).getLsbD i<;>cases (bI k.2).getLsbD i<;>simp
  rw [← bI_add] at h1
  have a1:=andNotI_wd (b:=k.2) hx
  have a2:=and_le hx hk.m
  unfold wd at a1
  have h2:=congrArg BitVec.toNat h1
  have w1:nn (andNotI x k.2+andI x k.2):=⟨by omega,by have:=hx.2;omega⟩
  have b1:(bI (andNotI x k.2+andI x k.2)).toNat=(andNotI x k.2+andI x k.2).toNat:=bv_nn w1
  have b2:(bI x).toNat=x.toNat:=bv_nn hx.nn
  rw [b1,b2] at h2
  have:=hx.1
  omega
 have a2:=and_le hx hk.m
 omega
theorem reduS_sound {s k:Int×Int} (hs:SOk s) (hk:KOk k) {x:Int} (hx:wd x):(inS x s∧inK x k)↔∃ r,reduS s k=some r∧inS x r.1∧inK x r.2:=by
 have k1:=hk.v
 have k2:=hk.m
 unfold wd at k1 k2
 have hw:IntKind.i64.wrap (k.1+k.2)=k.1+k.2:=wrap_in (by omega) (by omega)
 have hb:=inK_bounds hk hx
 unfold reduS
 dsimp only
 rw [hw]
 generalize hlo:(if k.1 > s.1 then k.1 else s.1)=lo
 generalize hhi:(if k.1+k.2 < s.2 then k.1+k.2 else s.2)=hi
 have l1:k.1≤lo∧s.1≤lo∧(lo=k.1∨lo=s.1):=by subst hlo;split<;>omega
 have l2:hi≤k.1+k.2∧hi≤s.2∧(hi=k.1+k.2∨hi=s.2):=by subst hhi;split<;>omega
 clear hlo hhi
 have back:lo≤x→x≤hi→inS x s:=fun h1 h2=>⟨by omega,by omega⟩
 constructor
 · rintro ⟨h1,h2⟩
   have hb:=hb h2
   obtain ⟨h3,h4⟩:=h1
   rw [if_neg (by omega)]
   split
   · exact ⟨_,rfl,⟨by dsimp only;omega,by dsimp only;omega⟩,h2⟩
   · have e:x=lo:=by omega
     subst e
     rw [if_pos (by rw [beq_iff_eq];exact h2)]
     exact ⟨_,rfl,⟨by dsimp only;omega,by dsimp only;omega⟩,inK_self hx⟩
 · rintro ⟨r,hr,h1,h2⟩
   split at hr
   · cases hr
   split at hr
   · injection hr with hr
     subst hr
     exact ⟨back h1.1 h1.2,h2⟩
   split at hr
   · rename_i hm
     injection hr with hr
     subst hr
     have e:x=lo:=inK_exact hx h2
     subst e
     exact ⟨back h1.1 h1.2,by rw [beq_iff_eq] at hm;exact hm⟩
   · cases hr
theorem putV_sound {s k:Int×Int} (hs:SOk s) (hk:KOk k) {x:Int} (h1:inS x s) (h2:inK x k):inS x (putV s k).1∧inK x (putV s k).2:=by
 obtain ⟨r,hr,h3,h4⟩:=(reduS_sound hs hk (hs.wd_of h1)).1 ⟨h1,h2⟩
 unfold putV
 rw [hr]
 exact ⟨h3,h4⟩
structure InM (m:MayD) (x:MachD):Prop where
 rs:∀ i,i < 6→inS (x.regs.getD i 0) (m.reg.getD i (0,0))
 rk:∀ i,i < 6→inK (x.regs.getD i 0) (m.bits.getD i (0,0))
 cs:∀ i,i < 16→x.isset.getD i false=true→inS (x.cells.getD i 0) (m.cell.getD i (0,0))
 st:∀ i,i < 16→m.isset.getD i false=true→x.isset.getD i false=true
theorem inMay_iff {m:MayD} {x:MachD}:inMayB m x=true↔InM m x:=by
 unfold inMayB
 rw [Bool.and_eq_true,List.all_eq_true,List.all_eq_true]
 constructor
 · rintro ⟨h1,h2⟩
   refine ⟨fun i hi=>?_,fun i hi=>?_,fun i hi hs=>?_,fun i hi hs=>?_⟩
   · have:=h1 i (List.mem_range.2 hi)
     simp only [regIn,inB,Bool.and_eq_true,decide_eq_true_eq] at this
     exact this.1
   · have:=h1 i (List.mem_range.2 hi)
     simp only [regIn,inB,Bool.and_eq_true,decide_eq_true_eq,beq_iff_eq] at this
     exact this.2
   · have:=h2 i (List.mem_range.2 hi)
     simp only [cellIn,hs,Bool.true_and,Bool.and_eq_true,Bool.not_not,inB,decide_eq_true_eq] at this
     exact this.1
   · have:=h2 i (List.mem_range.2 hi)
     simp only [cellIn,hs,Bool.true_and,Bool.and_eq_true,Bool.not_not] at this
     exact this.2
 · rintro ⟨h1,h2,h3,h4⟩
   refine ⟨fun i hi=>?_,fun i hi=>?_⟩
   · have hi:=List.mem_range.1 hi
     have a:=h1 i hi
     have b:=h2 i hi
     unfold inS at a
     unfold inK at b
     simp only [regIn,inB,Bool.and_eq_true,decide_eq_true_eq,beq_iff_eq]
     exact ⟨a,b⟩
   · have hi:=List.mem_range.1 hi
     have a:=h3 i hi
     have b:=h4 i hi
     unfold inS at a
     unfold cellIn inB
     cases hx:x.isset.getD i false with
     | false =>
      cases hm:m.isset.getD i false with
      | false=>rfl
      | true=>rw [b hm] at hx;cases hx
     | true =>
      have a:=a hx
      have e1:decide ((m.cell.getD i (0,0)).1≤x.cells.getD i 0)=true:=decide_eq_true a.1
      have e2:decide (x.cells.getD i 0≤(m.cell.getD i (0,0)).2)=true:=decide_eq_true a.2
      rw [e1,e2]
      cases m.isset.getD i false<;>rfl
theorem getD_setN {α:Type} {l:List α} {i j:Nat} {x d:α} (hi:i < l.length):(l.set i x).getD j d=if i=j then x else l.getD j d:=by
 rw [List.getD_eq_getElem?_getD,List.getD_eq_getElem?_getD,List.getElem?_set]
 by_cases h:i=j
 · subst h;simp [hi]
 · simp [h]
theorem InM.pc {m:MayD} {x:MachD} (h:InM m x) (n:Int):InM m (setP x n):=⟨h.rs,h.rk,h.cs,h.st⟩
theorem InM.setR {m:MayD} {x:MachD} {i n:Int} {r:(Int×Int)×(Int×Int)} (h:InM m x) (hm:MLen m) (hx:MachOk x) (hi:i.toNat < 6) (h1:inS n r.1) (h2:inK n r.2):InM (putM m i r) (setR x i n):=by
 have l1:=hm.reg;have l2:=hm.bits;have l3:=hx.regs
 refine ⟨fun j hj=>?_,fun j hj=>?_,h.cs,h.st⟩
 · show inS ((x.regs.set i.toNat n).getD j 0) ((m.reg.set i.toNat r.1).getD j (0,0))
   rw [getD_setN (by omega),getD_setN (by omega)]
   split
   · exact h1
   · exact h.rs j hj
 · show inK ((x.regs.set i.toNat n).getD j 0) ((m.bits.set i.toNat r.2).getD j (0,0))
   rw [getD_setN (by omega),getD_setN (by omega)]
   split
   · exact h2
   · exact h.rk j hj
theorem mayV_sound {s:StepD} {m:MayD} {x:MachD} {ctx:List Int} (hm:MayOk m) (hx:MachOk x) (hc:CtxOk ctx) (hv:stepB s=true) (h:InM m x) (h0:(mayV s m).2=0) :
 (stepM s ctx x).2.1=0∧InM (mayV s m).1 (stepM s ctx x).1:=by
 have ok:=step_ok hv
 have kd:=valid_kind (.inr hv)
 obtain ⟨_,od,os,oi,oo,ot,_,_⟩:=ok
 have di:s.dst.toNat < 6:=by omega
 have si:s.src.toNat < 6:=by omega
 have rd:=regS_ok hm od.1 od.2
 have rs:=regS_ok hm os.1 os.2
 have bd:=bitS_ok hm od.1 od.2
 have bs:=bitS_ok hm os.1 os.2
 have wi:wd s.imm:=oi
 have sc:=sOk_const oi
 have kc:=kOk_const oi
 have xd1:inS (regI x s.dst) (regS m s.dst):=h.rs _ di
 have xs1:inS (regI x s.src) (regS m s.src):=h.rs _ si
 have xd2:inK (regI x s.dst) (bitS m s.dst):=h.rk _ di
 have xs2:inK (regI x s.src) (bitS m s.src):=h.rk _ si
 have wxd:=rd.wd_of xd1
 have wxs:=rs.wd_of xs1
 have ci:inS s.imm (s.imm,s.imm):=⟨Int.le_refl _,Int.le_refl _⟩
 have ki:inK s.imm (s.imm,0):=inK_self wi
 obtain ⟨k,op,dst,src,imm,to⟩:=s
 dsimp only at *
 rcases kd with rfl|rfl|rfl|rfl|rfl|rfl|rfl|rfl|rfl|rfl|rfl
 · refine ⟨rfl,?_⟩
   have:=putV_sound (stI_ok (op:=op) rd rs) (kdI_ok (op:=op) bd bs) (stI_sound rd rs xd1 xs1) (kdI_sound bd bs wxd wxs xd2 xs2)
   exact h.setR hm.len hx di this.1 this.2
 · refine ⟨rfl,?_⟩
   have:=putV_sound (stI_ok (op:=op) rd sc) (kdI_ok (op:=op) bd kc) (stI_sound rd sc xd1 ci) (kdI_sound bd kc wxd wi xd2 ki)
   exact h.setR hm.len hx di this.1 this.2
 · exact ⟨rfl,h.setR hm.len hx di ci ki⟩
 · exact ⟨rfl,h.setR hm.len hx di ci ki⟩
 · by_cases hf:(regS m src).2+imm ≥ 8
   · have:(mayV ⟨5,op,dst,src,imm,to⟩ m).2=1:=by show (if (regS m src).2+imm ≥ 8 then (m,(1:Int)) else _).2=1;rw [if_pos hf]
     omega
   · have e1:mayV ⟨5,op,dst,src,imm,to⟩ m=(putM m dst ((0,255),(0,255)),0):=by show (if (regS m src).2+imm ≥ 8 then (m,(1:Int)) else _)=_;rw [if_neg hf]
     have hr:¬ regI x src+imm ≥ 8:=by have:=xs1.2;omega
     have e2:stepM ⟨5,op,dst,src,imm,to⟩ ctx x=(setR x dst (ctx.getD (regI x src+imm).toNat 0),0,false):=by show (if regI x src+imm ≥ 8 then (x,(1:Int),false) else _)=_;rw [if_neg hr]
     rw [e1,e2]
     refine ⟨rfl,?_⟩
     have r0:0≤regI x src:=wxs.1
     have hl:(regI x src+imm).toNat < ctx.length:=by rw [hc.len];omega
     have hb:=hc.all _ (getD_memL (d:=0) hl)
     have wb:wd (ctx.getD (regI x src+imm).toNat 0):=⟨hb.1,by omega⟩
     refine h.setR hm.len hx di ⟨hb.1,hb.2⟩ ?_
     generalize ctx.getD (regI x src+imm).toNat 0=n at hb wb
     rw [inK_nat (⟨wd0,⟨by decide,by decide⟩,by decide⟩:KOk (0,255)) wb]
     intro i hi
     have hn:n.toNat < 2 ^ 8:=by omega
     show (n.toNat.testBit i&&!(255:Nat).testBit i)=(0:Nat).testBit i
     rw [show (255:Nat)=2 ^ 8 - 1 from rfl,Nat.testBit_two_pow_sub_one]
     by_cases h8:i < 8
     · simp [h8]
     · rw [Nat.testBit_lt_two_pow (Nat.lt_of_lt_of_le hn (Nat.pow_le_pow_right (by omega) (by omega)))]
       simp
 · by_cases hf:imm ≥ 16
   · have:(mayV ⟨6,op,dst,src,imm,to⟩ m).2=2:=by show (if imm ≥ 16 then (m,(2:Int)) else _).2=2;rw [if_pos hf]
     omega
   · cases hq:m.isset.getD imm.toNat false with
     | false =>
      have:(mayV ⟨6,op,dst,src,imm,to⟩ m).2=3:=by
       show (if imm ≥ 16 then (m,(2:Int)) else if m.isset.getD imm.toNat false then _ else (m,3)).2=3
       rw [if_neg hf,hq];rfl
      omega
     | true =>
      have e1:mayV ⟨6,op,dst,src,imm,to⟩ m=(putM m dst (putV (m.cell.getD imm.toNat (0,0)) (0,65535)),0):=by
       show (if imm ≥ 16 then (m,(2:Int)) else if m.isset.getD imm.toNat false then _ else (m,3))=_
       rw [if_neg hf,hq];rfl
      have ii:imm.toNat < 16:=by omega
      have hs:=h.st _ ii hq
      have e2:stepM ⟨6,op,dst,src,imm,to⟩ ctx x=(setR x dst (x.cells.getD imm.toNat 0),0,false):=by
       show (if imm ≥ 16 then (x,(2:Int),false) else if x.isset.getD imm.toNat false then _ else (x,3,false))=_
       rw [if_neg hf,hs];rfl
      rw [e1,e2]
      refine ⟨rfl,?_⟩
      have cw:=h.cs _ ii hs
      have co:=cellS_ok hm oi.1 hf
      have:=putV_sound co unk_ok cw (inK_all (co.wd_of cw))
      exact h.setR hm.len hx di this.1 this.2
 · by_cases hf:imm ≥ 16
   · have:(mayV ⟨7,op,dst,src,imm,to⟩ m).2=2:=by show (if imm ≥ 16 then (m,(2:Int)) else _).2=2;rw [if_pos hf]
     omega
   · have e1:mayV ⟨7,op,dst,src,imm,to⟩ m=({ m with cell:=m.cell.set imm.toNat (regS m dst),isset:=m.isset.set imm.toNat true },0):=by show (if imm ≥ 16 then (m,(2:Int)) else _)=_;rw [if_neg hf]
     have e2:stepM ⟨7,op,dst,src,imm,to⟩ ctx x=(setC x imm (regI x dst),0,false):=by show (if imm ≥ 16 then (x,(2:Int),false) else _)=_;rw [if_neg hf]
     rw [e1,e2]
     have ii:imm.toNat < 16:=by omega
     have l1:=hm.cell;have l2:=hm.isset;have l3:=hx.cells;have l4:=hx.isset
     refine ⟨rfl,h.rs,h.rk,fun j hj hs=>?_,fun j hj hs=>?_⟩
     · have hs:(x.isset.set imm.toNat true).getD j false=true:=hs
       show inS ((x.cells.set imm.toNat (regI x dst)).getD j 0) ((m.cell.set imm.toNat (regS m dst)).getD j (0,0))
       rw [getD_setN (by omega)] at hs
       rw [getD_setN (by omega),getD_setN (by omega)]
       by_cases e:imm.toNat=j
       · rw [if_pos e,if_pos e];exact xd1
       · rw [if_neg e] at hs
         rw [if_neg e,if_neg e];exact h.cs j hj hs
     · have hs:(m.isset.set imm.toNat true).getD j false=true:=hs
       show (x.isset.set imm.toNat true).getD j false=true
       rw [getD_setN (by omega)] at hs ⊢
       by_cases e:imm.toNat=j
       · rw [if_pos e]
       · rw [if_neg e] at hs ⊢;exact h.st j hj hs
 · exact ⟨rfl,h.pc _⟩
 · have:stepM ⟨9,op,dst,src,imm,to⟩ ctx x=if regI x dst == regI x src then (setP x (x.pc+to+1),0,false) else (setP x (x.pc+1),0,false):=rfl
   rw [this]
   show _∧InM m _
   split<;>exact ⟨rfl,h.pc _⟩
 · have:stepM ⟨10,op,dst,src,imm,to⟩ ctx x=if regI x dst < regI x src then (setP x (x.pc+to+1),0,false) else (setP x (x.pc+1),0,false):=rfl
   rw [this]
   show _∧InM m _
   split<;>exact ⟨rfl,h.pc _⟩
 · exact ⟨rfl,h⟩
theorem meetS_sound {a b:Int×Int} {x:Int} (h1:inS x a) (h2:inS x b):meetSb a b=false∧inS x (meetS a b):=by
 have m1:=mxI_ge (a:=a.1) (b:=b.1)
 have m2:=mnI_le (a:=a.2) (b:=b.2)
 obtain ⟨a1,a2⟩:=h1
 obtain ⟨b1,b2⟩:=h2
 have hf:meetSb a b=false:=by unfold meetSb;rw [decide_eq_false_iff_not];omega
 refine ⟨hf,?_⟩
 unfold meetS
 rw [hf]
 exact ⟨by simp only [Bool.false_eq_true,if_false];omega,by simp only [Bool.false_eq_true,if_false];omega⟩
theorem meetK_sound {a b:Int×Int} {x:Int} (ha:KOk a) (hb:KOk b) (hx:wd x) (h1:inK x a) (h2:inK x b):meetKb a b=false∧inK x (meetK a b):=by
 have k1:=(inK_bits ha hx).1 h1
 have k2:=(inK_bits hb hx).1 h2
 have hf:meetKb a b=false:=by
  unfold meetKb
  have:andNotI (xorI a.1 b.1) (orI a.2 b.2)=0:=by
   rw [andNotI_bv,xorI_bv,bI_toInt,orI_bv,bI_toInt]
   have:(bI a.1 ^^^ bI b.1) &&& ~~~(bI a.2 ||| bI b.2)=0#64:=by
    apply BitVec.eq_of_getLsbD_eq
    intro i hi
    by_cases h16:i < 16
    · have q1:=k1 i h16
      have q2:=k2 i h16
      simp only [BitVec.getLsbD_and,BitVec.getLsbD_xor,BitVec.getLsbD_not,BitVec.getLsbD_or,hi,decide_true,Bool.true_and,BitVec.getLsbD_zero]
      revert q1 q2
      cases (bI a.1).getLsbD i<;>cases (bI a.2).getLsbD i<;>cases (bI b.1).getLsbD i<;>cases (bI b.2).getLsbD i<;>cases (bI x).getLsbD i<;>simp
    · simp [bI_wd ha.v (show 16≤i by omega),bI_wd hb.v (show 16≤i by omega)]
   rw [this];rfl
  rw [this];rfl
 refine ⟨hf,?_⟩
 have hk:=meetK_ok ha hb
 unfold meetK at hk ⊢
 rw [hf] at hk ⊢
 simp only [Bool.false_eq_true,if_false] at hk ⊢
 rw [inK_bits hk hx]
 intro i hi
 have q1:=k1 i hi
 have q2:=k2 i hi
 dsimp only
 rw [orI_bv,bI_toInt,andI_bv,bI_toInt,BitVec.getLsbD_or,BitVec.getLsbD_and]
 revert q1 q2
 cases (bI a.1).getLsbD i<;>cases (bI a.2).getLsbD i<;>cases (bI b.1).getLsbD i<;>cases (bI b.2).getLsbD i<;>cases (bI x).getLsbD i<;>simp
theorem lessS_sound {a b:Int×Int} {x y:Int} (h1:inS x a) (h2:inS y b) (h:x < y):(lessS a b).2.2=true∧inS x (lessS a b).1∧inS y (lessS a b).2.1:=by
 have m1:=mxI_ge (a:=b.1) (b:=a.1+1)
 have m2:=mnI_le (a:=a.2) (b:=b.2 - 1)
 obtain ⟨a1,a2⟩:=h1
 obtain ⟨b1,b2⟩:=h2
 unfold lessS
 rw [if_neg (by omega)]
 exact ⟨rfl,⟨a1,by dsimp only;omega⟩,⟨by dsimp only;omega,b2⟩⟩
theorem InM.setR2 {m:MayD} {x:MachD} {i j:Int} {a b:Int×Int} (h:InM m x) (hm:MLen m) (hi:i.toNat < 6) (hj:j.toNat < 6) (h1:i.toNat=j.toNat→inS (regI x i) b) (h2:inS (regI x i) a) (h3:inS (regI x j) b):InM (setR2 m i j a b) x:=by
 have l1:=hm.reg
 refine ⟨fun k hk=>?_,h.rk,h.cs,h.st⟩
 show inS (x.regs.getD k 0) (((m.reg.set i.toNat a).set j.toNat b).getD k (0,0))
 rw [getD_setN (by simp;omega),getD_setN (by omega)]
 split
 · rename_i e;subst e;exact h3
 split
 · rename_i e;subst e;exact h2
 · exact h.rs k hk
theorem InM.setB2 {m:MayD} {x:MachD} {i j:Int} {a:Int×Int} (h:InM m x) (hm:MLen m) (hi:i.toNat < 6) (hj:j.toNat < 6) (h2:inK (regI x i) a) (h3:inK (regI x j) a):InM (setB2 m i j a) x:=by
 have l1:=hm.bits
 refine ⟨h.rs,fun k hk=>?_,h.cs,h.st⟩
 show inK (x.regs.getD k 0) (((m.bits.set i.toNat a).set j.toNat a).getD k (0,0))
 rw [getD_setN (by simp;omega),getD_setN (by omega)]
 split
 · rename_i e;subst e;exact h3
 split
 · rename_i e;subst e;exact h2
 · exact h.rk k hk
def takesB (s:StepD) (x:MachD):Bool:=if s.kind == 9 then regI x s.dst == regI x s.src else decide (regI x s.dst < regI x s.src)
theorem heedV_sound {s:StepD} {m:MayD} {x:MachD} {t:Bool} (hm:MayOk m) (hv:stepB s=true) (hk:s.kind=9∨s.kind=10) (h:InM m x) (ht:takesB s x=t) :
 (heedV s m t).2=true∧InM (heedV s m t).1 x:=by
 have ok:=step_ok hv
 obtain ⟨_,od,os,oi,oo,ot,_,_⟩:=ok
 have di:s.dst.toNat < 6:=by omega
 have si:s.src.toNat < 6:=by omega
 have rd:=regS_ok hm od.1 od.2
 have rs:=regS_ok hm os.1 os.2
 have bd:=bitS_ok hm od.1 od.2
 have bs:=bitS_ok hm os.1 os.2
 have xd1:inS (regI x s.dst) (regS m s.dst):=h.rs _ di
 have xs1:inS (regI x s.src) (regS m s.src):=h.rs _ si
 have xd2:inK (regI x s.dst) (bitS m s.dst):=h.rk _ di
 have xs2:inK (regI x s.src) (bitS m s.src):=h.rk _ si
 have wxd:=rd.wd_of xd1
 have hm6:=hm.len
 obtain ⟨k,op,dst,src,imm,to⟩:=s
 dsimp only at *
 unfold takesB at ht
 dsimp only at ht
 rcases hk with rfl|rfl
 · simp only [beq_self_eq_true,if_true] at ht
   cases t with
   | false=>exact ⟨rfl,h⟩
   | true =>
    have e:regI x dst=regI x src:=by simpa using ht
    have m1:=meetS_sound xd1 (e▸xs1)
    have m2:=meetK_sound bd bs wxd xd2 (e▸xs2)
    have e1:heedV ⟨9,op,dst,src,imm,to⟩ m true=(setB2 (setR2 m dst src (meetS (regS m dst) (regS m src)) (meetS (regS m dst) (regS m src))) dst src (meetK (bitS m dst) (bitS m src)),true):=by
     show (if meetSb (regS m dst) (regS m src) then _ else if meetKb (bitS m dst) (bitS m src) then _ else _)=_
     rw [m1.1,m2.1];rfl
    rw [e1]
    refine ⟨rfl,?_⟩
    exact (h.setR2 hm6 di si (fun _=>m1.2) m1.2 (e▸m1.2)).setB2 (setR2_len hm6) di si m2.2 (e▸m2.2)
 · have ht:decide (regI x dst < regI x src)=t:=ht
   cases t with
   | true =>
    have e:regI x dst < regI x src:=by simpa using ht
    have m1:=lessS_sound xd1 xs1 e
    have hne:(dst == src)=false:=by rw [beq_eq_false_iff_ne];intro c;subst c;omega
    have e1:heedV ⟨10,op,dst,src,imm,to⟩ m true=(setR2 m dst src (lessS (regS m dst) (regS m src)).1 (lessS (regS m dst) (regS m src)).2.1,true):=by
     show (if (lessS (regS m dst) (regS m src)).2.2 then (if dst == src then _ else _) else _)=_
     rw [m1.1,hne];rfl
    rw [e1]
    refine ⟨rfl,h.setR2 hm6 di si (fun c=>?_) m1.2.1 m1.2.2⟩
    have:dst=src:=by omega
    subst this;omega
   | false =>
    have e:¬ regI x dst < regI x src:=by simpa using ht
    cases hne:(dst == src) with
    | true =>
     have e1:heedV ⟨10,op,dst,src,imm,to⟩ m false=(m,true):=by
      show (if dst == src then (m,true) else _)=_
      rw [hne];rfl
     rw [e1];exact ⟨rfl,h⟩
    | false =>
     have hge:(regS m dst).2 ≥ (regS m src).1:=by have:=xd1.2;have:=xs1.1;omega
     have e1:heedV ⟨10,op,dst,src,imm,to⟩ m false=(setR2 m dst src (mxI (regS m dst).1 (regS m src).1,(regS m dst).2) ((regS m src).1,mnI (regS m src).2 (regS m dst).2),true):=by
      show (if dst == src then (m,true) else if (regS m dst).2 ≥ (regS m src).1 then _ else _)=_
      rw [hne,if_pos hge];rfl
     rw [e1]
     have q1:=mxI_ge (a:=(regS m dst).1) (b:=(regS m src).1)
     have q2:=mnI_le (a:=(regS m src).2) (b:=(regS m dst).2)
     have hne':dst≠src:=by simpa using hne
     obtain ⟨x1,x2⟩:=xd1
     obtain ⟨y1,y2⟩:=xs1
     refine ⟨rfl,h.setR2 hm6 di si (fun c=>?_) ⟨by dsimp only;omega,x2⟩ ⟨y1,by dsimp only;omega⟩⟩
     exact absurd (show dst=src by omega) hne'
theorem joinM_sound {a b:MayD} {x:MachD} (ha:MayOk a) (hb:MayOk b) (hx:MachOk x) (h:InM a x∨InM b x):InM (joinM a b) x:=by
 have g:∀ {α:Type} (f:α→α→α) (l r:List α) (d:α) (i:Nat),i < l.length→i < r.length→(List.zipWith f l r).getD i d=f (l.getD i d) (r.getD i d):=by
  intro α f l r d i h1 h2
  rw [List.getD_eq_getElem?_getD,List.getD_eq_getElem?_getD,List.getD_eq_getElem?_getD,List.getElem?_zipWith,List.getElem?_eq_getElem h1,List.getElem?_eq_getElem h2];rfl
 have a1:=ha.reg;have a2:=ha.bits;have a3:=ha.cell;have a4:=ha.isset
 have b1:=hb.reg;have b2:=hb.bits;have b3:=hb.cell;have b4:=hb.isset
 have js:∀ (p q:Int×Int) (n:Int),inS n p∨inS n q→inS n (joinS p q):=by
  intro p q n h
  have h1:=mnI_le (a:=p.1) (b:=q.1)
  have h2:=mxI_ge (a:=p.2) (b:=q.2)
  unfold joinS inS at *
  dsimp only
  omega
 refine ⟨fun i hi=>?_,fun i hi=>?_,fun i hi hs=>?_,fun i hi hs=>?_⟩
 · show inS _ ((List.zipWith joinS a.reg b.reg).getD i (0,0))
   rw [g _ _ _ _ _ (by omega) (by omega)]
   exact js _ _ _ (h.imp (fun h=>h.rs i hi) (fun h=>h.rs i hi))
 · show inK _ ((List.zipWith joinK a.bits b.bits).getD i (0,0))
   rw [g _ _ _ _ _ (by omega) (by omega)]
   have w:wd (x.regs.getD i 0):=hx.wr _ (getD_memL (by have:=hx.regs;omega))
   exact joinK_sound (gK_ok (ha.gb _ (getD_memL (by omega)))) (gK_ok (hb.gb _ (getD_memL (by omega)))) w (h.imp (fun h=>h.rk i hi) (fun h=>h.rk i hi))
 · show inS _ ((List.zipWith joinS a.cell b.cell).getD i (0,0))
   rw [g _ _ _ _ _ (by omega) (by omega)]
   exact js _ _ _ (h.imp (fun h=>h.cs i hi hs) (fun h=>h.cs i hi hs))
 · have hs:(List.zipWith (·&&·) a.isset b.isset).getD i false=true:=hs
   rw [g _ _ _ _ _ (by omega) (by omega),Bool.and_eq_true] at hs
   rcases h with h|h
   · exact h.st i hi hs.1
   · exact h.st i hi hs.2
theorem start_sound:InM startM newM:=by
 refine ⟨fun i hi=>?_,fun i hi=>?_,fun i hi hs=>?_,fun i hi hs=>?_⟩
 · have:i=0∨i=1∨i=2∨i=3∨i=4∨i=5:=by omega
   rcases this with rfl|rfl|rfl|rfl|rfl|rfl<;>exact ⟨by decide,by decide⟩
 · have:i=0∨i=1∨i=2∨i=3∨i=4∨i=5:=by omega
   rcases this with rfl|rfl|rfl|rfl|rfl|rfl<;>(show andNotI _ _=_;decide)
 · have e:newM.isset.getD i false=false:=by show (List.replicate 16 false).getD i false=false;rw [List.getD_eq_getElem?_getD,List.getElem?_replicate];split<;>rfl
   rw [e] at hs;cases hs
 · have e:startM.isset.getD i false=false:=by show (List.replicate 16 false).getD i false=false;rw [List.getD_eq_getElem?_getD,List.getElem?_replicate];split<;>rfl
   rw [e] at hs;cases hs
set_option maxHeartbeats 16000000
structure VerD where
 kind:Int
 code:Int
 wit:List Int
 fault:Int
 pc:Int
 size:Int
 deriving DecidableEq
abbrev VerD.d (x:VerD):D:=.agg [Ii x.kind,Ii x.code,ints x.wit,Ii x.fault,Ii x.pc,Ii x.size]
set_option maxHeartbeats 4000000
def Has (r:RepD) (j:Nat) (x:MachD):Prop:=metB r j=true∧InM (getM r j) x
theorem landM_has {p:List StepD} {r:RepD} {k j:Nat} {m:MayD} {x:MachD} (h:RepOk p r) (hm:MayOk m) (hx:MachOk x) (hj:Has r j x):Has (landM r k m) j x:=by
 obtain ⟨h1,h2⟩:=hj
 unfold landM Has
 split
 · rename_i hc
   refine ⟨h1,?_⟩
   rw [getM_set]
   split
   · rename_i e
     obtain ⟨rfl,_⟩:=e
     exact joinM_sound (h.ok k hc) hm hx (.inl h2)
   · exact h2
 · rename_i hc
   have e:k≠j:=fun e=>hc (e▸h1)
   rw [getM_set,metB_set,if_neg (fun c=>e c.1),if_neg (fun c=>e c.1)]
   exact ⟨h1,h2⟩
theorem landM_new {p:List StepD} {r:RepD} {k:Nat} {m:MayD} {x:MachD} (h:RepOk p r) (hk:k < p.length) (hm:MayOk m) (hx:MachOk x) (hj:InM m x):Has (landM r k m) k x:=by
 have l1:=h.lm
 have l2:=h.ly
 unfold landM Has
 split
 · rename_i hc
   refine ⟨hc,?_⟩
   rw [getM_set,if_pos ⟨rfl,by omega⟩]
   exact joinM_sound (h.ok k hc) hm hx (.inr hj)
 · rw [getM_set,metB_set,if_pos ⟨rfl,by omega⟩,if_pos ⟨rfl,by omega⟩]
   exact ⟨rfl,hj⟩
theorem landM_same {r:RepD} {k j:Nat} {m:MayD} (e:k≠j):getM (landM r k m) j=getM r j∧metB (landM r k m) j=metB r j:=by
 unfold landM
 split
 · refine ⟨?_,rfl⟩
   rw [getM_set,if_neg (fun c=>e c.1)]
 · rw [getM_set,metB_set,if_neg (fun c=>e c.1),if_neg (fun c=>e c.1)]
   exact ⟨rfl,rfl⟩
theorem flowS_has {p:List StepD} {s:StepD} {a:MayD} {n:Nat} {k:Int} {r:RepD} {j:Nat} {x:MachD} (h:RepOk p r) (ha:MayOk a) (hv:stepB s=true) (hx:MachOk x) (hj:Has r j x):Has (flowS s a n k r) j x:=by
 unfold flowS
 split
 · split
   · rename_i hp;exact landM_has h (heedV_ok ha hv hp) hx hj
   · exact hj
 · exact landM_has h ha hx hj
theorem flowS_same {s:StepD} {a:MayD} {n:Nat} {k:Int} {r:RepD} {j:Nat} (e:k.toNat≠j):getM (flowS s a n k r) j=getM r j∧metB (flowS s a n k r) j=metB r j:=by
 unfold flowS
 split
 · split
   · exact landM_same e
   · exact ⟨rfl,rfl⟩
 · exact landM_same e
theorem foldN_has {p:List StepD} {s:StepD} {a:MayD} {j:Nat} {x:MachD} (ha:MayOk a) (hv:stepB s=true) (hx:MachOk x):∀ (ks:List Int) (n:Nat) (r:RepD),RepOk p r→Has r j x→Has (foldN s a n ks r) j x
 | [],_,_,_,h=>h
 | k::ks,n,r,h,hj=>foldN_has ha hv hx ks (n+1) _ (flowS_ok h ha hv) (flowS_has h ha hv hx hj)
theorem foldN_same {s:StepD} {a:MayD} {j:Nat}:∀ (ks:List Int) (n:Nat) (r:RepD),(∀ k∈ks,k.toNat≠j)→getM (foldN s a n ks r) j=getM r j∧metB (foldN s a n ks r) j=metB r j
 | [],_,_,_=>⟨rfl,rfl⟩
 | k::ks,n,r,h=>by
  have i1:=foldN_same (s:=s) (a:=a) ks (n+1) (flowS s a n k r) fun x hx=>h x (List.mem_cons_of_mem _ hx)
  have i2:=flowS_same (s:=s) (a:=a) (n:=n) (r:=r) (h k List.mem_cons_self)
  rw [foldN_cons]
  exact ⟨i1.1.trans i2.1,i1.2.trans i2.2⟩
theorem foldN_new {p:List StepD} {s:StepD} {a:MayD} {x:MachD} {k:Int} (ha:MayOk a) (hv:stepB s=true) (hx:MachOk x) (hk:k.toNat < p.length) (hin:InM a x):∀ (ks:List Int) (n j:Nat) (r:RepD),RepOk p r→ks[j]? = some k→(brB s=true→takesB s x=(((n+j:Nat):Int) == 1))→Has (foldN s a n ks r) k.toNat x
 | [],_,_,_,_,h,_=>by cases h
 | k'::ks,n,0,r,h,hk',hb=>by
  obtain rfl:k'=k:=by simpa using hk'
  rw [foldN_cons]
  refine foldN_has (p:=p) ha hv hx ks (n+1) _ (flowS_ok h ha hv) ?_
  unfold flowS
  split
  · rename_i hbr
    have kd:s.kind=9∨s.kind=10:=by
     unfold brB at hbr
     simpa using hbr
    have hs:=heedV_sound ha hv kd hin (hb hbr)
    rw [show ((n+0:Nat):Int)=(n:Int) from rfl] at hs
    rw [if_pos hs.1]
    exact landM_new h hk (heedV_ok ha hv hs.1) hx hs.2
  · exact landM_new h hk ha hx hin
 | k'::ks,n,j+1,r,h,hk',hb=>by
  rw [foldN_cons]
  refine foldN_new ha hv hx hk hin ks (n+1) j _ (flowS_ok h ha hv) (by simpa using hk') (fun c=>?_)
  rw [hb c,show n+(j+1)=n+1+j by omega]
theorem anaS_has {p:List StepD} (hp:ProgOk p) {i j:Nat} {r:RepD} {x:MachD} (h:RepOk p r) (hx:MachOk x) (hj:Has r j x):Has (anaS p i r) j x:=by
 unfold anaS
 split
 · exact hj
 · rename_i s hs
   obtain ⟨hi,rfl⟩:=List.getElem?_eq_some_iff.1 hs
   have hv:=(hp.all _ hi).1
   split
   · rename_i hc
     split
     · exact foldN_has (p:=p) (mayV_ok (h.ok i hc) hv) hv hx _ _ _ h hj
     · exact hj
   · exact hj
theorem nexts_gt {s:StepD} (hv:stepB s=true) {i k:Int} (h:k∈nextsL s i):i < k:=by
 have:=(step_ok hv).to
 unfold nextsL at h
 split at h
 · cases h
 split at h
 · simp at h;omega
 split at h
 · simp at h;omega
 split at h
 · simp at h;omega
 · simp at h;omega
theorem anaS_same {p:List StepD} (hp:ProgOk p) {i j:Nat} (hij:j≤i) {r:RepD}:getM (anaS p i r) j=getM r j∧metB (anaS p i r) j=metB r j:=by
 unfold anaS
 split
 · exact ⟨rfl,rfl⟩
 · rename_i s hs
   obtain ⟨hi,rfl⟩:=List.getElem?_eq_some_iff.1 hs
   have hv:=(hp.all _ hi).1
   split
   · split
     · exact foldN_same _ _ _ fun k hk=>by have:=nexts_gt hv hk;omega
     · exact ⟨rfl,rfl⟩
   · exact ⟨rfl,rfl⟩
theorem anaN_has {p:List StepD} (hp:ProgOk p) {j n:Nat} {x:MachD} (hx:MachOk x) (hj:Has (anaN p n) j x):∀ k,Has (anaN p (n+k)) j x
 | 0=>hj
 | k+1=>anaS_has hp (anaN_ok hp _) hx (anaN_has hp hx hj k)
theorem anaN_same {p:List StepD} (hp:ProgOk p) {i:Nat}:∀ k,getM (anaN p (i+k)) i=getM (anaN p i) i∧metB (anaN p (i+k)) i=metB (anaN p i) i
 | 0=>⟨rfl,rfl⟩
 | k+1=>by
  have a:=anaS_same hp (i:=i+k) (j:=i) (by omega) (r:=anaN p (i+k))
  have b:=anaN_same hp (i:=i) k
  exact ⟨a.1.trans b.1,a.2.trans b.2⟩
theorem anaS_mono {p:List StepD} {i:Nat} {r:RepD} {b:Int} (h:b∈r.bad):b∈(anaS p i r).bad:=by
 unfold anaS
 split
 · exact h
 · split
   · split
     · rw [foldN_bad];exact h
     · exact List.mem_append_left _ h
   · exact h
theorem anaN_mono {p:List StepD} {n:Nat} {b:Int} (h:b∈(anaN p n).bad):∀ k,b∈(anaN p (n+k)).bad
 | 0=>h
 | k+1=>anaS_mono (anaN_mono h k)
def wayI (s:StepD) (x:MachD):Nat:=if brB s&&takesB s x then 1 else 0
structure Goes (s:StepD) (m:MachD) (r:MachD×Int×Bool):Prop where
 nx:(nextsL s m.pc)[wayI s r.1]? = some r.1.pc
theorem stepM_goes {s:StepD} {ctx:List Int} {m:MachD} (hv:stepB s=true) (h0:(stepM s ctx m).2.1=0) (he:(stepM s ctx m).2.2=false):Goes s m (stepM s ctx m):=by
 rcases valid_kind (.inr hv) with e|e|e|e|e|e|e|e|e|e|e
 all_goals (obtain ⟨k,o,d,r,i,t⟩:=s;dsimp only at e;subst e;constructor)
 all_goals (simp [stepM,setR,setC,setP,nextsL,wayI,brB,takesB,regI] at h0 he ⊢)
 · split at h0
   · cases h0
   · rename_i c;rw [if_neg c]
 · split at h0
   · cases h0
   · rename_i c
     rw [if_neg c]
     split at h0
     · rename_i c2;rw [if_pos c2]
     · cases h0
 · split at h0
   · cases h0
   · rename_i c;rw [if_neg c]
 · split
   · rename_i c;simp [c]
   · rename_i c;simp [c]
 · split
   · rename_i c;simp [c]
   · rename_i c;simp [c]
theorem fin_step {p:List StepD} {ctx:List Int} {m:MachD} (hp:ProgOk p) (hc:CtxOk ctx) (hm:MachOk m) (hl:m.pc < p.length) (h:Has (anaN p p.length) m.pc.toNat m) (hb:¬ m.pc∈(anaN p p.length).bad) :
 (stepAt p ctx m).2.1=0∧((stepAt p ctx m).2.2=false→Has (anaN p p.length) (stepAt p ctx m).1.pc.toNat (stepAt p ctx m).1∧m.pc < (stepAt p ctx m).1.pc):=by
 have p0:=hm.pc.1
 have sk:=step_keeps hp hc hm hl
 obtain ⟨i,hi⟩:∃ i:Nat,m.pc=i:=⟨m.pc.toNat,by omega⟩
 have hit:m.pc.toNat=i:=by omega
 have hil:i < p.length:=by omega
 have hv:=(hp.all i hil).1
 rw [hit] at h
 obtain ⟨d,hd⟩:∃ d,p.length=i+1+d:=⟨p.length - (i+1),by omega⟩
 have sm:=anaN_same hp (i:=i) (1+d)
 rw [← Nat.add_assoc,← hd] at sm
 have ro:=anaN_ok hp i
 unfold Has at h
 rw [sm.1,sm.2] at h
 have ea:stepAt p ctx m=stepM p[i] ctx m:=by unfold stepAt;rw [hit,List.getElem?_eq_getElem hil]
 have sa:anaN p (i+1)=if (mayV p[i] (getM (anaN p i) i)).2 == 0 then foldN p[i] (mayV p[i] (getM (anaN p i) i)).1 0 (nextsL p[i] i) (anaN p i) else { anaN p i with bad:=(anaN p i).bad++[(i:Int)] }:=by
  rw [anaN_succ];unfold anaS;rw [List.getElem?_eq_getElem hil];dsimp only;rw [if_pos h.1]
 have mo:=ro.ok i h.1
 by_cases hf:(mayV p[i] (getM (anaN p i) i)).2=0
 · have sd:=mayV_sound (ctx:=ctx) mo hm hc hv h.2 hf
   rw [ea] at sk ⊢
   refine ⟨sd.1,fun he=>?_⟩
   have gn:=(stepM_goes hv sd.1 he).nx
   rw [hi] at gn
   have gt:=nexts_gt hv (List.mem_of_getElem? gn)
   have pcl:=sk.pc
   rw [if_pos (by rw [hf];rfl)] at sa
   refine ⟨?_,by rw [hi];exact gt⟩
   have hn:=foldN_new (p:=p) (mayV_ok mo hv) hv sk.ok (k:=(stepM p[i] ctx m).1.pc) (by omega) sd.2 _ 0 _ _ ro gn (by
    intro hbr
    unfold wayI
    rw [hbr,Bool.true_and]
    cases takesB p[i] (stepM p[i] ctx m).1<;>rfl)
   rw [← sa] at hn
   have:=anaN_has hp sk.ok hn d
   rw [← hd] at this
   exact this
 · exfalso
   apply hb
   rw [if_neg (by simpa using hf)] at sa
   have:(i:Int)∈(anaN p (i+1)).bad:=by rw [sa];simp
   have:=anaN_mono this d
   rw [← hd] at this
   rw [hi];exact this
theorem start_has {p:List StepD} (hp:ProgOk p):Has (anaN p p.length) 0 newM:=by
 have h0:Has (anaN p 0) 0 newM:=by
  have l:=hp.len
  unfold Has anaN getM metB
  dsimp only
  rw [getD_set,getD_set,if_pos ⟨rfl,by simp;omega⟩,if_pos ⟨rfl,by simp;omega⟩]
  exact ⟨rfl,start_sound⟩
 have:=anaN_has hp newM_ok h0 p.length
 rwa [Nat.zero_add] at this
set_option maxHeartbeats 16000000
theorem same_end {α:Type} {a b:List α} {k:Nat} (hl:a.length=b.length) (hk:a.length≤k) (h:∀ i,i < k→a[i]? = b[i]?):a=b:=by
 apply List.ext_getElem?
 intro i
 by_cases hi:i < k
 · exact h i hi
 · rw [List.getElem?_eq_none (by omega),List.getElem?_eq_none (by omega)]
theorem same_not {α:Type} {a b:List α} {i:Nat} (h1:i < a.length) (h2:i < b.length) (h:a[i]≠b[i]):a≠b:=fun e=>by subst e;exact h rfl
theorem laws_sameInts.fc (a b:List Int) (ha:a.length≤4294967296) (hb:b.length≤4294967296):FCt prog F_laws_sameInts [.ro,.ro] [ints a,ints b] (Bb (decide (a=b))) []:=by
 refine fct_run laws_sameInts.ok rfl ?_
 by_cases hl:a.length=b.length
 · have e1:((a.length:Int) != b.length)=false:=by rw [hl];simp
   simp only [go_sem,e1]
   refine R_loop (α:=Nat) (fun k s' M'=>k≤a.length∧s' 13=aI k∧∀ i,i < k→a[i]? = b[i]?) (fun k=>a.length - k) 0 ⟨Nat.zero_le _,by simp only [go_sem];try rfl,fun i hi=>absurd hi (Nat.not_lt_zero i)⟩ ?_
   rintro k s' M' ⟨hk,h13,hr⟩ ho
   unfold laws_sameInts.b0
   have j0:s' 0=.dat none (ints a):=by rw [ho 0 rfl];simp only [go_sem]
   have j1:s' 1=.dat none (ints b):=by rw [ho 1 rfl];simp only [go_sem]
   have j12:s' 12=aI a.length:=by rw [ho 12 rfl];simp only [go_sem]
   clear ho
   by_cases hlt:k < a.length
   · have hi':(k:Int) < a.length:=by omega
     have ga:a[k]? = some a[k]:=List.getElem?_eq_getElem hlt
     have hw:IntKind.i64.wrap (k+1)=((k+1:Nat):Int):=wrap_k hlt (by omega)
     have gb:b[k]? = some b[k]:=List.getElem?_eq_getElem (by omega)
     have hb':(k:Int) < b.length:=by omega
     by_cases hx:a[k]=b[k]
     · have hx':(a[k] != b[k])=false:=by simp [hx]
       simp only [go_sem,hi',hb',ga,gb,hx',hw,j0,j1,j12,h13]
       refine ⟨k+1,by dsimp only;omega,by omega,by simp only [go_sem,j0,j1,j12,h13],fun i hi=>?_⟩
       by_cases c:i < k
       · exact hr i c
       · obtain rfl:i=k:=by omega
         rw [ga,gb,hx]
     · have hne:=same_not hlt (by omega) hx
       have hd:decide (a=b)=false:=by simp [hne]
       have hx':(a[k] != b[k])=true:=by simp [hx]
       generalize a[k]=x at *
       simp only [go_sem,hi',hb',ga,gb,hx',hd,j0,j1,j12,h13];try rfl
   · have hi':¬ (k:Int) < a.length:=by omega
     obtain rfl:k=a.length:=by omega
     have e:=same_end hl hk hr
     have hd:decide (a=b)=true:=by simp [e]
     simp only [go_sem,Int.lt_irrefl,hd,j0,j1,j12,h13];try rfl
 · have e1:((a.length:Int) != b.length)=true:=by simp;omega
   have hd:decide (a=b)=false:=by simp;intro e;exact hl (by rw [e])
   simp only [go_sem,e1,hd];try rfl
set_option maxHeartbeats 4000000
theorem laws_has.fc (l:List Int) (n:Int) (hl:l.length≤4294967296):FCt prog F_laws_has [.ro,.ro] [ints l,Ii n] (Bb (l.any (· == n))) []:=by
 refine fct_run laws_has.ok rfl ?_
 simp only [go_sem]
 refine R_loop (α:=Nat) (fun k s' M'=>k≤l.length∧s' 9=aI k∧(l.take k).all (fun a=>!(a == n))=true) (fun k=>l.length - k) 0 ⟨Nat.zero_le _,by simp only [go_sem];rfl,rfl⟩ ?_
 rintro k s' M' ⟨hk,h8,hr⟩ ho
 unfold laws_has.b0
 have j1:s' 1=aI n:=by rw [ho 1 rfl];simp only [go_sem]
 have j7:s' 7=.dat none (ints l):=by rw [ho 7 rfl];simp only [go_sem]
 have j8:s' 8=aI l.length:=by rw [ho 8 rfl];simp only [go_sem]
 clear ho
 by_cases hlt:k < l.length
 · have hi':(k:Int) < l.length:=by omega
   have ga:l[k]? = some l[k]:=List.getElem?_eq_getElem hlt
   have hw:IntKind.i64.wrap (k+1)=((k+1:Nat):Int):=wrap_k hlt (by omega)
   cases h1:(l[k] == n)
   · simp only [go_sem,hi',ga,h1,hw,j1,j7,j8,h8]
     refine ⟨k+1,by dsimp only;omega,by omega,by simp only [go_sem,j1,j7,j8,h8],all_take hlt hr (by simp [h1])⟩
   · have:l.any (· == n)=true:=List.any_eq_true.2 ⟨l[k],List.getElem_mem hlt,h1⟩
     simp only [go_sem,hi',ga,h1,this,j1,j7,j8,h8];try rfl
 · have hi':¬ (k:Int) < l.length:=by omega
   obtain rfl:k=l.length:=by omega
   rw [List.take_length] at hr
   have:l.any (· == n)=false:=by
    rw [List.any_eq_false]
    intro a ha
    have:=List.all_eq_true.1 hr a ha
    rw [Bool.not_eq_true'] at this
    rw [this];exact Bool.false_ne_true
   simp only [go_sem,Int.lt_irrefl,this,j1,j7,j8,h8];try rfl
theorem laws_sameBools.fc (a b:List Bool) (ha:a.length≤4294967296) (hb:b.length≤4294967296):FCt prog F_laws_sameBools [.ro,.ro] [bools a,bools b] (Bb (decide (a=b))) []:=by
 refine fct_run laws_sameBools.ok rfl ?_
 by_cases hl:a.length=b.length
 · have e1:((a.length:Int) != b.length)=false:=by rw [hl];simp
   simp only [go_sem,e1]
   refine R_loop (α:=Nat) (fun k s' M'=>k≤a.length∧s' 13=aI k∧∀ i,i < k→a[i]? = b[i]?) (fun k=>a.length - k) 0 ⟨Nat.zero_le _,by simp only [go_sem];try rfl,fun i hi=>absurd hi (Nat.not_lt_zero i)⟩ ?_
   rintro k s' M' ⟨hk,h13,hr⟩ ho
   unfold laws_sameBools.b0
   have j0:s' 0=.dat none (bools a):=by rw [ho 0 rfl];simp only [go_sem]
   have j1:s' 1=.dat none (bools b):=by rw [ho 1 rfl];simp only [go_sem]
   have j12:s' 12=aI a.length:=by rw [ho 12 rfl];simp only [go_sem]
   clear ho
   by_cases hlt:k < a.length
   · have hi':(k:Int) < a.length:=by omega
     have ga:a[k]? = some a[k]:=List.getElem?_eq_getElem hlt
     have hw:IntKind.i64.wrap (k+1)=((k+1:Nat):Int):=wrap_k hlt (by omega)
     have gb:b[k]? = some b[k]:=List.getElem?_eq_getElem (by omega)
     have hb':(k:Int) < b.length:=by omega
     by_cases hx:a[k]=b[k]
     · have hx':(a[k] == b[k])=true:=by simp [hx]
       simp only [go_sem,hi',hb',ga,gb,hx',hw,j0,j1,j12,h13]
       refine ⟨k+1,by dsimp only;omega,by omega,by simp only [go_sem,j0,j1,j12,h13],fun i hi=>?_⟩
       by_cases c:i < k
       · exact hr i c
       · obtain rfl:i=k:=by omega
         rw [ga,gb,hx]
     · have hne:=same_not hlt (by omega) hx
       have hd:decide (a=b)=false:=by simp [hne]
       have hx':(a[k] == b[k])=false:=by simp [hx]
       have n7:(false != true)=true:=rfl
       generalize a[k]=x at *
       simp only [go_sem,hi',hb',ga,gb,hx',hd,n7,j0,j1,j12,h13];try rfl
   · have hi':¬ (k:Int) < a.length:=by omega
     obtain rfl:k=a.length:=by omega
     have e:=same_end hl hk hr
     have hd:decide (a=b)=true:=by simp [e]
     simp only [go_sem,Int.lt_irrefl,hd,j0,j1,j12,h13];try rfl
 · have e1:((a.length:Int) != b.length)=true:=by simp;omega
   have hd:decide (a=b)=false:=by simp;intro e;exact hl (by rw [e])
   simp only [go_sem,e1,hd];try rfl
set_option maxHeartbeats 16000000
theorem laws_sameMay.fc (y:MayD) (l1:y.reg.length≤4294967296) (l2:y.bits.length≤4294967296) (l3:y.cell.length≤4294967296) (l4:y.isset.length≤4294967296):FCt prog F_laws_sameMay [.ro,.ro] [y.d,y.d] (Bb true) []:=by
 refine fct_run laws_sameMay.ok rfl ?_
 obtain ⟨a,b,c,d⟩:=y
 dsimp only at l1 l2 l3 l4
 have cb:=laws_sameBools.fc d d l4 l4
 rw [show decide (d=d)=true by simp] at cb
 simp only [go_sem]
 refine fcW_bool cb ?_
 simp only [go_sem]
 refine R_loop (α:=Nat) (fun k s' M'=>k≤a.length∧s' 44=aI k∧M'.m 64=some (.box 0 (.dat none (MayD.d ⟨a,b,c,d⟩)))∧M'.m 128=some (.box 64 (.dat none (MayD.d ⟨a,b,c,d⟩)))) (fun k=>a.length - k) 0
  ⟨Nat.zero_le _,by simp only [go_sem];try rfl,by simp only [go_sem];try rfl,by simp only [go_sem];try rfl⟩ ?_
 rintro k s2 M2 ⟨hk,g44,g0,g1⟩ ho
 unfold laws_sameMay.b0
 have j2:s2 2=.ptr 64 0 0 none:=by rw [ho 2 rfl];simp only [go_sem]
 have j3:s2 3=.ptr 128 64 0 none:=by rw [ho 3 rfl];simp only [go_sem]
 have j43:s2 43=aI a.length:=by rw [ho 43 rfl];simp only [go_sem]
 clear ho
 by_cases hlt:k < a.length
 · have hi':(k:Int) < a.length:=by omega
   have ga:a[k]? = some a[k]:=List.getElem?_eq_getElem hlt
   have hw:IntKind.i64.wrap (k+1)=((k+1:Nat):Int):=wrap_k hlt (by omega)
   simp only [go_sem,hi',ga,hw,j2,j3,j43,g44,g0,g1]
   exact ⟨k+1,by dsimp only;omega,by omega,by simp only [go_sem,j2,j3,j43,g44,g0,g1],by simp only [go_sem,j2,j3,j43,g44,g0,g1];try rfl,by simp only [go_sem,j2,j3,j43,g44,g0,g1];try rfl⟩
 · have hi':¬ (k:Int) < a.length:=by omega
   obtain rfl:k=a.length:=by omega
   simp only [go_sem,Int.lt_irrefl,j2,j3,j43,g44,g0,g1]
   refine R_loop (α:=Nat) (fun k s' M'=>k≤b.length∧s' 62=aI k∧M'.m 64=some (.box 0 (.dat none (MayD.d ⟨a,b,c,d⟩)))∧M'.m 128=some (.box 64 (.dat none (MayD.d ⟨a,b,c,d⟩)))) (fun k=>b.length - k) 0
    ⟨Nat.zero_le _,by simp only [go_sem,j2,j3,j43,g44,g0,g1];try rfl,by simp only [go_sem,j2,j3,j43,g44,g0,g1];try rfl,by simp only [go_sem,j2,j3,j43,g44,g0,g1];try rfl⟩ ?_
   rintro k s3 M3 ⟨hk,G62,G0,G1⟩ ho
   unfold laws_sameMay.b1
   have J2:s3 2=.ptr 64 0 0 none:=by rw [ho 2 rfl];simp only [go_sem,j2,j3,j43,g44,g0,g1]
   have J3:s3 3=.ptr 128 64 0 none:=by rw [ho 3 rfl];simp only [go_sem,j2,j3,j43,g44,g0,g1]
   have J61:s3 61=aI b.length:=by rw [ho 61 rfl];simp only [go_sem,j2,j3,j43,g44,g0,g1]
   clear ho
   by_cases hlt:k < b.length
   · have hi':(k:Int) < b.length:=by omega
     have ga:b[k]? = some b[k]:=List.getElem?_eq_getElem hlt
     have hw:IntKind.i64.wrap (k+1)=((k+1:Nat):Int):=wrap_k hlt (by omega)
     simp only [go_sem,hi',ga,hw,j2,j3,j43,g44,g0,g1,J2,J3,J61,G62,G0,G1]
     exact ⟨k+1,by dsimp only;omega,by omega,by simp only [go_sem,j2,j3,j43,g44,g0,g1,J2,J3,J61,G62,G0,G1],by simp only [go_sem,j2,j3,j43,g44,g0,g1,J2,J3,J61,G62,G0,G1];try rfl,by simp only [go_sem,j2,j3,j43,g44,g0,g1,J2,J3,J61,G62,G0,G1];try rfl⟩
   · have hi':¬ (k:Int) < b.length:=by omega
     obtain rfl:k=b.length:=by omega
     simp only [go_sem,Int.lt_irrefl,j2,j3,j43,g44,g0,g1,J2,J3,J61,G62,G0,G1]
     refine R_loop (α:=Nat) (fun k s' M'=>k≤c.length∧s' 80=aI k∧M'.m 64=some (.box 0 (.dat none (MayD.d ⟨a,b,c,d⟩)))∧M'.m 128=some (.box 64 (.dat none (MayD.d ⟨a,b,c,d⟩)))) (fun k=>c.length - k) 0
      ⟨Nat.zero_le _,by simp only [go_sem,j2,j3,j43,g44,g0,g1,J2,J3,J61,G62,G0,G1];try rfl,by simp only [go_sem,j2,j3,j43,g44,g0,g1,J2,J3,J61,G62,G0,G1];try rfl,by simp only [go_sem,j2,j3,j43,g44,g0,g1,J2,J3,J61,G62,G0,G1];try rfl⟩ ?_
     rintro k s4 M4 ⟨hk,H80,H0,H1⟩ ho
     unfold laws_sameMay.b2
     have q2:s4 2=.ptr 64 0 0 none:=by rw [ho 2 rfl];simp only [go_sem,j2,j3,j43,g44,g0,g1,J2,J3,J61,G62,G0,G1]
     have q3:s4 3=.ptr 128 64 0 none:=by rw [ho 3 rfl];simp only [go_sem,j2,j3,j43,g44,g0,g1,J2,J3,J61,G62,G0,G1]
     have q79:s4 79=aI c.length:=by rw [ho 79 rfl];simp only [go_sem,j2,j3,j43,g44,g0,g1,J2,J3,J61,G62,G0,G1]
     clear ho
     by_cases hlt:k < c.length
     · have hi':(k:Int) < c.length:=by omega
       have ga:c[k]? = some c[k]:=List.getElem?_eq_getElem hlt
       have hw:IntKind.i64.wrap (k+1)=((k+1:Nat):Int):=wrap_k hlt (by omega)
       simp only [go_sem,hi',ga,hw,j2,j3,j43,g44,g0,g1,J2,J3,J61,G62,G0,G1,q2,q3,q79,H80,H0,H1]
       exact ⟨k+1,by dsimp only;omega,by omega,by simp only [go_sem,j2,j3,j43,g44,g0,g1,J2,J3,J61,G62,G0,G1,q2,q3,q79,H80,H0,H1],by simp only [go_sem,j2,j3,j43,g44,g0,g1,J2,J3,J61,G62,G0,G1,q2,q3,q79,H80,H0,H1];try rfl,by simp only [go_sem,j2,j3,j43,g44,g0,g1,J2,J3,J61,G62,G0,G1,q2,q3,q79,H80,H0,H1];try rfl⟩
     · have hi':¬ (k:Int) < c.length:=by omega
       obtain rfl:k=c.length:=by omega
       simp only [go_sem,Int.lt_irrefl,j2,j3,j43,g44,g0,g1,J2,J3,J61,G62,G0,G1,q2,q3,q79,H80,H0,H1]
       try rfl
set_option maxHeartbeats 4000000
set_option maxHeartbeats 16000000
set_option maxHeartbeats 4000000
theorem ok_goodMay {m:MayD} (h:MayOk m):goodMay m=true:=by
 obtain ⟨h1,h2,h3,h4,h5,h6,h7⟩:=h
 simp only [goodMay,h1,h2,h3,h4,decide_true,Bool.true_and,Bool.and_eq_true,List.all_eq_true]
 exact ⟨⟨h5,h7⟩,h6⟩
set_option maxHeartbeats 16000000
structure RepS (r:RepD):Prop where
 lm:r.met.length≤20
 ly:r.mays.length≤20
 lb:r.bad.length≤20
 all:∀ m∈r.mays,MLen m∨m=zeroM
theorem rep_s {p:List StepD} (pl:p.length≤20):RepS (anaV p):=by
 unfold anaV
 split
 · rename_i h
   have hp:=prog_ok h
   have ho:=anaN_ok hp p.length
   have hb:=anaN_bad (p:=p) p.length
   exact ⟨by rw [ho.lm];exact pl,by rw [ho.ly];exact pl,by omega,ho.all⟩
 · exact ⟨by simp [zeroR],by simp [zeroR],by simp [zeroR],by simp [zeroR]⟩
theorem inMay_two (m:MayD) (x:MachD):∃ R0 R1,inMayD m x=.tup [Bb R0,Bb R1]:=by
 unfold inMayD
 split
 · exact ⟨_,_,rfl⟩
 · exact ⟨_,_,rfl⟩
theorem step_at_fault {p:List StepD} {ctx:List Int} {m:MachD}:(stepAt p ctx m).2.1=0∨(stepAt p ctx m).2.1 > 0:=by
 unfold stepAt
 split
 · exact step_fault
 · exact .inl rfl
def BoxR (r:RepD):AV:=.agg [.dat none (.sl 1 (r.met.map Bb)),.dat none (.sl 4 (r.mays.map MayD.d)),.dat none (.sl 1 (r.bad.map Ii))]
def BoxK (m:MachD):AV:=.agg [.dat none (Ii m.pc),.dat none (.sl 1 (m.regs.map Ii)),.dat none (.sl 1 (m.cells.map Ii)),.dat none (.sl 1 (m.isset.map Bb))]
theorem laws_FnMay.fc (code more:List Int) (wc:code.length≤9223372036854775807) (wm:more.length≤9223372036854775807) (bc:∀ b∈code,0≤b∧b≤255) (bm:∀ b∈more,0≤b∧b≤255) :
 FCt prog F_laws_FnMay [.ro,.ro] [.sl 1 (code.map Ub),.sl 1 (more.map Ub)] (Bb true) []:=by
 obtain ⟨p,ctx,pl,cl,d1⟩:=tr_ex code wc bc
 obtain ⟨a,b,ha,hb,d2⟩:=jm_ex more wm bm
 obtain ⟨c,x,hc,x1,x2,x3,d3⟩:=im_ex more wm bm
 have c1:=impl_AnalyseProgram.fc p (by omega)
 have c2:=spec_AnalyseProgram.fc p (by omega)
 have hS:=rep_s pl
 obtain ⟨lm,ly,lb,lall⟩:=hS
 have s1:=laws_sameBools.fc (anaV p).met (anaV p).met (by omega) (by omega)
 have s2:=laws_sameInts.fc (anaV p).bad (anaV p).bad (by omega) (by omega)
 rw [show decide ((anaV p).met=(anaV p).met)=true by simp] at s1
 rw [show decide ((anaV p).bad=(anaV p).bad)=true by simp] at s2
 generalize hr:anaV p=r at *
 generalize hok:goodP p=ok at *
 have z1:(ok != ok)=false:=by simp
 have z2:((r.mays.length:Int) != (r.mays.length:Int))=false:=by simp
 refine fct_run laws_FnMay.ok rfl ?_
 simp only [go_sem]
 refine cdW_any (fun hlen=>?_) (fun hlen=>?_)
 · simp only [go_sem];try rfl
 simp only [go_sem,take_map_len]
 refine fcW_bd d1 (noRs_t2 noRs_steps noRs_ints) ?_
 simp only [go_sem,take_map_len]
 refine fcW_bd c1 (noRs_t2 noRs_Report rfl) ?_
 simp only [go_sem,take_map_len]
 refine fcW_bd c2 (noRs_t2 noRs_Report rfl) ?_
 simp only [go_sem,take_map_len,z1]
 refine fcW_bool s1 ?_
 simp only [go_sem,take_map_len]
 refine fcW_bool s2 ?_
 simp only [go_sem,take_map_len,z2]
 refine R_loop (α:=Nat) (fun k s' M'=>k≤r.mays.length∧s' 85=aI k∧M'.m 1344=some (.box 1216 (BoxR r))∧M'.m 1856=some (.box 1728 (BoxR r))) (fun k=>r.mays.length - k) 0
  ⟨Nat.zero_le _,by simp only [go_sem];try rfl,by simp only [go_sem,BoxR];try rfl,by simp only [go_sem,BoxR];try rfl⟩ ?_
 rintro k s' M' ⟨hk,g85,m7,m9⟩ ho
 unfold laws_FnMay.b0
 have j1:s' 1=.dat none (.sl 1 (more.map Ub)):=by rw [ho 1 rfl];simp only [go_sem]
 have j5:s' 5=.dat none (steps p):=by rw [ho 5 rfl];simp only [go_sem]
 have j6:s' 6=.dat none (ints ctx):=by rw [ho 6 rfl];simp only [go_sem]
 have j7:s' 7=.ptr 1344 1216 0 none:=by rw [ho 7 rfl];simp only [go_sem]
 have j8:s' 8=aB ok:=by rw [ho 8 rfl];simp only [go_sem]
 have j9:s' 9=.ptr 1856 1728 0 none:=by rw [ho 9 rfl];simp only [go_sem]
 have j84:s' 84=aI r.mays.length:=by rw [ho 84 rfl];simp only [go_sem]
 clear ho
 by_cases hlt:k < r.mays.length
 · have hi':(k:Int) < r.mays.length:=by omega
   have hw:IntKind.i64.wrap ((k:Int)+1)=((k+1:Nat):Int):=wrap_k hlt (by omega)
   have ga:r.mays[k]? = some r.mays[k]:=List.getElem?_eq_getElem hlt
   have he:r.mays[k].reg.length≤4294967296∧r.mays[k].bits.length≤4294967296∧r.mays[k].cell.length≤4294967296∧r.mays[k].isset.length≤4294967296:=by
    rcases lall _ (List.getElem_mem hlt) with e|e
    · obtain ⟨e1,e2,e3,e4⟩:=e;omega
    · rw [e];decide
   generalize r.mays[k]=y at ga he
   have f1:=laws_sameMay.fc y he.1 he.2.1 he.2.2.1 he.2.2.2
   simp only [go_sem,hi',ga,j1,j5,j6,j7,j8,j9,j84,g85,m7,m9,BoxR]
   refine fcW_bool f1 ?_
   simp only [go_sem,hw,j1,j5,j6,j7,j8,j9,j84,g85,m7,m9,BoxR]
   exact ⟨k+1,by dsimp only;omega,by omega,by simp only [go_sem,j1,j5,j6,j7,j8,j9,j84,g85,m7,m9,BoxR],by simp only [go_sem,j1,j5,j6,j7,j8,j9,j84,g85,m7,m9,BoxR],by simp only [go_sem,j1,j5,j6,j7,j8,j9,j84,g85,m7,m9,BoxR]⟩
 obtain rfl:k=r.mays.length:=by omega
 simp only [go_sem,Int.lt_irrefl,j1,j5,j6,j7,j8,j9,j84,g85,m7,m9,BoxR]
 refine fcW_bd impl_NewMachine.fc noRs_Machine ?_
 simp only [go_sem,take_map_len,j1,j5,j6,j7,j8,j9,j84,g85,m7,m9,BoxR]
 clear s1 s2
 refine R_cut (fun e s' M'=>e=.ex 2) ?_ ?_
 · have hst:ok=true→MachOk newM∧Has r newM.pc.toNat newM∧newM.pc < p.length:=by
    intro h
    rw [h] at hok
    have hp:=prog_ok hok
    have e:anaN p p.length=r:=by rw [← hr];unfold anaV;rw [if_pos hok]
    refine ⟨newM_ok,?_,?_⟩
    · rw [← e];exact start_has hp
    · have:=hp.len;show (0:Int) < p.length;omega
   refine R_loop (α:=Nat×MachD) (fun a s' M'=>a.1≤20∧s' 13=aI a.1∧M'.m 1344=some (.box 1216 (BoxR r))∧(∃ bv,s' 12=.ptr 5376 bv 0 none∧M'.m 5376=some (.box bv (BoxK a.2)))∧(ok=true→MachOk a.2∧Has r a.2.pc.toNat a.2∧a.2.pc < p.length)) (fun a=>20 - a.1) (0,newM)
    ⟨Nat.zero_le _,by simp only [go_sem,j1,j5,j6,j7,j8,j9,j84,g85,m7,m9,BoxR];try rfl,by simp only [go_sem,BoxR,j1,j5,j6,j7,j8,j9,j84,g85,m7,m9,BoxR];try rfl,⟨_,by simp only [go_sem,j1,j5,j6,j7,j8,j9,j84,g85,m7,m9,BoxR];rfl,by simp only [go_sem,BoxK,j1,j5,j6,j7,j8,j9,j84,g85,m7,m9,BoxR];try rfl⟩,hst⟩ ?_
   rintro ⟨k,m⟩ s2 M2 ⟨hk2,g13,b7,⟨bv,g12,b12⟩,hI⟩ ho
   dsimp only at hk2 g13 b12 hI
   unfold laws_FnMay.b1
   have t1:s2 1=.dat none (.sl 1 (more.map Ub)):=by rw [ho 1 rfl];simp only [go_sem,j1,j5,j6,j7,j8,j9,j84,g85,m7,m9,BoxR]
   have t5:s2 5=.dat none (steps p):=by rw [ho 5 rfl];simp only [go_sem,j1,j5,j6,j7,j8,j9,j84,g85,m7,m9,BoxR]
   have t6:s2 6=.dat none (ints ctx):=by rw [ho 6 rfl];simp only [go_sem,j1,j5,j6,j7,j8,j9,j84,g85,m7,m9,BoxR]
   have t7:s2 7=.ptr 1344 1216 0 none:=by rw [ho 7 rfl];simp only [go_sem,j1,j5,j6,j7,j8,j9,j84,g85,m7,m9,BoxR]
   have t8:s2 8=aB ok:=by rw [ho 8 rfl];simp only [go_sem,j1,j5,j6,j7,j8,j9,j84,g85,m7,m9,BoxR]
   clear ho
   cases ok with
   | false=>simp only [go_sem,j1,j5,j6,j7,j8,j9,j84,g85,m7,m9,BoxR,t1,t5,t6,t7,t8,g13,b7,g12,b12,BoxR,BoxK]
   | true =>
    by_cases h20:(k:Int) < 20
    · obtain ⟨hm,hh,hpc⟩:=hI rfl
      have hp:=prog_ok hok
      have e:anaN p p.length=r:=by rw [← hr];unfold anaV;rw [if_pos hok]
      have ro:=anaN_ok hp p.length
      have hw:IntKind.i64.wrap ((k:Int)+1)=((k+1:Nat):Int):=by rw [wrap_in (by omega) (by omega)];omega
      have hwm:wMachine m≤4194304:=by
       have l1:=hm.regs;have l2:=hm.cells;have l3:=hm.isset
       unfold wMachine
       omega
      have f1:=impl_DoStep.fc p ctx m (by omega) (by omega) hwm
      cases hcb:ctxB ctx with
      | false =>
       have hdo:doStepV p ctx m=(zeroMach,0,false,false):=by unfold doStepV doOk;rw [hcb];simp
       rw [hdo] at f1
       unfold doStepD at f1
       dsimp only at f1
       simp only [go_sem,h20,j1,j5,j6,j7,j8,j9,j84,g85,m7,m9,BoxR,t1,t5,t6,t7,t8,g13,b7,g12,b12,BoxR,BoxK]
       refine fcW_bd f1 (noRs_t4 noRs_Machine rfl rfl rfl) ?_
       simp only [go_sem,j1,j5,j6,j7,j8,j9,j84,g85,m7,m9,BoxR,t1,t5,t6,t7,t8,g13,b7,g12,b12,BoxR,BoxK]
      | true =>
       have hC:=ctx_ok hcb
       have fs:=fin_step hp hC hm hpc (by rw [e];exact hh)
       have sk:=step_keeps hp hC hm hpc
       have sf:=step_at_fault (p:=p) (ctx:=ctx) (m:=m)
       rw [e] at fs ro
       have hdo:doOk p ctx m=true:=by unfold doOk;rw [hok,hcb,mach_good hm,decide_eq_true hpc];rfl
       unfold doStepV at f1
       rw [if_pos hdo] at f1
       have p0:=hm.pc.1
       have ly2:=ro.ly
       have lm2:=ro.lm
       have hmet:=hh.1
       have hok2:=ro.ok _ hmet
       have gy:r.mays[m.pc.toNat]? = some (getM r m.pc.toNat):=getD_some (by omega)
       have gm2:r.met[m.pc.toNat]? = some true:=by
        have:r.met[m.pc.toNat]? = some (r.met.getD m.pc.toNat false):=getD_some (by omega)
        rw [this];exact congrArg some hmet
       have hin:inMayD (getM r m.pc.toNat) m=.tup [Bb true,Bb true]:=by
        unfold inMayD
        rw [ok_goodMay hok2,mach_good hm,inMay_iff.2 hh.2];rfl
       have f2:=impl_InMay.fc (getM r m.pc.toNat) m (by have:=wMay_len hok2.len;omega) hwm
       rw [hin] at f2
       generalize getM r m.pc.toNat=y at gy f2
       have f3:=laws_has.fc r.bad m.pc (by omega)
       have n1:¬ m.pc < 0:=by omega
       have n2:¬ m.pc ≥ (r.mays.length:Int):=by omega
       have n3:¬ m.pc ≥ (r.met.length:Int):=by omega
       have n4:m.pc < (r.mays.length:Int):=by omega
       have n5:m.pc < (r.met.length:Int):=by omega
       generalize stepAt p ctx m=S at f1 fs sk sf
       obtain ⟨x,fl,en⟩:=S
       dsimp only at f1 fs sf
       rcases sf with rfl|hfl
       · have z0:¬ (0:Int) > 0:=by decide
         rw [if_pos (show ((0:Int) == 0)=true from rfl)] at f1
         unfold doStepD at f1
         dsimp only at f1
         have skm:=sk.ok
         have skp:=sk.pc
         dsimp only at skm skp
         simp only [go_sem,h20,j1,j5,j6,j7,j8,j9,j84,g85,m7,m9,BoxR,t1,t5,t6,t7,t8,g13,b7,g12,b12,BoxR,BoxK]
         refine fcW_bd f1 (noRs_t4 noRs_Machine rfl rfl rfl) ?_
         simp only [go_sem,n1,n2,n3,n4,n5,p0,gy,gm2,j1,j5,j6,j7,j8,j9,j84,g85,m7,m9,BoxR,t1,t5,t6,t7,t8,g13,b7,g12,b12,BoxR,BoxK]
         refine fcW_bd f2 rfl ?_
         simp only [go_sem,n1,n2,n3,n4,n5,p0,gy,gm2,z0,j1,j5,j6,j7,j8,j9,j84,g85,m7,m9,BoxR,t1,t5,t6,t7,t8,g13,b7,g12,b12,BoxR,BoxK]
         cases en with
         | true=>simp only [go_sem,j1,j5,j6,j7,j8,j9,j84,g85,m7,m9,BoxR,t1,t5,t6,t7,t8,g13,b7,g12,b12,BoxR,BoxK]
         | false =>
          simp only [go_sem,j1,j5,j6,j7,j8,j9,j84,g85,m7,m9,BoxR,t1,t5,t6,t7,t8,g13,b7,g12,b12,BoxR,BoxK]
          refine fcW_bool f3 ?_
          cases hb:r.bad.any (· == m.pc) with
          | true=>simp only [go_sem,j1,j5,j6,j7,j8,j9,j84,g85,m7,m9,BoxR,t1,t5,t6,t7,t8,g13,b7,g12,b12,BoxR,BoxK]
          | false =>
           have hnb:¬ m.pc∈r.bad:=by
            intro h
            rw [List.any_eq_false] at hb
            exact hb _ h (by simp)
           have nx:=(fs hnb).2 rfl
           simp only [go_sem,hw,take_map_len,j1,j5,j6,j7,j8,j9,j84,g85,m7,m9,BoxR,t1,t5,t6,t7,t8,g13,b7,g12,b12,BoxR,BoxK]
           exact ⟨(k+1,x),by dsimp only;omega,by dsimp only;omega,by simp only [go_sem,j1,j5,j6,j7,j8,j9,j84,g85,m7,m9,BoxR,t1,t5,t6,t7,t8,g13,b7,g12,b12,BoxR,BoxK],by simp only [go_sem,j1,j5,j6,j7,j8,j9,j84,g85,m7,m9,BoxR,t1,t5,t6,t7,t8,g13,b7,g12,b12,BoxR,BoxK],⟨bv,by simp only [go_sem,j1,j5,j6,j7,j8,j9,j84,g85,m7,m9,BoxR,t1,t5,t6,t7,t8,g13,b7,g12,b12,BoxR,BoxK],by simp only [go_sem,j1,j5,j6,j7,j8,j9,j84,g85,m7,m9,BoxR,t1,t5,t6,t7,t8,g13,b7,g12,b12,BoxR,BoxK]⟩,fun _=>⟨skm,nx.1,skp⟩⟩
       · have nf:¬ (fl == 0)=true:=by simp;omega
         rw [if_neg nf] at f1
         unfold doStepD at f1
         dsimp only at f1
         have hbad:m.pc∈r.bad:=by
          by_cases h:m.pc∈r.bad
          · exact h
          · have:=(fs h).1;omega
         rw [List.any_eq_true.2 ⟨_,hbad,by simp⟩] at f3
         simp only [go_sem,h20,j1,j5,j6,j7,j8,j9,j84,g85,m7,m9,BoxR,t1,t5,t6,t7,t8,g13,b7,g12,b12,BoxR,BoxK]
         refine fcW_bd f1 (noRs_t4 noRs_Machine rfl rfl rfl) ?_
         simp only [go_sem,n1,n2,n3,n4,n5,p0,gy,gm2,j1,j5,j6,j7,j8,j9,j84,g85,m7,m9,BoxR,t1,t5,t6,t7,t8,g13,b7,g12,b12,BoxR,BoxK]
         refine fcW_bd f2 rfl ?_
         simp only [go_sem,n1,n2,n3,n4,n5,p0,gy,gm2,hfl,j1,j5,j6,j7,j8,j9,j84,g85,m7,m9,BoxR,t1,t5,t6,t7,t8,g13,b7,g12,b12,BoxR,BoxK]
         refine fcW_bool f3 ?_
         simp only [go_sem,hfl,j1,j5,j6,j7,j8,j9,j84,g85,m7,m9,BoxR,t1,t5,t6,t7,t8,g13,b7,g12,b12,BoxR,BoxK]
    · simp only [go_sem,h20,j1,j5,j6,j7,j8,j9,j84,g85,m7,m9,BoxR,t1,t5,t6,t7,t8,g13,b7,g12,b12,BoxR,BoxK]
 rintro e3 s3 M3 rfl ho
 have t1:s3 1=.dat none (.sl 1 (more.map Ub)):=by rw [ho 1 rfl];simp only [go_sem,j1,j5,j6,j7,j8,j9,j84,g85,m7,m9,BoxR]
 clear ho
 have wa:=wMay_len ha
 have wb:=wMay_len hb
 have wcc:=wMay_len hc
 have j1:=impl_JoinMay.fc a b (by omega) (by omega)
 have j2:=spec_JoinMay.fc a b (by omega) (by omega)
 obtain ⟨R0,R1,hR⟩:=inMay_two c x
 have wx:wMachine x≤4194304:=by unfold wMachine;omega
 have i1:=impl_InMay.fc c x (by omega) wx
 have i2:=spec_InMay.fc c x (by omega) wx
 rw [hR] at i1 i2
 have g1:=impl_GoodMay.fc a (by omega)
 have g2:=spec_GoodMay.fc a (by omega)
 have wj:=joinG_w a b
 have g3:=impl_GoodMay.fc (joinG a b) (by omega)
 have hgj:(goodMay a&&goodMay b)=true→goodMay (joinG a b)=true:=by
  intro h
  unfold joinG
  rw [if_pos h]
  rw [Bool.and_eq_true] at h
  exact ok_goodMay (joinM_ok (goodMay_ok h.1) (goodMay_ok h.2))
 have wj2:=wj
 unfold wMay at wj2
 have sj:=laws_sameMay.fc (joinG a b) (by omega) (by omega) (by omega) (by omega)
 have ss:=laws_sameMay.fc startM (by decide) (by decide) (by decide) (by decide)
 generalize joinG a b=jn at *
 generalize (goodMay a&&goodMay b)=gg at *
 generalize goodMay a=ga at *
 have v1:(gg == gg)=true:=by simp
 have v2:(R0 == R0)=true:=by simp
 have v3:(R1 == R1)=true:=by simp
 have v4:(ga == ga)=true:=by simp
 have v5:(true != false)=true:=rfl
 simp only [go_sem,j1,j5,j6,j7,j8,j9,j84,g85,m7,m9,BoxR,t1]
 refine fcW_bd d2 (noRs_t2 noRs_May noRs_May) ?_
 simp only [go_sem,take_map_len,j1,j5,j6,j7,j8,j9,j84,g85,m7,m9,BoxR,t1]
 refine fcW_bd j1 (noRs_t2 noRs_May rfl) ?_
 simp only [go_sem,take_map_len,j1,j5,j6,j7,j8,j9,j84,g85,m7,m9,BoxR,t1]
 refine fcW_bd j2 (noRs_t2 noRs_May rfl) ?_
 simp only [go_sem,take_map_len,j1,j5,j6,j7,j8,j9,j84,g85,m7,m9,BoxR,t1]
 refine fcW_bd d3 (noRs_t2 noRs_May noRs_Machine) ?_
 simp only [go_sem,take_map_len,j1,j5,j6,j7,j8,j9,j84,g85,m7,m9,BoxR,t1]
 refine fcW_bd i1 rfl ?_
 simp only [go_sem,take_map_len,j1,j5,j6,j7,j8,j9,j84,g85,m7,m9,BoxR,t1]
 refine fcW_bd i2 rfl ?_
 simp only [go_sem,take_map_len,j1,j5,j6,j7,j8,j9,j84,g85,m7,m9,BoxR,t1]
 refine fcW_bd impl_StartMay.fc noRs_May ?_
 simp only [go_sem,take_map_len,v1,v5,j1,j5,j6,j7,j8,j9,j84,g85,m7,m9,BoxR,t1]
 refine fcW_bool sj ?_
 simp only [go_sem,take_map_len,v2,v3,v5,j1,j5,j6,j7,j8,j9,j84,g85,m7,m9,BoxR,t1]
 refine fcW_bd spec_StartMay.fc noRs_May ?_
 simp only [go_sem,take_map_len,j1,j5,j6,j7,j8,j9,j84,g85,m7,m9,BoxR,t1]
 refine fcW_bool ss ?_
 simp only [go_sem,take_map_len,j1,j5,j6,j7,j8,j9,j84,g85,m7,m9,BoxR,t1]
 refine fcW_bool g1 ?_
 simp only [go_sem,take_map_len,j1,j5,j6,j7,j8,j9,j84,g85,m7,m9,BoxR,t1]
 refine fcW_bool g2 ?_
 simp only [go_sem,v4,v5,take_map_len,j1,j5,j6,j7,j8,j9,j84,g85,m7,m9,BoxR,t1]
 cases gg with
 | false=>simp only [go_sem,j1,j5,j6,j7,j8,j9,j84,g85,m7,m9,BoxR,t1];try rfl
 | true =>
  rw [hgj rfl] at g3
  simp only [go_sem,take_map_len,j1,j5,j6,j7,j8,j9,j84,g85,m7,m9,BoxR,t1]
  refine fcW_bool g3 ?_
  simp only [go_sem,j1,j5,j6,j7,j8,j9,j84,g85,m7,m9,BoxR,t1];try rfl
theorem hasByte {d:D} (h:HasTy (.int .u8) d):∃ n:Int,d=.int .u8 n∧(0≤n∧n≤255):=by
 simp only [HasTy] at h
 obtain ⟨n,rfl,h⟩:=h
 refine ⟨n,rfl,?_⟩
 simp [Lit.wf,IntKind.has,IntKind.min,IntKind.max,IntKind.signed,IntKind.bits] at h
 exact ⟨by omega,by omega⟩
theorem hasBytes {d:D} (h:HasTy (.sl (.int .u8)) d):∃ l:List Int,d=.sl 1 (l.map (fun n=>(.int .u8 n:D)))∧l.length≤9223372036854775807∧∀ b∈l,0≤b∧b≤255 :=
 hasSl (f:=fun n=>(.int .u8 n:D)) (p:=fun b=>0≤b∧b≤255) (fun _ h=>hasByte h) h
end Go.Vm.YtmbhjcgikblpiaaGreat
