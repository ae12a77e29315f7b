/- What the functions that the law reaches return: part 3 (the conditions stand at each). -/
import Derived.Test.YtmbhjcgikblpiaaGreatWkb
open Nat renaming reduceEqDiff → nE, reduceAdd → nA, reduceMul → nM, reduceBEq → nB, reduceSub → nS, reduceLT → nL, reduceLeDiff → nD
open Int renaming reduceToNat → iT, reduceLE → iE, reduceLT → iL
open Option renaming getD_none → oN
namespace Go.Vm.YtmbhjcgikblpiaaGreat
open Go Go.Vm
set_option maxRecDepth 10000
set_option maxHeartbeats 32000000
set_option linter.unusedSimpArgs false
set_option linter.unusedVariables false
theorem spec_l13Analyse.fc (p:List StepD) (op:ProgOk p):FCt prog F_spec_l13Analyse [.ro] [steps p] (anaN p p.length).d []:=by
  refine fct_run spec_l13Analyse.ok rfl ?_
  have l1:=op.len.1
  have l2:=op.len.2
  have q1:(p.length:Int) * (1:Nat)≤70368744177664:=by omega
  have q2:(p.length:Int) * (96:Nat)≤70368744177664:=by omega
  have q3:(0:Int) < p.length:=by omega
  have q4:0 < p.length:=by omega
  have st:=startM_ok.len
  have s1:=st.reg
  have s2:=st.bits
  have s3:=st.cell
  have s4:=st.isset
  have z0:(D.agg [D.sl 2 [],D.sl 2 [],D.sl 2 [],D.sl 1 []])=zeroM.d:=rfl
  have e1:((List.replicate p.length (D.bool false)).set 0 (.bool true))=((List.replicate p.length false).set 0 true).map Bb:=by simp
  have e2:((List.replicate p.length zeroM.d).set 0 startM.d)=((List.replicate p.length zeroM).set 0 startM).map MayD.d:=by simp
  have g0:∀ d:D,(List.replicate p.length d)[0]? = some d:=fun d=>by rw [List.getElem?_replicate,if_pos q4]
  simp only [go_sem,↓reduceIte,nE,nA,nM,nB,oN,iT,nS,nL,nD,iE,iL,reduceCtorEq,q1,q2,q3,g0,Int.le_refl]
  refine fcW_bd spec_StartMay.fc noRs_May ?_
  simp only [go_sem,↓reduceIte,nE,nA,nM,nB,oN,iT,nS,nL,nD,iE,iL,reduceCtorEq,q3,s1,s2,s3,s4,tk_S,tk_K,tk_B,g0,take_map_len]
  refine R_loop (α:=Nat) (fun i s' M'=>i≤p.length∧s' 28=aI i∧M'.m 64=some (.box 0 (.agg [.nil 1,.nil 4,.nil 1]))∧M'.m 256=some (.arr 192 true 1 ((anaN p i).met.map Bb))∧M'.m 448=some (.arr 384 true 4 ((anaN p i).mays.map MayD.d)) ∧
      (∃ bx o,M'.m 576=some (.box 512 (.agg [.sl 256 192 0 p.length 1,.sl 448 384 0 p.length 4,bx]))∧M'.m 3584=o∧BadX 3584 bx o (anaN p i).bad)) (fun i=>p.length - i) 0
    ⟨by omega,by simp only [go_sem,↓reduceIte,nE,nA,nM,nB,oN,iT,nS,nL,nD,iE,iL,reduceCtorEq];rfl,by simp only [go_sem,↓reduceIte,nE,nA,nM,nB,oN,iT,nS,nL,nD,iE,iL,reduceCtorEq],by simp only [go_sem,↓reduceIte,nE,nA,nM,nB,oN,iT,nS,nL,nD,iE,iL,reduceCtorEq,e1];try rfl,by simp only [go_sem,↓reduceIte,nE,nA,nM,nB,oN,iT,nS,nL,nD,iE,iL,reduceCtorEq];rw [z0];exact congrArg (fun z=>some (Obj.arr 384 true 4 z)) e2,_,_,by simp only [go_sem,↓reduceIte,nE,nA,nM,nB,oN,iT,nS,nL,nD,iE,iL,reduceCtorEq];try rfl,rfl,.inl ⟨rfl,rfl⟩⟩ ?_
  rintro i s' M' ⟨hi,h28,m0,m1,m2,bx,o,m3,m4,hbx⟩ ho
  unfold spec_l13Analyse.b1
  have j0:s' 0=.dat none (steps p):=by rw [ho 0 rfl];simp only [go_sem,↓reduceIte,nE,nA,nM,nB,oN,iT,nS,nL,nD,iE,iL,reduceCtorEq]
  have j2:s' 2=.ptr 64 0 0 none:=by rw [ho 2 rfl];simp only [go_sem,↓reduceIte,nE,nA,nM,nB,oN,iT,nS,nL,nD,iE,iL,reduceCtorEq]
  have j3:s' 3=.ptr 576 512 0 none:=by rw [ho 3 rfl];simp only [go_sem,↓reduceIte,nE,nA,nM,nB,oN,iT,nS,nL,nD,iE,iL,reduceCtorEq]
  have j26:s' 26=.dat none (steps p):=by rw [ho 26 rfl];simp only [go_sem,↓reduceIte,nE,nA,nM,nB,oN,iT,nS,nL,nD,iE,iL,reduceCtorEq]
  have j27:s' 27=aI p.length:=by rw [ho 27 rfl];simp only [go_sem,↓reduceIte,nE,nA,nM,nB,oN,iT,nS,nL,nD,iE,iL,reduceCtorEq]
  clear ho
  have ok:=anaN_ok op i
  have hbl:=anaN_bad (p:=p) i
  by_cases hlt:i < p.length
  · have hi':(i:Int) < p.length:=by omega
    have ga:p[i]? = some p[i]:=List.getElem?_eq_getElem hlt
    have hw:IntKind.i64.wrap (i+1)=((i+1:Nat):Int):=wrap_k hlt (by omega)
    have hst:anaN p (i+1)=anaS p i (anaN p i):=rfl
    have hv:=(op.all i hlt).1
    unfold anaS at hst
    rw [ga] at hst
    dsimp only at hst
    generalize p[i]=s at ga hv hst
    generalize anaN p i=r at hst ok hbl m1 m2 hbx
    have gm:r.met[i]? = some (metB r i):=getD_some (by rw [ok.lm];exact hlt)
    have gy:r.mays[i]? = some (getM r i):=getD_some (by rw [ok.ly];exact hlt)
    cases hm:metB r i with
    | false =>
      rw [hm] at hst gm
      simp only [Bool.false_eq_true,if_false] at hst
      simp only [go_sem,↓reduceIte,nE,nA,nM,nB,oN,iT,nS,nL,nD,iE,iL,reduceCtorEq,gm,j0,j2,j3,j26,j27,h28,m0,m1,m2,m3,m4,hi',ga,hw]
      exact ⟨i+1,by dsimp only;omega,by omega,by simp only [go_sem,↓reduceIte,nE,nA,nM,nB,oN,iT,nS,nL,nD,iE,iL,reduceCtorEq,j0,j2,j3,j26,j27,h28,m0,m1,m2,m3,m4,hi',ga,hw],by simp only [go_sem,↓reduceIte,nE,nA,nM,nB,oN,iT,nS,nL,nD,iE,iL,reduceCtorEq,j0,j2,j3,j26,j27,h28,m0,m1,m2,m3,m4,hi',ga,hw],by simp only [go_sem,↓reduceIte,nE,nA,nM,nB,oN,iT,nS,nL,nD,iE,iL,reduceCtorEq,hst,j0,j2,j3,j26,j27,h28,m0,m1,m2,m3,m4,hi',ga,hw],by simp only [go_sem,↓reduceIte,nE,nA,nM,nB,oN,iT,nS,nL,nD,iE,iL,reduceCtorEq,hst,j0,j2,j3,j26,j27,h28,m0,m1,m2,m3,m4,hi',ga,hw],_,_,by simp only [go_sem,↓reduceIte,nE,nA,nM,nB,oN,iT,nS,nL,nD,iE,iL,reduceCtorEq,j0,j2,j3,j26,j27,h28,m0,m1,m2,m3,m4,hi',ga,hw];rfl,rfl,by simp only [go_sem,↓reduceIte,nE,nA,nM,nB,oN,iT,nS,nL,nD,iE,iL,reduceCtorEq,j0,j2,j3,j26,j27,h28,m0,m1,m2,m3,m4,hi',ga,hw];rw [hst];exact hbx⟩
    | true =>
      rw [hm] at hst gm
      simp only [if_true] at hst
      have om:=ok.ok i hm
      have cs:=spec_l13Step.fc s (getM r i) om hv
      have oa:=mayV_ok om hv
      generalize getM r i=m at gy om cs oa hst
      simp only [go_sem,↓reduceIte,nE,nA,nM,nB,oN,iT,nS,nL,nD,iE,iL,reduceCtorEq,gm,gy,j0,j2,j3,j26,j27,h28,m0,m1,m2,m3,m4,hi',ga,hw]
      refine fcW_bd (spec_l13Own.fc m om.len) noRs_May ?_
      have M1:=tk_S om.reg
      have M2:=tk_K om.bits
      have M3:=tk_S om.cell
      have M4:=tk_B om.isset
      have M5:=om.reg
      have M6:=om.bits
      have M7:=om.cell
      have M8:=om.isset
      have hfz:=mayV_fault (s:=s) (m:=m)
      generalize mayV s m=A at cs oa hst hfz
      obtain ⟨a,f⟩:=A
      dsimp only at cs oa hst hfz
      simp only [go_sem,↓reduceIte,nE,nA,nM,nB,oN,iT,nS,nL,nD,iE,iL,reduceCtorEq,M1,M2,M3,M4,M5,M6,M7,M8,Nat.le_refl,j0,j2,j3,j26,j27,h28,m0,m1,m2,m3,m4,hi',ga,hw]
      refine coW_of cs noRs_mayI rfl ?_
      cases hf:(f == 0) with
      | false =>
        have hf2:f > 0:=by rcases hfz with q|q;rw [q] at hf;cases hf;exact q
        rw [hf] at hst
        simp only [Bool.false_eq_true,if_false] at hst
        have hbb:(r.bad.length+1) * 8≤70368744177664:=by omega
        have sn:r.bad.map Ii++[Ii i]=(r.bad++[(i:Int)]).map Ii:=by simp
        have el:(r.bad++[(i:Int)]).length=r.bad.length+1:=by simp
        have el2:([(i:Int)]:List Int).length=1:=rfl
        have tk:(r.bad.map Ii).take r.bad.length=r.bad.map Ii:=List.take_of_length_le (by simp)
        rcases hbx with ⟨b1,b2⟩|⟨v,b1,b2⟩
        · subst b2
          simp only [go_sem,↓reduceIte,nE,nA,nM,nB,oN,iT,nS,nL,nD,iE,iL,reduceCtorEq,hf2,j0,j2,j3,j26,j27,h28,m0,m1,m2,m3,m4,hi',ga,hw]
          exact ⟨i+1,by dsimp only;omega,by omega,by simp only [go_sem,↓reduceIte,nE,nA,nM,nB,oN,iT,nS,nL,nD,iE,iL,reduceCtorEq,j0,j2,j3,j26,j27,h28,m0,m1,m2,m3,m4,hi',ga,hw],by simp only [go_sem,↓reduceIte,nE,nA,nM,nB,oN,iT,nS,nL,nD,iE,iL,reduceCtorEq,j0,j2,j3,j26,j27,h28,m0,m1,m2,m3,m4,hi',ga,hw],by simp only [go_sem,↓reduceIte,nE,nA,nM,nB,oN,iT,nS,nL,nD,iE,iL,reduceCtorEq,hst,j0,j2,j3,j26,j27,h28,m0,m1,m2,m3,m4,hi',ga,hw],by simp only [go_sem,↓reduceIte,nE,nA,nM,nB,oN,iT,nS,nL,nD,iE,iL,reduceCtorEq,hst,j0,j2,j3,j26,j27,h28,m0,m1,m2,m3,m4,hi',ga,hw],_,_,by simp only [go_sem,↓reduceIte,nE,nA,nM,nB,oN,iT,nS,nL,nD,iE,iL,reduceCtorEq,j0,j2,j3,j26,j27,h28,m0,m1,m2,m3,m4,hi',ga,hw];try rfl,rfl,.inr ⟨_,by rw [hst];dsimp only;rw [b1];rfl,by simp only [go_sem,↓reduceIte,nE,nA,nM,nB,oN,iT,nS,nL,nD,iE,iL,reduceCtorEq,hst,b1,j0,j2,j3,j26,j27,h28,m0,m1,m2,m3,m4,hi',ga,hw];try rfl⟩⟩
        · subst b1
          rw [b2] at m4
          simp only [go_sem,↓reduceIte,nE,nA,nM,nB,oN,iT,nS,nL,nD,iE,iL,reduceCtorEq,hf2,m4,hbb,sn,tk,j0,j2,j3,j26,j27,h28,m0,m1,m2,m3,m4,hi',ga,hw]
          exact ⟨i+1,by dsimp only;omega,by omega,by simp only [go_sem,↓reduceIte,nE,nA,nM,nB,oN,iT,nS,nL,nD,iE,iL,reduceCtorEq,j0,j2,j3,j26,j27,h28,m0,m1,m2,m3,m4,hi',ga,hw],by simp only [go_sem,↓reduceIte,nE,nA,nM,nB,oN,iT,nS,nL,nD,iE,iL,reduceCtorEq,j0,j2,j3,j26,j27,h28,m0,m1,m2,m3,m4,hi',ga,hw],by simp only [go_sem,↓reduceIte,nE,nA,nM,nB,oN,iT,nS,nL,nD,iE,iL,reduceCtorEq,hst,j0,j2,j3,j26,j27,h28,m0,m1,m2,m3,m4,hi',ga,hw],by simp only [go_sem,↓reduceIte,nE,nA,nM,nB,oN,iT,nS,nL,nD,iE,iL,reduceCtorEq,hst,j0,j2,j3,j26,j27,h28,m0,m1,m2,m3,m4,hi',ga,hw],_,_,by simp only [go_sem,↓reduceIte,nE,nA,nM,nB,oN,iT,nS,nL,nD,iE,iL,reduceCtorEq,j0,j2,j3,j26,j27,h28,m0,m1,m2,m3,m4,hi',ga,hw];try rfl,rfl,.inr ⟨_,by rw [hst];dsimp only;rw [el];try rfl,by simp only [go_sem,↓reduceIte,nE,nA,nM,nB,oN,iT,nS,nL,nD,iE,iL,reduceCtorEq,hst,j0,j2,j3,j26,j27,h28,m0,m1,m2,m3,m4,hi',ga,hw];try rfl⟩⟩
      | true =>
        have hf2:¬ f > 0:=by have:f=0:=(by simpa using hf);omega
        rw [hf] at hst
        simp only [if_true] at hst
        simp only [go_sem,↓reduceIte,nE,nA,nM,nB,oN,iT,nS,nL,nD,iE,iL,reduceCtorEq,hf2,j0,j2,j3,j26,j27,h28,m0,m1,m2,m3,m4,hi',ga,hw]
        have cn:=spec_l2Nexts.fc p i s (by omega) hi' op.len.2 (by rw [Int.toNat_natCast];exact ga) hv
        have hnx:∀ x∈nextsL s i,0≤x∧x < p.length:=fun x hx=>next_in (b:=x) op (by omega) (by rw [Int.toNat_natCast];exact ga) (List.any_eq_true.2 ⟨x,hx,by simp⟩)
        have hbr:brB s=true→s.kind=9∨s.kind=10:=fun h=>by simpa [brB] using h
        have co:=spec_l13Own.fc a oa.len
        have hlen:(nextsL s i).length≤2:=by
          unfold nextsL
          repeat' split
          all_goals simp
        generalize nextsL s i=N at cn hnx hst hlen
        refine fcW_bd cn noRs_ints ?_
        obtain ⟨a1,a2,a3,a4,_,_,_⟩:=oa.len.reg,oa.len.bits,oa.len.cell,oa.len.isset,trivial,trivial,trivial
        simp only [go_sem,↓reduceIte,nE,nA,nM,nB,oN,iT,nS,nL,nD,iE,iL,reduceCtorEq,j0,j2,j3,j26,j27,h28,m0,m1,m2,m3,m4,hi',ga,hw]
        generalize hR:foldN s a 0 N r=R at hst
        refine R_loop (α:=Nat×RepD) (fun b s' M'=>b.1≤N.length∧s' 62=aI b.1∧foldN s a b.1 (N.drop b.1) b.2=R∧RepOk p b.2∧b.2.bad=r.bad∧M'.m 64=some (.box 0 (.agg [.nil 1,.nil 4,.nil 1]))∧M'.m 256=some (.arr 192 true 1 (b.2.met.map Bb))∧M'.m 448=some (.arr 384 true 4 (b.2.mays.map MayD.d)) ∧
            M'.m 576=some (.box 512 (.agg [.sl 256 192 0 p.length 1,.sl 448 384 0 p.length 4,bx]))∧M'.m 3584=o ∧
            (∃ v,M'.m 1728=some (.box v (.dat none s.d))∧s' 5=.ptr 1728 v 0 none)∧(∃ v,M'.m 3904=some (.arr v true 1 (N.map Ii))∧s' 60=.sl 3904 v 0 N.length 1) ∧
            (∃ v v1 v2 v3 v4,M'.m 3008=some (.box v (.agg [.sl 2752 v1 0 6 2,.sl 2753 v2 0 6 2,.sl 2754 v3 0 16 2,.sl 2755 v4 0 16 1]))∧s' 6=.ptr 3008 v 0 none∧M'.m 2752=some (.arr v1 true 2 (a.reg.map strD))∧M'.m 2753=some (.arr v2 true 2 (a.bits.map knownD))∧M'.m 2754=some (.arr v3 true 2 (a.cell.map strD))∧M'.m 2755=some (.arr v4 true 1 (a.isset.map Bb))))
          (fun b=>N.length - b.1) (0,r)
          ⟨Nat.zero_le _,by simp only [go_sem,↓reduceIte,nE,nA,nM,nB,oN,iT,nS,nL,nD,iE,iL,reduceCtorEq,j0,j2,j3,j26,j27,h28,m0,m1,m2,m3,m4,hi',ga,hw];rfl,hR,ok,rfl,by simp only [go_sem,↓reduceIte,nE,nA,nM,nB,oN,iT,nS,nL,nD,iE,iL,reduceCtorEq,j0,j2,j3,j26,j27,h28,m0,m1,m2,m3,m4,hi',ga,hw],by simp only [go_sem,↓reduceIte,nE,nA,nM,nB,oN,iT,nS,nL,nD,iE,iL,reduceCtorEq,j0,j2,j3,j26,j27,h28,m0,m1,m2,m3,m4,hi',ga,hw],by simp only [go_sem,↓reduceIte,nE,nA,nM,nB,oN,iT,nS,nL,nD,iE,iL,reduceCtorEq,j0,j2,j3,j26,j27,h28,m0,m1,m2,m3,m4,hi',ga,hw],by simp only [go_sem,↓reduceIte,nE,nA,nM,nB,oN,iT,nS,nL,nD,iE,iL,reduceCtorEq,j0,j2,j3,j26,j27,h28,m0,m1,m2,m3,m4,hi',ga,hw],by simp only [go_sem,↓reduceIte,nE,nA,nM,nB,oN,iT,nS,nL,nD,iE,iL,reduceCtorEq,j0,j2,j3,j26,j27,h28,m0,m1,m2,m3,m4,hi',ga,hw];try simp,⟨_,by simp only [go_sem,↓reduceIte,nE,nA,nM,nB,oN,iT,nS,nL,nD,iE,iL,reduceCtorEq,j0,j2,j3,j26,j27,h28,m0,m1,m2,m3,m4,hi',ga,hw];try rfl,by simp only [go_sem,↓reduceIte,nE,nA,nM,nB,oN,iT,nS,nL,nD,iE,iL,reduceCtorEq,j0,j2,j3,j26,j27,h28,m0,m1,m2,m3,m4,hi',ga,hw];try rfl⟩,⟨_,by simp only [go_sem,↓reduceIte,nE,nA,nM,nB,oN,iT,nS,nL,nD,iE,iL,reduceCtorEq,j0,j2,j3,j26,j27,h28,m0,m1,m2,m3,m4,hi',ga,hw];try rfl,by simp only [go_sem,↓reduceIte,nE,nA,nM,nB,oN,iT,nS,nL,nD,iE,iL,reduceCtorEq,j0,j2,j3,j26,j27,h28,m0,m1,m2,m3,m4,hi',ga,hw];try rfl⟩,⟨_,_,_,_,_,by simp only [go_sem,↓reduceIte,nE,nA,nM,nB,oN,iT,nS,nL,nD,iE,iL,reduceCtorEq,a1,a2,a3,a4,j0,j2,j3,j26,j27,h28,m0,m1,m2,m3,m4,hi',ga,hw];try rfl,by simp only [go_sem,↓reduceIte,nE,nA,nM,nB,oN,iT,nS,nL,nD,iE,iL,reduceCtorEq,j0,j2,j3,j26,j27,h28,m0,m1,m2,m3,m4,hi',ga,hw];try rfl,by simp only [go_sem,↓reduceIte,nE,nA,nM,nB,oN,iT,nS,nL,nD,iE,iL,reduceCtorEq,j0,j2,j3,j26,j27,h28,m0,m1,m2,m3,m4,hi',ga,hw];try rfl,by simp only [go_sem,↓reduceIte,nE,nA,nM,nB,oN,iT,nS,nL,nD,iE,iL,reduceCtorEq,j0,j2,j3,j26,j27,h28,m0,m1,m2,m3,m4,hi',ga,hw];try rfl,by simp only [go_sem,↓reduceIte,nE,nA,nM,nB,oN,iT,nS,nL,nD,iE,iL,reduceCtorEq,j0,j2,j3,j26,j27,h28,m0,m1,m2,m3,m4,hi',ga,hw];try rfl,by simp only [go_sem,↓reduceIte,nE,nA,nM,nB,oN,iT,nS,nL,nD,iE,iL,reduceCtorEq,j0,j2,j3,j26,j27,h28,m0,m1,m2,m3,m4,hi',ga,hw];try rfl⟩⟩ ?_
        rintro ⟨n,q⟩ s2 M2 ⟨hn,h62,hfo,oq,hqb,m0,m1,m2,m3,m4,⟨v6,m6,h6⟩,⟨vN,mN,hN⟩,⟨v7,w1,w2,w3,w4,m7,h7,y1,y2,y3,y4⟩⟩ ho
        dsimp only at hn h62 hfo oq hqb m1 m2
        unfold spec_l13Analyse.b0
        have g0:s2 0=.dat none (steps p):=by rw [ho 0 rfl];simp only [go_sem,↓reduceIte,nE,nA,nM,nB,oN,iT,nS,nL,nD,iE,iL,reduceCtorEq,j0,j2,j3,j26,j27,h28,m0,m1,m2,m3,m4,hi',ga,hw]
        have g2:s2 2=.ptr 64 0 0 none:=by rw [ho 2 rfl];simp only [go_sem,↓reduceIte,nE,nA,nM,nB,oN,iT,nS,nL,nD,iE,iL,reduceCtorEq,j0,j2,j3,j26,j27,h28,m0,m1,m2,m3,m4,hi',ga,hw]
        have g3:s2 3=.ptr 576 512 0 none:=by rw [ho 3 rfl];simp only [go_sem,↓reduceIte,nE,nA,nM,nB,oN,iT,nS,nL,nD,iE,iL,reduceCtorEq,j0,j2,j3,j26,j27,h28,m0,m1,m2,m3,m4,hi',ga,hw]
        have g26:s2 26=.dat none (steps p):=by rw [ho 26 rfl];simp only [go_sem,↓reduceIte,nE,nA,nM,nB,oN,iT,nS,nL,nD,iE,iL,reduceCtorEq,j0,j2,j3,j26,j27,h28,m0,m1,m2,m3,m4,hi',ga,hw]
        have g27:s2 27=aI p.length:=by rw [ho 27 rfl];simp only [go_sem,↓reduceIte,nE,nA,nM,nB,oN,iT,nS,nL,nD,iE,iL,reduceCtorEq,j0,j2,j3,j26,j27,h28,m0,m1,m2,m3,m4,hi',ga,hw]
        have g61:s2 61=aI N.length:=by rw [ho 61 rfl];simp only [go_sem,↓reduceIte,nE,nA,nM,nB,oN,iT,nS,nL,nD,iE,iL,reduceCtorEq,j0,j2,j3,j26,j27,h28,m0,m1,m2,m3,m4,hi',ga,hw]
        have g28:s2 28=aI i:=by rw [ho 28 rfl];simp only [go_sem,↓reduceIte,nE,nA,nM,nB,oN,iT,nS,nL,nD,iE,iL,reduceCtorEq,j0,j2,j3,j26,j27,h28,m0,m1,m2,m3,m4,hi',ga,hw]
        clear ho
        by_cases hltn:n < N.length
        · have hn':(n:Int) < N.length:=by omega
          have gn:N[n]? = some N[n]:=List.getElem?_eq_getElem hltn
          have hwn:IntKind.i64.wrap (n+1)=((n+1:Nat):Int):=wrap_k hltn (by omega)
          have hd:N.drop n=N[n]::N.drop (n+1):=List.drop_eq_getElem_cons hltn
          have hx:=hnx N[n] (List.getElem_mem hltn)
          rw [hd,foldN_cons] at hfo
          generalize N[n]=x at gn hx hfo
          have T1:=tk_S a1
          have T2:=tk_K a2
          have T3:=tk_S a3
          have T4:=tk_B a4
          have x0:=hx.1
          have x1:=hx.2
          have gk:q.met[x.toNat]? = some (metB q x.toNat):=getD_some (by rw [oq.lm];omega)
          have gy:q.mays[x.toNat]? = some (getM q x.toNat):=getD_some (by rw [oq.ly];omega)
          have hxl:x.toNat < p.length:=by omega
          simp only [go_sem,↓reduceIte,nE,nA,nM,nB,oN,iT,nS,nL,nD,iE,iL,reduceCtorEq,a1,a2,a3,a4,T1,T2,T3,T4,Nat.le_refl,j0,j2,j3,j26,j27,h28,m0,m1,m2,m3,m4,hi',ga,hw,g0,g2,g3,g26,g27,g61,g28,h62,m0,m1,m2,m3,m4,m6,h6,mN,hN,m7,h7,y1,y2,y3,y4,hn',gn,hwn,x0,x1,gk,gy]
          refine fcW_bd co noRs_May ?_
          cases hbb:brB s with
          | true =>
            have ch:=spec_l13Heed.fc s a ((n:Int) == 1) oa hv (hbr hbb)
            have oh:=heedV_ok (t:=((n:Int) == 1)) oa hv
            have hfs:flowS s a n x q=if (heedV s a ((n:Int) == 1)).2 then landM q x.toNat (heedV s a ((n:Int) == 1)).1 else q:=by unfold flowS;rw [hbb];rfl
            rw [hfs] at hfo
            generalize heedV s a ((n:Int) == 1)=H at ch oh hfo
            obtain ⟨h,t⟩:=H
            dsimp only at ch oh hfo
            rcases hbr hbb with k9|k9 <;>
            · simp only [go_sem,↓reduceIte,nE,nA,nM,nB,oN,iT,nS,nL,nD,iE,iL,reduceCtorEq,a1,a2,a3,a4,T1,T2,T3,T4,Nat.le_refl,k9,Int.reduceBEq,j0,j2,j3,j26,j27,h28,m0,m1,m2,m3,m4,hi',ga,hw,g0,g2,g3,g26,g27,g61,g28,h62,m0,m1,m2,m3,m4,m6,h6,mN,hN,m7,h7,y1,y2,y3,y4,hn',gn,hwn,x0,x1,gk,gy]
              refine coW_of ch noRs_mayB rfl ?_
              cases t with
              | false =>
                simp only [Bool.false_eq_true,if_false] at hfo
                simp only [go_sem,↓reduceIte,nE,nA,nM,nB,oN,iT,nS,nL,nD,iE,iL,reduceCtorEq,j0,j2,j3,j26,j27,h28,m0,m1,m2,m3,m4,hi',ga,hw,g0,g2,g3,g26,g27,g61,g28,h62,m0,m1,m2,m3,m4,m6,h6,mN,hN,m7,h7,y1,y2,y3,y4,hn',gn,hwn,x0,x1,gk,gy]
                exact ⟨(n+1,q),by dsimp only;omega,by dsimp only;omega,by simp only [go_sem,↓reduceIte,nE,nA,nM,nB,oN,iT,nS,nL,nD,iE,iL,reduceCtorEq,j0,j2,j3,j26,j27,h28,m0,m1,m2,m3,m4,hi',ga,hw,g0,g2,g3,g26,g27,g61,g28,h62,m0,m1,m2,m3,m4,m6,h6,mN,hN,m7,h7,y1,y2,y3,y4,hn',gn,hwn,x0,x1,gk,gy],hfo,oq,hqb,by simp only [go_sem,↓reduceIte,nE,nA,nM,nB,oN,iT,nS,nL,nD,iE,iL,reduceCtorEq,j0,j2,j3,j26,j27,h28,m0,m1,m2,m3,m4,hi',ga,hw,g0,g2,g3,g26,g27,g61,g28,h62,m0,m1,m2,m3,m4,m6,h6,mN,hN,m7,h7,y1,y2,y3,y4,hn',gn,hwn,x0,x1,gk,gy],by simp only [go_sem,↓reduceIte,nE,nA,nM,nB,oN,iT,nS,nL,nD,iE,iL,reduceCtorEq,j0,j2,j3,j26,j27,h28,m0,m1,m2,m3,m4,hi',ga,hw,g0,g2,g3,g26,g27,g61,g28,h62,m0,m1,m2,m3,m4,m6,h6,mN,hN,m7,h7,y1,y2,y3,y4,hn',gn,hwn,x0,x1,gk,gy],by simp only [go_sem,↓reduceIte,nE,nA,nM,nB,oN,iT,nS,nL,nD,iE,iL,reduceCtorEq,j0,j2,j3,j26,j27,h28,m0,m1,m2,m3,m4,hi',ga,hw,g0,g2,g3,g26,g27,g61,g28,h62,m0,m1,m2,m3,m4,m6,h6,mN,hN,m7,h7,y1,y2,y3,y4,hn',gn,hwn,x0,x1,gk,gy],by simp only [go_sem,↓reduceIte,nE,nA,nM,nB,oN,iT,nS,nL,nD,iE,iL,reduceCtorEq,j0,j2,j3,j26,j27,h28,m0,m1,m2,m3,m4,hi',ga,hw,g0,g2,g3,g26,g27,g61,g28,h62,m0,m1,m2,m3,m4,m6,h6,mN,hN,m7,h7,y1,y2,y3,y4,hn',gn,hwn,x0,x1,gk,gy],by simp only [go_sem,↓reduceIte,nE,nA,nM,nB,oN,iT,nS,nL,nD,iE,iL,reduceCtorEq,j0,j2,j3,j26,j27,h28,m0,m1,m2,m3,m4,hi',ga,hw,g0,g2,g3,g26,g27,g61,g28,h62,m0,m1,m2,m3,m4,m6,h6,mN,hN,m7,h7,y1,y2,y3,y4,hn',gn,hwn,x0,x1,gk,gy],⟨_,by simp only [go_sem,↓reduceIte,nE,nA,nM,nB,oN,iT,nS,nL,nD,iE,iL,reduceCtorEq,j0,j2,j3,j26,j27,h28,m0,m1,m2,m3,m4,hi',ga,hw,g0,g2,g3,g26,g27,g61,g28,h62,m0,m1,m2,m3,m4,m6,h6,mN,hN,m7,h7,y1,y2,y3,y4,hn',gn,hwn,x0,x1,gk,gy];try rfl,by simp only [go_sem,↓reduceIte,nE,nA,nM,nB,oN,iT,nS,nL,nD,iE,iL,reduceCtorEq,j0,j2,j3,j26,j27,h28,m0,m1,m2,m3,m4,hi',ga,hw,g0,g2,g3,g26,g27,g61,g28,h62,m0,m1,m2,m3,m4,m6,h6,mN,hN,m7,h7,y1,y2,y3,y4,hn',gn,hwn,x0,x1,gk,gy];try rfl⟩,⟨_,by simp only [go_sem,↓reduceIte,nE,nA,nM,nB,oN,iT,nS,nL,nD,iE,iL,reduceCtorEq,j0,j2,j3,j26,j27,h28,m0,m1,m2,m3,m4,hi',ga,hw,g0,g2,g3,g26,g27,g61,g28,h62,m0,m1,m2,m3,m4,m6,h6,mN,hN,m7,h7,y1,y2,y3,y4,hn',gn,hwn,x0,x1,gk,gy];try rfl,by simp only [go_sem,↓reduceIte,nE,nA,nM,nB,oN,iT,nS,nL,nD,iE,iL,reduceCtorEq,j0,j2,j3,j26,j27,h28,m0,m1,m2,m3,m4,hi',ga,hw,g0,g2,g3,g26,g27,g61,g28,h62,m0,m1,m2,m3,m4,m6,h6,mN,hN,m7,h7,y1,y2,y3,y4,hn',gn,hwn,x0,x1,gk,gy];try rfl⟩,⟨_,_,_,_,_,by simp only [go_sem,↓reduceIte,nE,nA,nM,nB,oN,iT,nS,nL,nD,iE,iL,reduceCtorEq,j0,j2,j3,j26,j27,h28,m0,m1,m2,m3,m4,hi',ga,hw,g0,g2,g3,g26,g27,g61,g28,h62,m0,m1,m2,m3,m4,m6,h6,mN,hN,m7,h7,y1,y2,y3,y4,hn',gn,hwn,x0,x1,gk,gy];try rfl,by simp only [go_sem,↓reduceIte,nE,nA,nM,nB,oN,iT,nS,nL,nD,iE,iL,reduceCtorEq,j0,j2,j3,j26,j27,h28,m0,m1,m2,m3,m4,hi',ga,hw,g0,g2,g3,g26,g27,g61,g28,h62,m0,m1,m2,m3,m4,m6,h6,mN,hN,m7,h7,y1,y2,y3,y4,hn',gn,hwn,x0,x1,gk,gy];try rfl,by simp only [go_sem,↓reduceIte,nE,nA,nM,nB,oN,iT,nS,nL,nD,iE,iL,reduceCtorEq,j0,j2,j3,j26,j27,h28,m0,m1,m2,m3,m4,hi',ga,hw,g0,g2,g3,g26,g27,g61,g28,h62,m0,m1,m2,m3,m4,m6,h6,mN,hN,m7,h7,y1,y2,y3,y4,hn',gn,hwn,x0,x1,gk,gy];try rfl,by simp only [go_sem,↓reduceIte,nE,nA,nM,nB,oN,iT,nS,nL,nD,iE,iL,reduceCtorEq,j0,j2,j3,j26,j27,h28,m0,m1,m2,m3,m4,hi',ga,hw,g0,g2,g3,g26,g27,g61,g28,h62,m0,m1,m2,m3,m4,m6,h6,mN,hN,m7,h7,y1,y2,y3,y4,hn',gn,hwn,x0,x1,gk,gy];try rfl,by simp only [go_sem,↓reduceIte,nE,nA,nM,nB,oN,iT,nS,nL,nD,iE,iL,reduceCtorEq,j0,j2,j3,j26,j27,h28,m0,m1,m2,m3,m4,hi',ga,hw,g0,g2,g3,g26,g27,g61,g28,h62,m0,m1,m2,m3,m4,m6,h6,mN,hN,m7,h7,y1,y2,y3,y4,hn',gn,hwn,x0,x1,gk,gy];try rfl,by simp only [go_sem,↓reduceIte,nE,nA,nM,nB,oN,iT,nS,nL,nD,iE,iL,reduceCtorEq,j0,j2,j3,j26,j27,h28,m0,m1,m2,m3,m4,hi',ga,hw,g0,g2,g3,g26,g27,g61,g28,h62,m0,m1,m2,m3,m4,m6,h6,mN,hN,m7,h7,y1,y2,y3,y4,hn',gn,hwn,x0,x1,gk,gy];try rfl⟩⟩
              | true =>
                simp only [if_true] at hfo
                have oh:=oh rfl
                obtain ⟨b1,b2,b3,b4⟩:=oh.len
                have U1:=tk_S b1
                have U2:=tk_K b2
                have U3:=tk_S b3
                have U4:=tk_B b4
                simp only [go_sem,↓reduceIte,nE,nA,nM,nB,oN,iT,nS,nL,nD,iE,iL,reduceCtorEq,j0,j2,j3,j26,j27,h28,m0,m1,m2,m3,m4,hi',ga,hw,g0,g2,g3,g26,g27,g61,g28,h62,m0,m1,m2,m3,m4,m6,h6,mN,hN,m7,h7,y1,y2,y3,y4,hn',gn,hwn,x0,x1,gk,gy]
                have ol:=landM_ok (k:=x.toNat) oq oh
                have hlb:(landM q x.toNat h).bad=q.bad:=landM_bad
                cases hk:metB q x.toNat with
                | true =>
                  have cj:=spec_l13Join.fc (getM q x.toNat) h (oq.ok _ hk).len oh.len
                  have hl:landM q x.toNat h = { q with mays:=q.mays.set x.toNat (joinM (getM q x.toNat) h) }:=by unfold landM;rw [hk];rfl
                  obtain ⟨c1,c2,c3,c4⟩:=joinM_len (oq.ok _ hk).len oh.len
                  generalize joinM (getM q x.toNat) h=J at cj hl c1 c2 c3 c4
                  rw [hl] at ol hlb hfo
                  have V1:=tk_S c1
                  have V2:=tk_K c2
                  have V3:=tk_S c3
                  have V4:=tk_B c4
                  simp only [go_sem,↓reduceIte,nE,nA,nM,nB,oN,iT,nS,nL,nD,iE,iL,reduceCtorEq,b1,b2,b3,b4,U1,U2,U3,U4,Nat.le_refl,j0,j2,j3,j26,j27,h28,m0,m1,m2,m3,m4,hi',ga,hw,g0,g2,g3,g26,g27,g61,g28,h62,m0,m1,m2,m3,m4,m6,h6,mN,hN,m7,h7,y1,y2,y3,y4,hn',gn,hwn,x0,x1,gk,gy]
                  refine fcW_bd cj noRs_May ?_
                  simp only [go_sem,↓reduceIte,nE,nA,nM,nB,oN,iT,nS,nL,nD,iE,iL,reduceCtorEq,c1,c2,c3,c4,V1,V2,V3,V4,Nat.le_refl,hxl,my_set,j0,j2,j3,j26,j27,h28,m0,m1,m2,m3,m4,hi',ga,hw,g0,g2,g3,g26,g27,g61,g28,h62,m0,m1,m2,m3,m4,m6,h6,mN,hN,m7,h7,y1,y2,y3,y4,hn',gn,hwn,x0,x1,gk,gy]
                  exact ⟨(n+1,_),by dsimp only;omega,by dsimp only;omega,by simp only [go_sem,↓reduceIte,nE,nA,nM,nB,oN,iT,nS,nL,nD,iE,iL,reduceCtorEq,j0,j2,j3,j26,j27,h28,m0,m1,m2,m3,m4,hi',ga,hw,g0,g2,g3,g26,g27,g61,g28,h62,m0,m1,m2,m3,m4,m6,h6,mN,hN,m7,h7,y1,y2,y3,y4,hn',gn,hwn,x0,x1,gk,gy],hfo,ol,hlb.trans hqb,by simp only [go_sem,↓reduceIte,nE,nA,nM,nB,oN,iT,nS,nL,nD,iE,iL,reduceCtorEq,j0,j2,j3,j26,j27,h28,m0,m1,m2,m3,m4,hi',ga,hw,g0,g2,g3,g26,g27,g61,g28,h62,m0,m1,m2,m3,m4,m6,h6,mN,hN,m7,h7,y1,y2,y3,y4,hn',gn,hwn,x0,x1,gk,gy],by simp only [go_sem,↓reduceIte,nE,nA,nM,nB,oN,iT,nS,nL,nD,iE,iL,reduceCtorEq,j0,j2,j3,j26,j27,h28,m0,m1,m2,m3,m4,hi',ga,hw,g0,g2,g3,g26,g27,g61,g28,h62,m0,m1,m2,m3,m4,m6,h6,mN,hN,m7,h7,y1,y2,y3,y4,hn',gn,hwn,x0,x1,gk,gy],by simp only [go_sem,↓reduceIte,nE,nA,nM,nB,oN,iT,nS,nL,nD,iE,iL,reduceCtorEq,j0,j2,j3,j26,j27,h28,m0,m1,m2,m3,m4,hi',ga,hw,g0,g2,g3,g26,g27,g61,g28,h62,m0,m1,m2,m3,m4,m6,h6,mN,hN,m7,h7,y1,y2,y3,y4,hn',gn,hwn,x0,x1,gk,gy],by simp only [go_sem,↓reduceIte,nE,nA,nM,nB,oN,iT,nS,nL,nD,iE,iL,reduceCtorEq,j0,j2,j3,j26,j27,h28,m0,m1,m2,m3,m4,hi',ga,hw,g0,g2,g3,g26,g27,g61,g28,h62,m0,m1,m2,m3,m4,m6,h6,mN,hN,m7,h7,y1,y2,y3,y4,hn',gn,hwn,x0,x1,gk,gy],by simp only [go_sem,↓reduceIte,nE,nA,nM,nB,oN,iT,nS,nL,nD,iE,iL,reduceCtorEq,j0,j2,j3,j26,j27,h28,m0,m1,m2,m3,m4,hi',ga,hw,g0,g2,g3,g26,g27,g61,g28,h62,m0,m1,m2,m3,m4,m6,h6,mN,hN,m7,h7,y1,y2,y3,y4,hn',gn,hwn,x0,x1,gk,gy],⟨_,by simp only [go_sem,↓reduceIte,nE,nA,nM,nB,oN,iT,nS,nL,nD,iE,iL,reduceCtorEq,j0,j2,j3,j26,j27,h28,m0,m1,m2,m3,m4,hi',ga,hw,g0,g2,g3,g26,g27,g61,g28,h62,m0,m1,m2,m3,m4,m6,h6,mN,hN,m7,h7,y1,y2,y3,y4,hn',gn,hwn,x0,x1,gk,gy];try rfl,by simp only [go_sem,↓reduceIte,nE,nA,nM,nB,oN,iT,nS,nL,nD,iE,iL,reduceCtorEq,j0,j2,j3,j26,j27,h28,m0,m1,m2,m3,m4,hi',ga,hw,g0,g2,g3,g26,g27,g61,g28,h62,m0,m1,m2,m3,m4,m6,h6,mN,hN,m7,h7,y1,y2,y3,y4,hn',gn,hwn,x0,x1,gk,gy];try rfl⟩,⟨_,by simp only [go_sem,↓reduceIte,nE,nA,nM,nB,oN,iT,nS,nL,nD,iE,iL,reduceCtorEq,j0,j2,j3,j26,j27,h28,m0,m1,m2,m3,m4,hi',ga,hw,g0,g2,g3,g26,g27,g61,g28,h62,m0,m1,m2,m3,m4,m6,h6,mN,hN,m7,h7,y1,y2,y3,y4,hn',gn,hwn,x0,x1,gk,gy];try rfl,by simp only [go_sem,↓reduceIte,nE,nA,nM,nB,oN,iT,nS,nL,nD,iE,iL,reduceCtorEq,j0,j2,j3,j26,j27,h28,m0,m1,m2,m3,m4,hi',ga,hw,g0,g2,g3,g26,g27,g61,g28,h62,m0,m1,m2,m3,m4,m6,h6,mN,hN,m7,h7,y1,y2,y3,y4,hn',gn,hwn,x0,x1,gk,gy];try rfl⟩,⟨_,_,_,_,_,by simp only [go_sem,↓reduceIte,nE,nA,nM,nB,oN,iT,nS,nL,nD,iE,iL,reduceCtorEq,j0,j2,j3,j26,j27,h28,m0,m1,m2,m3,m4,hi',ga,hw,g0,g2,g3,g26,g27,g61,g28,h62,m0,m1,m2,m3,m4,m6,h6,mN,hN,m7,h7,y1,y2,y3,y4,hn',gn,hwn,x0,x1,gk,gy];try rfl,by simp only [go_sem,↓reduceIte,nE,nA,nM,nB,oN,iT,nS,nL,nD,iE,iL,reduceCtorEq,j0,j2,j3,j26,j27,h28,m0,m1,m2,m3,m4,hi',ga,hw,g0,g2,g3,g26,g27,g61,g28,h62,m0,m1,m2,m3,m4,m6,h6,mN,hN,m7,h7,y1,y2,y3,y4,hn',gn,hwn,x0,x1,gk,gy];try rfl,by simp only [go_sem,↓reduceIte,nE,nA,nM,nB,oN,iT,nS,nL,nD,iE,iL,reduceCtorEq,j0,j2,j3,j26,j27,h28,m0,m1,m2,m3,m4,hi',ga,hw,g0,g2,g3,g26,g27,g61,g28,h62,m0,m1,m2,m3,m4,m6,h6,mN,hN,m7,h7,y1,y2,y3,y4,hn',gn,hwn,x0,x1,gk,gy];try rfl,by simp only [go_sem,↓reduceIte,nE,nA,nM,nB,oN,iT,nS,nL,nD,iE,iL,reduceCtorEq,j0,j2,j3,j26,j27,h28,m0,m1,m2,m3,m4,hi',ga,hw,g0,g2,g3,g26,g27,g61,g28,h62,m0,m1,m2,m3,m4,m6,h6,mN,hN,m7,h7,y1,y2,y3,y4,hn',gn,hwn,x0,x1,gk,gy];try rfl,by simp only [go_sem,↓reduceIte,nE,nA,nM,nB,oN,iT,nS,nL,nD,iE,iL,reduceCtorEq,j0,j2,j3,j26,j27,h28,m0,m1,m2,m3,m4,hi',ga,hw,g0,g2,g3,g26,g27,g61,g28,h62,m0,m1,m2,m3,m4,m6,h6,mN,hN,m7,h7,y1,y2,y3,y4,hn',gn,hwn,x0,x1,gk,gy];try rfl,by simp only [go_sem,↓reduceIte,nE,nA,nM,nB,oN,iT,nS,nL,nD,iE,iL,reduceCtorEq,j0,j2,j3,j26,j27,h28,m0,m1,m2,m3,m4,hi',ga,hw,g0,g2,g3,g26,g27,g61,g28,h62,m0,m1,m2,m3,m4,m6,h6,mN,hN,m7,h7,y1,y2,y3,y4,hn',gn,hwn,x0,x1,gk,gy];try rfl⟩⟩
                | false =>
                  have hl:landM q x.toNat h = { q with met:=q.met.set x.toNat true,mays:=q.mays.set x.toNat h }:=by unfold landM;rw [hk];rfl
                  rw [hl] at ol hlb hfo
                  simp only [go_sem,↓reduceIte,nE,nA,nM,nB,oN,iT,nS,nL,nD,iE,iL,reduceCtorEq,b1,b2,b3,b4,U1,U2,U3,U4,Nat.le_refl,hxl,my_set,setBb,j0,j2,j3,j26,j27,h28,m0,m1,m2,m3,m4,hi',ga,hw,g0,g2,g3,g26,g27,g61,g28,h62,m0,m1,m2,m3,m4,m6,h6,mN,hN,m7,h7,y1,y2,y3,y4,hn',gn,hwn,x0,x1,gk,gy]
                  exact ⟨(n+1,_),by dsimp only;omega,by dsimp only;omega,by simp only [go_sem,↓reduceIte,nE,nA,nM,nB,oN,iT,nS,nL,nD,iE,iL,reduceCtorEq,j0,j2,j3,j26,j27,h28,m0,m1,m2,m3,m4,hi',ga,hw,g0,g2,g3,g26,g27,g61,g28,h62,m0,m1,m2,m3,m4,m6,h6,mN,hN,m7,h7,y1,y2,y3,y4,hn',gn,hwn,x0,x1,gk,gy],hfo,ol,hlb.trans hqb,by simp only [go_sem,↓reduceIte,nE,nA,nM,nB,oN,iT,nS,nL,nD,iE,iL,reduceCtorEq,j0,j2,j3,j26,j27,h28,m0,m1,m2,m3,m4,hi',ga,hw,g0,g2,g3,g26,g27,g61,g28,h62,m0,m1,m2,m3,m4,m6,h6,mN,hN,m7,h7,y1,y2,y3,y4,hn',gn,hwn,x0,x1,gk,gy],by simp only [go_sem,↓reduceIte,nE,nA,nM,nB,oN,iT,nS,nL,nD,iE,iL,reduceCtorEq,j0,j2,j3,j26,j27,h28,m0,m1,m2,m3,m4,hi',ga,hw,g0,g2,g3,g26,g27,g61,g28,h62,m0,m1,m2,m3,m4,m6,h6,mN,hN,m7,h7,y1,y2,y3,y4,hn',gn,hwn,x0,x1,gk,gy],by simp only [go_sem,↓reduceIte,nE,nA,nM,nB,oN,iT,nS,nL,nD,iE,iL,reduceCtorEq,j0,j2,j3,j26,j27,h28,m0,m1,m2,m3,m4,hi',ga,hw,g0,g2,g3,g26,g27,g61,g28,h62,m0,m1,m2,m3,m4,m6,h6,mN,hN,m7,h7,y1,y2,y3,y4,hn',gn,hwn,x0,x1,gk,gy],by simp only [go_sem,↓reduceIte,nE,nA,nM,nB,oN,iT,nS,nL,nD,iE,iL,reduceCtorEq,j0,j2,j3,j26,j27,h28,m0,m1,m2,m3,m4,hi',ga,hw,g0,g2,g3,g26,g27,g61,g28,h62,m0,m1,m2,m3,m4,m6,h6,mN,hN,m7,h7,y1,y2,y3,y4,hn',gn,hwn,x0,x1,gk,gy],by simp only [go_sem,↓reduceIte,nE,nA,nM,nB,oN,iT,nS,nL,nD,iE,iL,reduceCtorEq,j0,j2,j3,j26,j27,h28,m0,m1,m2,m3,m4,hi',ga,hw,g0,g2,g3,g26,g27,g61,g28,h62,m0,m1,m2,m3,m4,m6,h6,mN,hN,m7,h7,y1,y2,y3,y4,hn',gn,hwn,x0,x1,gk,gy],⟨_,by simp only [go_sem,↓reduceIte,nE,nA,nM,nB,oN,iT,nS,nL,nD,iE,iL,reduceCtorEq,j0,j2,j3,j26,j27,h28,m0,m1,m2,m3,m4,hi',ga,hw,g0,g2,g3,g26,g27,g61,g28,h62,m0,m1,m2,m3,m4,m6,h6,mN,hN,m7,h7,y1,y2,y3,y4,hn',gn,hwn,x0,x1,gk,gy];try rfl,by simp only [go_sem,↓reduceIte,nE,nA,nM,nB,oN,iT,nS,nL,nD,iE,iL,reduceCtorEq,j0,j2,j3,j26,j27,h28,m0,m1,m2,m3,m4,hi',ga,hw,g0,g2,g3,g26,g27,g61,g28,h62,m0,m1,m2,m3,m4,m6,h6,mN,hN,m7,h7,y1,y2,y3,y4,hn',gn,hwn,x0,x1,gk,gy];try rfl⟩,⟨_,by simp only [go_sem,↓reduceIte,nE,nA,nM,nB,oN,iT,nS,nL,nD,iE,iL,reduceCtorEq,j0,j2,j3,j26,j27,h28,m0,m1,m2,m3,m4,hi',ga,hw,g0,g2,g3,g26,g27,g61,g28,h62,m0,m1,m2,m3,m4,m6,h6,mN,hN,m7,h7,y1,y2,y3,y4,hn',gn,hwn,x0,x1,gk,gy];try rfl,by simp only [go_sem,↓reduceIte,nE,nA,nM,nB,oN,iT,nS,nL,nD,iE,iL,reduceCtorEq,j0,j2,j3,j26,j27,h28,m0,m1,m2,m3,m4,hi',ga,hw,g0,g2,g3,g26,g27,g61,g28,h62,m0,m1,m2,m3,m4,m6,h6,mN,hN,m7,h7,y1,y2,y3,y4,hn',gn,hwn,x0,x1,gk,gy];try rfl⟩,⟨_,_,_,_,_,by simp only [go_sem,↓reduceIte,nE,nA,nM,nB,oN,iT,nS,nL,nD,iE,iL,reduceCtorEq,j0,j2,j3,j26,j27,h28,m0,m1,m2,m3,m4,hi',ga,hw,g0,g2,g3,g26,g27,g61,g28,h62,m0,m1,m2,m3,m4,m6,h6,mN,hN,m7,h7,y1,y2,y3,y4,hn',gn,hwn,x0,x1,gk,gy];try rfl,by simp only [go_sem,↓reduceIte,nE,nA,nM,nB,oN,iT,nS,nL,nD,iE,iL,reduceCtorEq,j0,j2,j3,j26,j27,h28,m0,m1,m2,m3,m4,hi',ga,hw,g0,g2,g3,g26,g27,g61,g28,h62,m0,m1,m2,m3,m4,m6,h6,mN,hN,m7,h7,y1,y2,y3,y4,hn',gn,hwn,x0,x1,gk,gy];try rfl,by simp only [go_sem,↓reduceIte,nE,nA,nM,nB,oN,iT,nS,nL,nD,iE,iL,reduceCtorEq,j0,j2,j3,j26,j27,h28,m0,m1,m2,m3,m4,hi',ga,hw,g0,g2,g3,g26,g27,g61,g28,h62,m0,m1,m2,m3,m4,m6,h6,mN,hN,m7,h7,y1,y2,y3,y4,hn',gn,hwn,x0,x1,gk,gy];try rfl,by simp only [go_sem,↓reduceIte,nE,nA,nM,nB,oN,iT,nS,nL,nD,iE,iL,reduceCtorEq,j0,j2,j3,j26,j27,h28,m0,m1,m2,m3,m4,hi',ga,hw,g0,g2,g3,g26,g27,g61,g28,h62,m0,m1,m2,m3,m4,m6,h6,mN,hN,m7,h7,y1,y2,y3,y4,hn',gn,hwn,x0,x1,gk,gy];try rfl,by simp only [go_sem,↓reduceIte,nE,nA,nM,nB,oN,iT,nS,nL,nD,iE,iL,reduceCtorEq,j0,j2,j3,j26,j27,h28,m0,m1,m2,m3,m4,hi',ga,hw,g0,g2,g3,g26,g27,g61,g28,h62,m0,m1,m2,m3,m4,m6,h6,mN,hN,m7,h7,y1,y2,y3,y4,hn',gn,hwn,x0,x1,gk,gy];try rfl,by simp only [go_sem,↓reduceIte,nE,nA,nM,nB,oN,iT,nS,nL,nD,iE,iL,reduceCtorEq,j0,j2,j3,j26,j27,h28,m0,m1,m2,m3,m4,hi',ga,hw,g0,g2,g3,g26,g27,g61,g28,h62,m0,m1,m2,m3,m4,m6,h6,mN,hN,m7,h7,y1,y2,y3,y4,hn',gn,hwn,x0,x1,gk,gy];try rfl⟩⟩
          | false =>
            have hfs:flowS s a n x q=landM q x.toNat a:=by unfold flowS;rw [hbb];rfl
            rw [hfs] at hfo
            have k9:(s.kind == 9)=false∧(s.kind == 10)=false:=by unfold brB at hbb;rwa [Bool.or_eq_false_iff] at hbb
            simp only [go_sem,↓reduceIte,nE,nA,nM,nB,oN,iT,nS,nL,nD,iE,iL,reduceCtorEq,k9.1,k9.2,a1,a2,a3,a4,T1,T2,T3,T4,Nat.le_refl,j0,j2,j3,j26,j27,h28,m0,m1,m2,m3,m4,hi',ga,hw,g0,g2,g3,g26,g27,g61,g28,h62,m0,m1,m2,m3,m4,m6,h6,mN,hN,m7,h7,y1,y2,y3,y4,hn',gn,hwn,x0,x1,gk,gy]
            have ol:=landM_ok (k:=x.toNat) oq oa
            have hlb:(landM q x.toNat a).bad=q.bad:=landM_bad
            cases hk:metB q x.toNat with
            | true =>
              have cj:=spec_l13Join.fc (getM q x.toNat) a (oq.ok _ hk).len oa.len
              have hl:landM q x.toNat a = { q with mays:=q.mays.set x.toNat (joinM (getM q x.toNat) a) }:=by unfold landM;rw [hk];rfl
              obtain ⟨c1,c2,c3,c4⟩:=joinM_len (oq.ok _ hk).len oa.len
              generalize joinM (getM q x.toNat) a=J at cj hl c1 c2 c3 c4
              rw [hl] at ol hlb hfo
              have V1:=tk_S c1
              have V2:=tk_K c2
              have V3:=tk_S c3
              have V4:=tk_B c4
              simp only [go_sem,↓reduceIte,nE,nA,nM,nB,oN,iT,nS,nL,nD,iE,iL,reduceCtorEq,a1,a2,a3,a4,T1,T2,T3,T4,Nat.le_refl,j0,j2,j3,j26,j27,h28,m0,m1,m2,m3,m4,hi',ga,hw,g0,g2,g3,g26,g27,g61,g28,h62,m0,m1,m2,m3,m4,m6,h6,mN,hN,m7,h7,y1,y2,y3,y4,hn',gn,hwn,x0,x1,gk,gy]
              refine fcW_bd cj noRs_May ?_
              simp only [go_sem,↓reduceIte,nE,nA,nM,nB,oN,iT,nS,nL,nD,iE,iL,reduceCtorEq,c1,c2,c3,c4,V1,V2,V3,V4,Nat.le_refl,hxl,my_set,j0,j2,j3,j26,j27,h28,m0,m1,m2,m3,m4,hi',ga,hw,g0,g2,g3,g26,g27,g61,g28,h62,m0,m1,m2,m3,m4,m6,h6,mN,hN,m7,h7,y1,y2,y3,y4,hn',gn,hwn,x0,x1,gk,gy]
              exact ⟨(n+1,_),by dsimp only;omega,by dsimp only;omega,by simp only [go_sem,↓reduceIte,nE,nA,nM,nB,oN,iT,nS,nL,nD,iE,iL,reduceCtorEq,j0,j2,j3,j26,j27,h28,m0,m1,m2,m3,m4,hi',ga,hw,g0,g2,g3,g26,g27,g61,g28,h62,m0,m1,m2,m3,m4,m6,h6,mN,hN,m7,h7,y1,y2,y3,y4,hn',gn,hwn,x0,x1,gk,gy],hfo,ol,hlb.trans hqb,by simp only [go_sem,↓reduceIte,nE,nA,nM,nB,oN,iT,nS,nL,nD,iE,iL,reduceCtorEq,j0,j2,j3,j26,j27,h28,m0,m1,m2,m3,m4,hi',ga,hw,g0,g2,g3,g26,g27,g61,g28,h62,m0,m1,m2,m3,m4,m6,h6,mN,hN,m7,h7,y1,y2,y3,y4,hn',gn,hwn,x0,x1,gk,gy],by simp only [go_sem,↓reduceIte,nE,nA,nM,nB,oN,iT,nS,nL,nD,iE,iL,reduceCtorEq,j0,j2,j3,j26,j27,h28,m0,m1,m2,m3,m4,hi',ga,hw,g0,g2,g3,g26,g27,g61,g28,h62,m0,m1,m2,m3,m4,m6,h6,mN,hN,m7,h7,y1,y2,y3,y4,hn',gn,hwn,x0,x1,gk,gy],by simp only [go_sem,↓reduceIte,nE,nA,nM,nB,oN,iT,nS,nL,nD,iE,iL,reduceCtorEq,j0,j2,j3,j26,j27,h28,m0,m1,m2,m3,m4,hi',ga,hw,g0,g2,g3,g26,g27,g61,g28,h62,m0,m1,m2,m3,m4,m6,h6,mN,hN,m7,h7,y1,y2,y3,y4,hn',gn,hwn,x0,x1,gk,gy],by simp only [go_sem,↓reduceIte,nE,nA,nM,nB,oN,iT,nS,nL,nD,iE,iL,reduceCtorEq,j0,j2,j3,j26,j27,h28,m0,m1,m2,m3,m4,hi',ga,hw,g0,g2,g3,g26,g27,g61,g28,h62,m0,m1,m2,m3,m4,m6,h6,mN,hN,m7,h7,y1,y2,y3,y4,hn',gn,hwn,x0,x1,gk,gy],by simp only [go_sem,↓reduceIte,nE,nA,nM,nB,oN,iT,nS,nL,nD,iE,iL,reduceCtorEq,j0,j2,j3,j26,j27,h28,m0,m1,m2,m3,m4,hi',ga,hw,g0,g2,g3,g26,g27,g61,g28,h62,m0,m1,m2,m3,m4,m6,h6,mN,hN,m7,h7,y1,y2,y3,y4,hn',gn,hwn,x0,x1,gk,gy],⟨_,by simp only [go_sem,↓reduceIte,nE,nA,nM,nB,oN,iT,nS,nL,nD,iE,iL,reduceCtorEq,j0,j2,j3,j26,j27,h28,m0,m1,m2,m3,m4,hi',ga,hw,g0,g2,g3,g26,g27,g61,g28,h62,m0,m1,m2,m3,m4,m6,h6,mN,hN,m7,h7,y1,y2,y3,y4,hn',gn,hwn,x0,x1,gk,gy];try rfl,by simp only [go_sem,↓reduceIte,nE,nA,nM,nB,oN,iT,nS,nL,nD,iE,iL,reduceCtorEq,j0,j2,j3,j26,j27,h28,m0,m1,m2,m3,m4,hi',ga,hw,g0,g2,g3,g26,g27,g61,g28,h62,m0,m1,m2,m3,m4,m6,h6,mN,hN,m7,h7,y1,y2,y3,y4,hn',gn,hwn,x0,x1,gk,gy];try rfl⟩,⟨_,by simp only [go_sem,↓reduceIte,nE,nA,nM,nB,oN,iT,nS,nL,nD,iE,iL,reduceCtorEq,j0,j2,j3,j26,j27,h28,m0,m1,m2,m3,m4,hi',ga,hw,g0,g2,g3,g26,g27,g61,g28,h62,m0,m1,m2,m3,m4,m6,h6,mN,hN,m7,h7,y1,y2,y3,y4,hn',gn,hwn,x0,x1,gk,gy];try rfl,by simp only [go_sem,↓reduceIte,nE,nA,nM,nB,oN,iT,nS,nL,nD,iE,iL,reduceCtorEq,j0,j2,j3,j26,j27,h28,m0,m1,m2,m3,m4,hi',ga,hw,g0,g2,g3,g26,g27,g61,g28,h62,m0,m1,m2,m3,m4,m6,h6,mN,hN,m7,h7,y1,y2,y3,y4,hn',gn,hwn,x0,x1,gk,gy];try rfl⟩,⟨_,_,_,_,_,by simp only [go_sem,↓reduceIte,nE,nA,nM,nB,oN,iT,nS,nL,nD,iE,iL,reduceCtorEq,j0,j2,j3,j26,j27,h28,m0,m1,m2,m3,m4,hi',ga,hw,g0,g2,g3,g26,g27,g61,g28,h62,m0,m1,m2,m3,m4,m6,h6,mN,hN,m7,h7,y1,y2,y3,y4,hn',gn,hwn,x0,x1,gk,gy];try rfl,by simp only [go_sem,↓reduceIte,nE,nA,nM,nB,oN,iT,nS,nL,nD,iE,iL,reduceCtorEq,j0,j2,j3,j26,j27,h28,m0,m1,m2,m3,m4,hi',ga,hw,g0,g2,g3,g26,g27,g61,g28,h62,m0,m1,m2,m3,m4,m6,h6,mN,hN,m7,h7,y1,y2,y3,y4,hn',gn,hwn,x0,x1,gk,gy];try rfl,by simp only [go_sem,↓reduceIte,nE,nA,nM,nB,oN,iT,nS,nL,nD,iE,iL,reduceCtorEq,j0,j2,j3,j26,j27,h28,m0,m1,m2,m3,m4,hi',ga,hw,g0,g2,g3,g26,g27,g61,g28,h62,m0,m1,m2,m3,m4,m6,h6,mN,hN,m7,h7,y1,y2,y3,y4,hn',gn,hwn,x0,x1,gk,gy];try rfl,by simp only [go_sem,↓reduceIte,nE,nA,nM,nB,oN,iT,nS,nL,nD,iE,iL,reduceCtorEq,j0,j2,j3,j26,j27,h28,m0,m1,m2,m3,m4,hi',ga,hw,g0,g2,g3,g26,g27,g61,g28,h62,m0,m1,m2,m3,m4,m6,h6,mN,hN,m7,h7,y1,y2,y3,y4,hn',gn,hwn,x0,x1,gk,gy];try rfl,by simp only [go_sem,↓reduceIte,nE,nA,nM,nB,oN,iT,nS,nL,nD,iE,iL,reduceCtorEq,j0,j2,j3,j26,j27,h28,m0,m1,m2,m3,m4,hi',ga,hw,g0,g2,g3,g26,g27,g61,g28,h62,m0,m1,m2,m3,m4,m6,h6,mN,hN,m7,h7,y1,y2,y3,y4,hn',gn,hwn,x0,x1,gk,gy];try rfl,by simp only [go_sem,↓reduceIte,nE,nA,nM,nB,oN,iT,nS,nL,nD,iE,iL,reduceCtorEq,j0,j2,j3,j26,j27,h28,m0,m1,m2,m3,m4,hi',ga,hw,g0,g2,g3,g26,g27,g61,g28,h62,m0,m1,m2,m3,m4,m6,h6,mN,hN,m7,h7,y1,y2,y3,y4,hn',gn,hwn,x0,x1,gk,gy];try rfl⟩⟩
            | false =>
              have hl:landM q x.toNat a = { q with met:=q.met.set x.toNat true,mays:=q.mays.set x.toNat a }:=by unfold landM;rw [hk];rfl
              rw [hl] at ol hlb hfo
              simp only [go_sem,↓reduceIte,nE,nA,nM,nB,oN,iT,nS,nL,nD,iE,iL,reduceCtorEq,a1,a2,a3,a4,T1,T2,T3,T4,Nat.le_refl,hxl,my_set,setBb,j0,j2,j3,j26,j27,h28,m0,m1,m2,m3,m4,hi',ga,hw,g0,g2,g3,g26,g27,g61,g28,h62,m0,m1,m2,m3,m4,m6,h6,mN,hN,m7,h7,y1,y2,y3,y4,hn',gn,hwn,x0,x1,gk,gy]
              exact ⟨(n+1,_),by dsimp only;omega,by dsimp only;omega,by simp only [go_sem,↓reduceIte,nE,nA,nM,nB,oN,iT,nS,nL,nD,iE,iL,reduceCtorEq,j0,j2,j3,j26,j27,h28,m0,m1,m2,m3,m4,hi',ga,hw,g0,g2,g3,g26,g27,g61,g28,h62,m0,m1,m2,m3,m4,m6,h6,mN,hN,m7,h7,y1,y2,y3,y4,hn',gn,hwn,x0,x1,gk,gy],hfo,ol,hlb.trans hqb,by simp only [go_sem,↓reduceIte,nE,nA,nM,nB,oN,iT,nS,nL,nD,iE,iL,reduceCtorEq,j0,j2,j3,j26,j27,h28,m0,m1,m2,m3,m4,hi',ga,hw,g0,g2,g3,g26,g27,g61,g28,h62,m0,m1,m2,m3,m4,m6,h6,mN,hN,m7,h7,y1,y2,y3,y4,hn',gn,hwn,x0,x1,gk,gy],by simp only [go_sem,↓reduceIte,nE,nA,nM,nB,oN,iT,nS,nL,nD,iE,iL,reduceCtorEq,j0,j2,j3,j26,j27,h28,m0,m1,m2,m3,m4,hi',ga,hw,g0,g2,g3,g26,g27,g61,g28,h62,m0,m1,m2,m3,m4,m6,h6,mN,hN,m7,h7,y1,y2,y3,y4,hn',gn,hwn,x0,x1,gk,gy],by simp only [go_sem,↓reduceIte,nE,nA,nM,nB,oN,iT,nS,nL,nD,iE,iL,reduceCtorEq,j0,j2,j3,j26,j27,h28,m0,m1,m2,m3,m4,hi',ga,hw,g0,g2,g3,g26,g27,g61,g28,h62,m0,m1,m2,m3,m4,m6,h6,mN,hN,m7,h7,y1,y2,y3,y4,hn',gn,hwn,x0,x1,gk,gy],by simp only [go_sem,↓reduceIte,nE,nA,nM,nB,oN,iT,nS,nL,nD,iE,iL,reduceCtorEq,j0,j2,j3,j26,j27,h28,m0,m1,m2,m3,m4,hi',ga,hw,g0,g2,g3,g26,g27,g61,g28,h62,m0,m1,m2,m3,m4,m6,h6,mN,hN,m7,h7,y1,y2,y3,y4,hn',gn,hwn,x0,x1,gk,gy],by simp only [go_sem,↓reduceIte,nE,nA,nM,nB,oN,iT,nS,nL,nD,iE,iL,reduceCtorEq,j0,j2,j3,j26,j27,h28,m0,m1,m2,m3,m4,hi',ga,hw,g0,g2,g3,g26,g27,g61,g28,h62,m0,m1,m2,m3,m4,m6,h6,mN,hN,m7,h7,y1,y2,y3,y4,hn',gn,hwn,x0,x1,gk,gy],⟨_,by simp only [go_sem,↓reduceIte,nE,nA,nM,nB,oN,iT,nS,nL,nD,iE,iL,reduceCtorEq,j0,j2,j3,j26,j27,h28,m0,m1,m2,m3,m4,hi',ga,hw,g0,g2,g3,g26,g27,g61,g28,h62,m0,m1,m2,m3,m4,m6,h6,mN,hN,m7,h7,y1,y2,y3,y4,hn',gn,hwn,x0,x1,gk,gy];try rfl,by simp only [go_sem,↓reduceIte,nE,nA,nM,nB,oN,iT,nS,nL,nD,iE,iL,reduceCtorEq,j0,j2,j3,j26,j27,h28,m0,m1,m2,m3,m4,hi',ga,hw,g0,g2,g3,g26,g27,g61,g28,h62,m0,m1,m2,m3,m4,m6,h6,mN,hN,m7,h7,y1,y2,y3,y4,hn',gn,hwn,x0,x1,gk,gy];try rfl⟩,⟨_,by simp only [go_sem,↓reduceIte,nE,nA,nM,nB,oN,iT,nS,nL,nD,iE,iL,reduceCtorEq,j0,j2,j3,j26,j27,h28,m0,m1,m2,m3,m4,hi',ga,hw,g0,g2,g3,g26,g27,g61,g28,h62,m0,m1,m2,m3,m4,m6,h6,mN,hN,m7,h7,y1,y2,y3,y4,hn',gn,hwn,x0,x1,gk,gy];try rfl,by simp only [go_sem,↓reduceIte,nE,nA,nM,nB,oN,iT,nS,nL,nD,iE,iL,reduceCtorEq,j0,j2,j3,j26,j27,h28,m0,m1,m2,m3,m4,hi',ga,hw,g0,g2,g3,g26,g27,g61,g28,h62,m0,m1,m2,m3,m4,m6,h6,mN,hN,m7,h7,y1,y2,y3,y4,hn',gn,hwn,x0,x1,gk,gy];try rfl⟩,⟨_,_,_,_,_,by simp only [go_sem,↓reduceIte,nE,nA,nM,nB,oN,iT,nS,nL,nD,iE,iL,reduceCtorEq,j0,j2,j3,j26,j27,h28,m0,m1,m2,m3,m4,hi',ga,hw,g0,g2,g3,g26,g27,g61,g28,h62,m0,m1,m2,m3,m4,m6,h6,mN,hN,m7,h7,y1,y2,y3,y4,hn',gn,hwn,x0,x1,gk,gy];try rfl,by simp only [go_sem,↓reduceIte,nE,nA,nM,nB,oN,iT,nS,nL,nD,iE,iL,reduceCtorEq,j0,j2,j3,j26,j27,h28,m0,m1,m2,m3,m4,hi',ga,hw,g0,g2,g3,g26,g27,g61,g28,h62,m0,m1,m2,m3,m4,m6,h6,mN,hN,m7,h7,y1,y2,y3,y4,hn',gn,hwn,x0,x1,gk,gy];try rfl,by simp only [go_sem,↓reduceIte,nE,nA,nM,nB,oN,iT,nS,nL,nD,iE,iL,reduceCtorEq,j0,j2,j3,j26,j27,h28,m0,m1,m2,m3,m4,hi',ga,hw,g0,g2,g3,g26,g27,g61,g28,h62,m0,m1,m2,m3,m4,m6,h6,mN,hN,m7,h7,y1,y2,y3,y4,hn',gn,hwn,x0,x1,gk,gy];try rfl,by simp only [go_sem,↓reduceIte,nE,nA,nM,nB,oN,iT,nS,nL,nD,iE,iL,reduceCtorEq,j0,j2,j3,j26,j27,h28,m0,m1,m2,m3,m4,hi',ga,hw,g0,g2,g3,g26,g27,g61,g28,h62,m0,m1,m2,m3,m4,m6,h6,mN,hN,m7,h7,y1,y2,y3,y4,hn',gn,hwn,x0,x1,gk,gy];try rfl,by simp only [go_sem,↓reduceIte,nE,nA,nM,nB,oN,iT,nS,nL,nD,iE,iL,reduceCtorEq,j0,j2,j3,j26,j27,h28,m0,m1,m2,m3,m4,hi',ga,hw,g0,g2,g3,g26,g27,g61,g28,h62,m0,m1,m2,m3,m4,m6,h6,mN,hN,m7,h7,y1,y2,y3,y4,hn',gn,hwn,x0,x1,gk,gy];try rfl,by simp only [go_sem,↓reduceIte,nE,nA,nM,nB,oN,iT,nS,nL,nD,iE,iL,reduceCtorEq,j0,j2,j3,j26,j27,h28,m0,m1,m2,m3,m4,hi',ga,hw,g0,g2,g3,g26,g27,g61,g28,h62,m0,m1,m2,m3,m4,m6,h6,mN,hN,m7,h7,y1,y2,y3,y4,hn',gn,hwn,x0,x1,gk,gy];try rfl⟩⟩
        · have hi':¬ (n:Int) < N.length:=by omega
          obtain rfl:n=N.length:=by omega
          rw [List.drop_length] at hfo
          have hfo:q=R:=hfo
          simp only [go_sem,↓reduceIte,nE,nA,nM,nB,oN,iT,nS,nL,nD,iE,iL,reduceCtorEq,Int.lt_irrefl,hw,j0,j2,j3,j26,j27,h28,m0,m1,m2,m3,m4,hi',ga,hw,g0,g2,g3,g26,g27,g61,g28,h62,m0,m1,m2,m3,m4,m6,h6,mN,hN,m7,h7,y1,y2,y3,y4]
          subst hfo
          exact ⟨i+1,by dsimp only;omega,by omega,by simp only [go_sem,↓reduceIte,nE,nA,nM,nB,oN,iT,nS,nL,nD,iE,iL,reduceCtorEq,j0,j2,j3,j26,j27,h28,m0,m1,m2,m3,m4,hi',ga,hw,g0,g2,g3,g26,g27,g61,g28,h62,m0,m1,m2,m3,m4,m6,h6,mN,hN,m7,h7,y1,y2,y3,y4],by simp only [go_sem,↓reduceIte,nE,nA,nM,nB,oN,iT,nS,nL,nD,iE,iL,reduceCtorEq,j0,j2,j3,j26,j27,h28,m0,m1,m2,m3,m4,hi',ga,hw,g0,g2,g3,g26,g27,g61,g28,h62,m0,m1,m2,m3,m4,m6,h6,mN,hN,m7,h7,y1,y2,y3,y4],by simp only [go_sem,↓reduceIte,nE,nA,nM,nB,oN,iT,nS,nL,nD,iE,iL,reduceCtorEq,hst,j0,j2,j3,j26,j27,h28,m0,m1,m2,m3,m4,hi',ga,hw,g0,g2,g3,g26,g27,g61,g28,h62,m0,m1,m2,m3,m4,m6,h6,mN,hN,m7,h7,y1,y2,y3,y4],by simp only [go_sem,↓reduceIte,nE,nA,nM,nB,oN,iT,nS,nL,nD,iE,iL,reduceCtorEq,hst,j0,j2,j3,j26,j27,h28,m0,m1,m2,m3,m4,hi',ga,hw,g0,g2,g3,g26,g27,g61,g28,h62,m0,m1,m2,m3,m4,m6,h6,mN,hN,m7,h7,y1,y2,y3,y4],_,_,by simp only [go_sem,↓reduceIte,nE,nA,nM,nB,oN,iT,nS,nL,nD,iE,iL,reduceCtorEq,j0,j2,j3,j26,j27,h28,m0,m1,m2,m3,m4,hi',ga,hw,g0,g2,g3,g26,g27,g61,g28,h62,m0,m1,m2,m3,m4,m6,h6,mN,hN,m7,h7,y1,y2,y3,y4];try rfl,rfl,by simp only [go_sem,↓reduceIte,nE,nA,nM,nB,oN,iT,nS,nL,nD,iE,iL,reduceCtorEq,j0,j2,j3,j26,j27,h28,m0,m1,m2,m3,m4,hi',ga,hw,g0,g2,g3,g26,g27,g61,g28,h62,m0,m1,m2,m3,m4,m6,h6,mN,hN,m7,h7,y1,y2,y3,y4];rw [hst,hqb];exact hbx⟩
  · have hi':¬ (i:Int) < p.length:=by omega
    obtain rfl:i=p.length:=by omega
    have tb:∀ (b:List Bool),b.length=p.length→(b.map Bb).take p.length=b.map Bb:=fun b h=>List.take_of_length_le (by simp [h])
    have ty:∀ (b:List MayD),b.length=p.length→(b.map MayD.d).take p.length=b.map MayD.d:=fun b h=>List.take_of_length_le (by simp [h])
    have k1:=ok.lm
    have k2:=ok.ly
    generalize anaN p p.length=r at m1 m2 hbx hbl k1 k2 ⊢
    have t1:=tb _ k1
    have t2:=ty _ k2
    rcases hbx with ⟨b1,b2⟩|⟨v,b1,b2⟩
    · subst b2
      simp only [go_sem,↓reduceIte,nE,nA,nM,nB,oN,iT,nS,nL,nD,iE,iL,reduceCtorEq,Int.lt_irrefl,k1,k2,t1,t2,Nat.le_refl,j0,j2,j3,j26,j27,h28,m0,m1,m2,m3,m4]
      obtain ⟨rm,ry,rb⟩:=r
      dsimp only at b1
      subst b1
      rfl
    · subst b1
      rw [b2] at m4
      have tk:(r.bad.map Ii).take r.bad.length=r.bad.map Ii:=List.take_of_length_le (by simp)
      simp only [go_sem,↓reduceIte,nE,nA,nM,nB,oN,iT,nS,nL,nD,iE,iL,reduceCtorEq,Int.lt_irrefl,k1,k2,t1,t2,m4,tk,Nat.le_refl,j0,j2,j3,j26,j27,h28,m0,m1,m2,m3,m4]
theorem noRs_rep2 {r:RepD} {b:Bool}:noRs (.tup [r.d,Bb b])=true:=noRs_t2 noRs_Report rfl
end Go.Vm.YtmbhjcgikblpiaaGreat
namespace Go.Vm.YtmbhjcgikblpiaaGreat
open Go Go.Vm
set_option maxRecDepth 10000
set_option maxHeartbeats 16000000
set_option linter.unusedSimpArgs false
set_option linter.unusedVariables false
structure VerD where
  kind:Int
  code:Int
  wit:List Int
  fault:Int
  pc:Int
  size:Int
  deriving DecidableEq
abbrev VerD.d (x:VerD):D:=.agg [Ii x.kind,Ii x.code,ints x.wit,Ii x.fault,Ii x.pc,Ii x.size]
abbrev TyVerdict:Ty:=.st [(.int .i64),(.int .i64),(.sl (.int .i64)),(.int .i64),(.int .i64),(.int .i64)]
theorem noRs_Verdict {x:VerD}:noRs (VerD.d x)=true:=noRs_agg fun d hd=>by
  rcases List.mem_cons.1 hd with rfl|hd
  · exact rfl
  rcases List.mem_cons.1 hd with rfl|hd
  · exact rfl
  rcases List.mem_cons.1 hd with rfl|hd
  · exact noRs_ints
  rcases List.mem_cons.1 hd with rfl|hd
  · exact rfl
  rcases List.mem_cons.1 hd with rfl|hd
  · exact rfl
  rcases List.mem_cons.1 hd with rfl|hd
  · exact rfl
  cases hd
def wVerdict (x:VerD):Nat:=x.wit.length
def wfVerdict (x:VerD):Prop:=x.wit.length≤9223372036854775807
theorem hasVerdict {d:D} (h:HasTy TyVerdict d):∃ x:VerD,d=VerD.d x∧wfVerdict x:=by
  simp only [HasTy] at h
  obtain ⟨ys,rfl,h⟩:=h
  simp only [HasTys] at h
  obtain ⟨d0,s0,rfl,h0,d1,s1,rfl,h1,d2,s2,rfl,h2,d3,s3,rfl,h3,d4,s4,rfl,h4,d5,s5,rfl,h5,rfl⟩:=h
  obtain ⟨x0,rfl,_⟩:=hasInt h0
  obtain ⟨x1,rfl,_⟩:=hasInt h1
  obtain ⟨x2,rfl,w2⟩:=hasIntS h2
  obtain ⟨x3,rfl,_⟩:=hasInt h3
  obtain ⟨x4,rfl,_⟩:=hasInt h4
  obtain ⟨x5,rfl,_⟩:=hasInt h5
  exact ⟨⟨x0,x1,x2,x3,x4,x5⟩,rfl,w2⟩
end Go.Vm.YtmbhjcgikblpiaaGreat
namespace Go.Vm.YtmbhjcgikblpiaaGreat
open Go Go.Vm
set_option maxRecDepth 10000
set_option maxHeartbeats 16000000
set_option linter.unusedSimpArgs false
set_option linter.unusedVariables false
theorem laws_eqVerdict.fcu (x:VerD) (h:wVerdict x≤1048576) :
    FCt prog F_laws_eqVerdict [.ro,.ro] [VerD.d x,VerD.d x] (Bb true) []:=by
  refine fct_run laws_eqVerdict.ok rfl ?_
  unfold wVerdict at h
  simp only [go_sem,↓reduceIte,nE,nA,nM,nB,oN,iT,nS,nL,nD,iE,iL,reduceCtorEq]
  refine fcW_bool (laws_eqIntS.fcu x.wit (by omega)) ?_
  simp only [go_sem,↓reduceIte,nE,nA,nM,nB,oN,iT,nS,nL,nD,iE,iL,reduceCtorEq]
theorem laws_toVerdict.fcu (x:VerD) (h:wVerdict x≤1048576) :
    FCt prog F_laws_toVerdict [.ro] [VerD.d x] (VerD.d x) []:=by
  refine fct_run laws_toVerdict.ok rfl ?_
  have h:=h
  unfold wVerdict at h
  simp only [go_sem,↓reduceIte,nE,nA,nM,nB,oN,iT,nS,nL,nD,iE,iL,reduceCtorEq]
  refine fcW_bd (laws_toIntS.fcu x.wit (by omega)) noRs_ints ?_
  simp only [go_sem,↓reduceIte,nE,nA,nM,nB,oN,iT,nS,nL,nD,iE,iL,reduceCtorEq,take_map_len]
theorem laws_szVerdict.fcu (x:VerD) (n:Int) (hn:0≤n∧n≤1048576) (hw:wfVerdict x) :
    FCt prog F_laws_szVerdict [.ro,.ro] [VerD.d x,Ii n] (Ii (if n < (wVerdict x:Nat) then -1 else n - (wVerdict x:Nat))) []:=by
  refine fct_run laws_szVerdict.ok rfl ?_
  unfold wVerdict
  have hw0:=hw
  unfold wfVerdict at hw0
  simp only [go_sem,↓reduceIte,nE,nA,nM,nB,oN,iT,nS,nL,nD,iE,iL,reduceCtorEq]
  refine fcW_int (laws_szIntS.fcu x.wit _ (by omega) hw0) ?_
  by_cases g0:n < (x.wit.length:Nat)
  · have e:n < ((x.wit.length:Nat):Int):=by omega
    simp only [go_sem,↓reduceIte,nE,nA,nM,nB,oN,iT,nS,nL,nD,iE,iL,reduceCtorEq,if_pos g0,if_pos e]
  have e0:¬ (n - (x.wit.length:Nat) < 0):=by omega
  rw [if_neg g0]
  have e:¬ n < ((x.wit.length:Nat):Int):=by omega
  have eF:n - ((x.wit.length:Nat):Int)=n - (x.wit.length:Nat):=by omega
  first|rw [if_neg e,eF]|skip
  simp only [go_sem,↓reduceIte,nE,nA,nM,nB,oN,iT,nS,nL,nD,iE,iL,reduceCtorEq,e0]
end Go.Vm.YtmbhjcgikblpiaaGreat
namespace Go.Vm.YtmbhjcgikblpiaaGreat
open Go Go.Vm
set_option maxRecDepth 10000
set_option maxHeartbeats 4000000
set_option linter.unusedSimpArgs false
set_option linter.unusedVariables false
theorem strL_len (l:List UInt8):(strL l).size=l.length:=by simp [strL,ByteArray.size]
theorem loop_eq (b:ByteArray):∀ (n i:Nat) (r:List UInt8),b.size - i=n→ByteArray.toList.loop b i r=r.reverse++b.data.toList.drop i:=by
  intro n
  induction n with
  | zero =>
    intro i r h
    unfold ByteArray.toList.loop
    rw [if_neg (by omega)]
    have : b.data.toList.length ≤ i := by have : b.data.toList.length = b.size := Array.length_toList
                                          omega
    rw [List.drop_eq_nil_of_le this];simp
  | succ n ih =>
    intro i r h
    unfold ByteArray.toList.loop
    rw [if_pos (by omega),ih (i+1) _ (by omega)]
    have hl : i < b.data.toList.length := by have : b.data.toList.length = b.size := Array.length_toList
                                             omega
    rw [List.drop_eq_getElem_cons hl]
    have hb:b.get! i=b.data.toList[i]:=by
      show b.data[i]! = _
      have h2:i < b.data.size:=by simpa using hl
      rw [getElem!_pos b.data i h2]
      simp
    rw [hb]
    simp
theorem strL_list (l:List UInt8):(strL l).toList=l:=by
  unfold ByteArray.toList
  rw [loop_eq _ _ 0 [] rfl]
  simp [strL]
theorem str_eq (a b:List UInt8):((strL a).toList == (strL b).toList)=decide (a=b):=by
  rw [strL_list,strL_list]
  by_cases h:a=b
  · subst h;simp
  · simp [h]
theorem strL_ext (l:List UInt8) (a b:Nat):(strL l).extract a b=strL ((l.take b).drop a):=by
  apply ByteArray.ext
  apply Array.ext'
  simp [strL,ByteArray.data_extract,List.drop_take]
theorem strL_eta (s:ByteArray):strL s.data.toList=s:=by cases s;simp [strL]
theorem strL_at (l:List UInt8) (i:Nat) (h:i < (strL l).size):(strL l)[i]'h=l.getD i 0:=by
  have h2:i < l.length:=by rwa [strL_len] at h
  rw [List.getD_eq_getElem?_getD,List.getElem?_eq_getElem h2]
  exact strL_get h h2
abbrev strU (l:List UInt8):D:=.str (strL l)
theorem hasStr {d:D} (h:HasTy .str d):∃ l:List UInt8,d=strU l∧True:=by
  simp only [HasTy] at h
  obtain ⟨s,rfl,_⟩:=h
  exact ⟨s.data.toList,by rw [strU,strL_eta],trivial⟩
abbrev Ub (n:Int):D:=.int .u8 n
theorem bytesOf_ub:∀ (l:List Int),bytesOf (l.map Ub)=some (l.map fun n=>UInt8.ofNat n.toNat)
  | []=>rfl
  | n::l=>by
    rw [List.map_cons,bytesOf,bytesOf_ub l];rfl
def w8 (n:Int):Int:=IntKind.u8.wrap n
def encI (x:StepD):List Int:=[w8 (x.kind+16 * x.op),w8 (16 * x.dst+x.src),w8 x.to,w8 (x.imm % 256)]++(if x.kind == 4 then [0,0,0,w8 (x.imm / 256)] else [])
def encU (x:StepD):List UInt8:=(encI x).map fun n=>UInt8.ofNat n.toNat
def bt (l:List UInt8) (i:Nat):Int:=((l.getD i 0).toNat:Int)
theorem bt_in (l:List UInt8) (i:Nat):0≤bt l i∧bt l i≤255:=by
  unfold bt
  have:=(l.getD i 0).toNat_lt
  omega
def wideU (l:List UInt8):Bool:=bt l 0 % 16 == 4
def longU (l:List UInt8):Nat:=if wideU l then 8 else 4
def stepU (l:List UInt8):StepD:=⟨bt l 0 % 16,bt l 0 / 16,bt l 1 / 16,bt l 1 % 16,if wideU l then bt l 3+256 * bt l 7 else bt l 3,bt l 2⟩
def okU (l:List UInt8):Bool:=stepB (stepU l)&&decide (encU (stepU l)=l.take (longU l))
def readN:Nat→List UInt8→List StepD→List StepD×Int
  | 0,_,acc=>(acc,0)
  | n+1,l,acc=>if l.length=0 then (acc,0) else if l.length < longU l then ([],1) else if okU l then readN n (l.drop (longU l)) (acc++[stepU l]) else ([],2)
theorem readN_succ (n:Nat) (l:List UInt8) (acc:List StepD):readN (n+1) l acc=if l.length=0 then (acc,0) else if l.length < longU l then ([],1) else if okU l then readN n (l.drop (longU l)) (acc++[stepU l]) else ([],2):=rfl
theorem readN_end (n:Nat) (acc:List StepD):readN n [] acc=(acc,0):=by cases n<;>simp [readN]
def readE (r:List StepD×Int):List StepD×Int×Bool:=if r.2 == 0 then (if goodP r.1 then (r.1,0,true) else ([],3,false)) else ([],r.2,false)
def readV (l:List UInt8):List StepD×Int×Bool:=if l.length > 160 then ([],0,false) else readE (readN l.length l [])
def readD (r:List StepD×Int×Bool):D:=.tup [steps r.1,Ii r.2.1,Bb r.2.2]
theorem longU_in (l:List UInt8):4≤longU l∧longU l≤8:=by unfold longU;split<;>omega
theorem readV_good {l:List UInt8} (h:(readV l).2.2=true):goodP (readV l).1=true:=by
  unfold readV at h ⊢
  split
  · rename_i hc;rw [if_pos hc] at h;cases h
  · rename_i hc
    rw [if_neg hc] at h
    unfold readE at h ⊢
    split
    · rename_i h0
      rw [if_pos h0] at h
      split
      · assumption
      · rename_i h1;rw [if_neg h1] at h;cases h
    · rename_i h0;rw [if_neg h0] at h;cases h
theorem readV_len (l:List UInt8):(readV l).1.length≤20:=by
  by_cases h:(readV l).2.2=true
  · exact (prog_ok (readV_good h)).len.2
  · have:(readV l).1=[]:=by
      unfold readV at h ⊢
      split
      · rfl
      · rename_i hc
        rw [if_neg hc] at h
        unfold readE at h ⊢
        split
        · rename_i h0
          rw [if_pos h0] at h
          split
          · rename_i h1;rw [if_pos h1] at h;exact absurd rfl h
          · rfl
        · rfl
    rw [this];simp
end Go.Vm.YtmbhjcgikblpiaaGreat
namespace Go.Vm.YtmbhjcgikblpiaaGreat
open Go Go.Vm
set_option maxRecDepth 10000
set_option maxHeartbeats 16000000
set_option linter.unusedSimpArgs false
set_option linter.unusedVariables false
theorem noRs_ub {l:List Int}:noRs (.sl 1 (l.map Ub))=true:=noRs_sl (by
  intro d hd
  obtain ⟨x,_,rfl⟩:=List.mem_map.1 hd
  rfl)
theorem impl_Step_bytes.fc (x:StepD) (hv:stepB x=true):FCt prog F_impl_Step_bytes [.ro] [x.d] (.sl 1 ((encI x).map Ub)) []:=by
  refine fct_run impl_Step_bytes.ok rfl ?_
  have ok:=step_ok hv
  obtain ⟨k,op,dst,src,imm,to⟩:=x
  obtain ⟨ki,od,os,oi,oo,ot,_,_⟩:=ok
  dsimp only at *
  have w1:IntKind.i64.wrap (16 * op)=16 * op:=wrap_in (by omega) (by omega)
  have w2:IntKind.i64.wrap (k+16 * op)=k+16 * op:=wrap_in (by omega) (by omega)
  have w3:IntKind.i64.wrap (16 * dst)=16 * dst:=wrap_in (by omega) (by omega)
  have w4:IntKind.i64.wrap (16 * dst+src)=16 * dst+src:=wrap_in (by omega) (by omega)
  have w5:Int.tmod imm 256=imm % 256:=Int.tmod_eq_emod_of_nonneg oi.1
  have w6:IntKind.i64.wrap (Int.tdiv imm 256)=imm / 256:=by rw [Int.tdiv_eq_ediv_of_nonneg oi.1];exact wrap_in (by omega) (by omega)
  unfold encI w8
  dsimp only
  cases hk:(k == 4)<;>repeat' (first|with_reducible rfl|with_reducible refine cdW_dec (fun _=>?_) (fun _=>?_)|refine cdW_not (fun _=>?_) (fun _=>?_)|refine cdW_any (fun _=>?_) (fun _=>?_)|with_reducible refine gdW_decT (fun _=>?_) (fun _=>?_)|with_reducible refine gdW_decF (fun _=>?_) (fun _=>?_)|refine gdW_not (fun _=>?_) (fun _=>?_)|refine gdW_any (fun _=>?_) (fun _=>?_)|simp only [go_sem,↓reduceIte,nE,nA,nM,nB,oN,iT,nS,nL,nD,iE,iL,reduceCtorEq,bne,Int.reduceEq,Int.reduceBEq,Int.reduceBNe,Int.reduceLE,Int.reduceNeg,Int.reduceAdd,Int.reduceSub,Int.reduceMul, *]|rfl)
theorem spec_l2Bytes.fc (x:StepD) (hv:stepB x=true):FCt prog F_spec_l2Bytes [.ro] [x.d] (.str (strL (encU x))) []:=by
  refine fct_run spec_l2Bytes.ok rfl ?_
  have ok:=step_ok hv
  obtain ⟨k,op,dst,src,imm,to⟩:=x
  obtain ⟨ki,od,os,oi,oo,ot,_,_⟩:=ok
  dsimp only at *
  have w1:IntKind.i64.wrap (16 * op)=16 * op:=wrap_in (by omega) (by omega)
  have w2:IntKind.i64.wrap (k+16 * op)=k+16 * op:=wrap_in (by omega) (by omega)
  have w3:IntKind.i64.wrap (16 * dst)=16 * dst:=wrap_in (by omega) (by omega)
  have w4:IntKind.i64.wrap (16 * dst+src)=16 * dst+src:=wrap_in (by omega) (by omega)
  have w5:Int.tmod imm 256=imm % 256:=Int.tmod_eq_emod_of_nonneg oi.1
  have w6:IntKind.i64.wrap (Int.tdiv imm 256)=imm / 256:=by rw [Int.tdiv_eq_ediv_of_nonneg oi.1];exact wrap_in (by omega) (by omega)
  unfold encU encI w8
  dsimp only
  cases hk:(k == 4)<;>repeat' (first|with_reducible rfl|with_reducible refine cdW_dec (fun _=>?_) (fun _=>?_)|refine cdW_not (fun _=>?_) (fun _=>?_)|refine cdW_any (fun _=>?_) (fun _=>?_)|with_reducible refine gdW_decT (fun _=>?_) (fun _=>?_)|with_reducible refine gdW_decF (fun _=>?_) (fun _=>?_)|refine gdW_not (fun _=>?_) (fun _=>?_)|refine gdW_any (fun _=>?_) (fun _=>?_)|simp only [go_sem,↓reduceIte,nE,nA,nM,nB,oN,iT,nS,nL,nD,iE,iL,reduceCtorEq,bne,Int.reduceEq,Int.reduceBEq,Int.reduceBNe,Int.reduceLE,Int.reduceNeg,Int.reduceAdd,Int.reduceSub,Int.reduceMul, *]|rfl)
end Go.Vm.YtmbhjcgikblpiaaGreat
namespace Go.Vm.YtmbhjcgikblpiaaGreat
open Go Go.Vm
set_option maxRecDepth 10000
set_option maxHeartbeats 16000000
set_option linter.unusedSimpArgs false
set_option linter.unusedVariables false
theorem bt16 (l:List UInt8) (i:Nat):Int.tmod (bt l i) 16=bt l i % 16:=Int.tmod_eq_emod_of_nonneg (bt_in l i).1
theorem bt16q (l:List UInt8) (i:Nat):IntKind.u8.wrap (Int.tdiv (bt l i) 16)=bt l i / 16:=by
  have:=bt_in l i
  rw [Int.tdiv_eq_ediv_of_nonneg this.1]
  simp [IntKind.wrap,IntKind.signed,IntKind.bits]
  omega
theorem bt_w (l:List UInt8) (i:Nat):IntKind.i64.wrap (bt l i)=bt l i:=by have:=bt_in l i;exact wrap_in (by omega) (by omega)
theorem bt_w1 (l:List UInt8) (i:Nat):IntKind.i64.wrap (bt l i % 16)=bt l i % 16:=by have:=bt_in l i;exact wrap_in (by omega) (by omega)
theorem bt_w2 (l:List UInt8) (i:Nat):IntKind.i64.wrap (bt l i / 16)=bt l i / 16:=by have:=bt_in l i;exact wrap_in (by omega) (by omega)
theorem bt_w3 (l:List UInt8) (i:Nat):IntKind.i64.wrap (256 * bt l i)=256 * bt l i:=by have:=bt_in l i;exact wrap_in (by omega) (by omega)
theorem bt_w4 (l:List UInt8) (i j:Nat):IntKind.i64.wrap (bt l i+256 * bt l j)=bt l i+256 * bt l j:=by have:=bt_in l i;have:=bt_in l j;exact wrap_in (by omega) (by omega)
theorem strL_bt (l:List UInt8) (i:Nat) (h:i < (strL l).size):(((strL l)[i]'h).toNat:Int)=bt l i:=by rw [strL_at];rfl
theorem ub_sc (l:List Int):(l.map Ub).all isSc=true:=by rw [List.all_eq_true];intro d hd;obtain ⟨x,_,rfl⟩:=List.mem_map.1 hd;rfl
theorem impl_ReadProgram.fc (l0:List UInt8) (hl0:l0.length≤4194304):FCt prog F_impl_ReadProgram [.ro] [.str (strL l0)] (readD (readV l0)) []:=by
  refine fct_run impl_ReadProgram.ok rfl ?_
  unfold readD readV
  have sz0:=strL_len l0
  by_cases h160:l0.length > 160
  · have h:(l0.length:Int) > 160:=by omega
    simp only [go_sem,↓reduceIte,nE,nA,nM,nB,oN,iT,nS,nL,nD,iE,iL,reduceCtorEq,sz0,h]
    rw [if_pos h160]
    try rfl
  · have h:¬ (l0.length:Int) > 160:=by omega
    rw [if_neg h160]
    generalize hR:readN l0.length l0 []=R
    simp only [go_sem,↓reduceIte,nE,nA,nM,nB,oN,iT,nS,nL,nD,iE,iL,reduceCtorEq,sz0,h]
    refine R_loop (α:=Nat×List UInt8×List StepD) (fun a s' M'=>a.2.1.length≤a.1∧a.1≤160∧a.2.2.length+a.1≤160∧readN a.1 a.2.1 a.2.2=R∧s' 0=.dat none (.str (strL a.2.1))∧∃ v,s' 5=.sl 5120 v 0 a.2.2.length 6∧M'.m 5120=some (.arr v true 6 (a.2.2.map StepD.d)))
      (fun a=>a.1) (l0.length,l0,[]) ⟨Nat.le_refl _,by dsimp only;omega,by simp only [List.length_nil];omega,hR,by simp only [go_sem,↓reduceIte,nE,nA,nM,nB,oN,iT,nS,nL,nD,iE,iL,reduceCtorEq],_,by simp only [go_sem,↓reduceIte,nE,nA,nM,nB,oN,iT,nS,nL,nD,iE,iL,reduceCtorEq];try rfl,by simp only [go_sem,↓reduceIte,nE,nA,nM,nB,oN,iT,nS,nL,nD,iE,iL,reduceCtorEq];try rfl⟩ ?_
    rintro ⟨n,l,p⟩ s' M' ⟨hn,hn2,hp,hr,h0,v,h5,hm⟩ ho
    dsimp only at hn hn2 hp hr h0 h5 hm
    unfold impl_ReadProgram.b0
    clear ho
    have e0:((strL l).toList == (ByteArray.mk #[]).toList)=decide (l=[]):=str_eq l []
    have sz:=strL_len l
    by_cases hnil:l=[]
    · subst hnil
      rw [readN_end] at hr
      subst hr
      rw [decide_eq_true rfl] at e0
      simp only [go_sem,↓reduceIte,nE,nA,nM,nB,oN,iT,nS,nL,nD,iE,iL,reduceCtorEq,e0,h0,h5,hm]
      have cg:=impl_GoodProgram.fc p (by omega)
      simp only [go_sem,↓reduceIte,nE,nA,nM,nB,oN,iT,nS,nL,nD,iE,iL,reduceCtorEq,take_map_len,h0,h5,hm]
      refine fcW_bool cg ?_
      unfold readE
      cases hg:goodP p with
      | true=>simp only [go_sem,↓reduceIte,nE,nA,nM,nB,oN,iT,nS,nL,nD,iE,iL,reduceCtorEq,take_map_len,h0,h5,hm];try rfl
      | false=>simp only [go_sem,↓reduceIte,nE,nA,nM,nB,oN,iT,nS,nL,nD,iE,iL,reduceCtorEq,h0,h5,hm];try rfl
    · rw [decide_eq_false hnil] at e0
      have hpos:0 < l.length:=by cases l with|nil=>exact absurd rfl hnil|cons a b=>simp
      obtain ⟨m,rfl⟩:∃ m,n=m+1:=⟨n - 1,by omega⟩
      rw [readN_succ,if_neg (by omega)] at hr
      have c0:(0:Int) < l.length:=by omega
      have at_:∀ i h,(((strL l)[i]'h).toNat:Int)=bt l i:=strL_bt l
      have b16:=bt16 l
      have b16q:=bt16q l
      have bw:=bt_w l
      have bw1:=bt_w1 l
      have bw2:=bt_w2 l
      have bw3:=bt_w3 l
      have bw4:=bt_w4 l
      have hwd:(bt l 0 % 16 == 4)=wideU l:=rfl
      have hlu:=longU_in l
      have cv:=impl_Step_valid.fc (stepU l)
      rw [valid_step] at cv
      have hbb:(p.length+1) * 48≤70368744177664:=by omega
      have sn:p.map StepD.d++[(stepU l).d]=(p++[stepU l]).map StepD.d:=by simp
      have tk:(p.map StepD.d).take p.length=p.map StepD.d:=List.take_of_length_le (by simp)
      have el:(p++[stepU l]).length=p.length+1:=by simp
      have hsd:(stepU l).d=(stepU l).d:=rfl
      cases hwi:wideU l with
      | false =>
        have hlo:longU l=4:=by unfold longU;rw [hwi];rfl
        rw [hlo] at hr
        by_cases h4:l.length < 4
        · have h4':(l.length:Int) < 4:=by omega
          rw [if_pos h4] at hr
          subst hr
          unfold readE
          simp only [go_sem,↓reduceIte,nE,nA,nM,nB,oN,iT,nS,nL,nD,iE,iL,reduceCtorEq,hwi,h4',h0,h5,hm,↓reduceDIte,Int.reduceEq,Int.reduceBEq,e0,sz,c0,at_,b16,b16q,bw,bw1,bw2,bw3,bw4,hwd];try rfl
        · have h4':¬ (l.length:Int) < 4:=by omega
          rw [if_neg h4] at hr
          have c1:(1:Int) < l.length:=by omega
          have c2:(2:Int) < l.length:=by omega
          have c3:(3:Int) < l.length:=by omega
          have hd:(stepU l).d=.agg [.int .i64 (bt l 0 % 16),.int .i64 (bt l 0 / 16),.int .i64 (bt l 1 / 16),.int .i64 (bt l 1 % 16),.int .i64 (bt l 3),.int .i64 (bt l 2)]:=by unfold stepU;rw [hwi];rfl
          simp only [go_sem,↓reduceIte,nE,nA,nM,nB,oN,iT,nS,nL,nD,iE,iL,reduceCtorEq,hwi,h4',c1,c2,c3,h0,h5,hm,↓reduceDIte,Int.reduceEq,Int.reduceBEq,e0,sz,c0,at_,b16,b16q,bw,bw1,bw2,bw3,bw4,hwd]
          rw [← hd]
          refine fcW_bool cv ?_
          cases hst:stepB (stepU l) with
          | false =>
            have hok:okU l=false:=by unfold okU;rw [hst];rfl
            rw [hok] at hr
            simp only [Bool.false_eq_true,if_false] at hr
            subst hr
            unfold readE
            simp only [go_sem,↓reduceIte,nE,nA,nM,nB,oN,iT,nS,nL,nD,iE,iL,reduceCtorEq,h0,h5,hm,↓reduceDIte,Int.reduceEq,Int.reduceBEq,e0,sz,c0,at_,b16,b16q,bw,bw1,bw2,bw3,bw4,hwd];try rfl
          | true =>
            have cb:=impl_Step_bytes.fc (stepU l) hst
            simp only [go_sem,↓reduceIte,nE,nA,nM,nB,oN,iT,nS,nL,nD,iE,iL,reduceCtorEq,h0,h5,hm,↓reduceDIte,Int.reduceEq,Int.reduceBEq,e0,sz,c0,at_,b16,b16q,bw,bw1,bw2,bw3,bw4,hwd]
            rw [← hd]
            refine fcW_bd cb noRs_ub ?_
            have ecmp:((ByteArray.mk (((encI (stepU l)).map fun n=>UInt8.ofNat n.toNat).toArray)).toList == ((strL l).extract 0 4).toList)=decide (encU (stepU l)=l.take 4):=by
              rw [strL_ext,List.drop_zero]
              exact str_eq (encU (stepU l)) (l.take 4)
            have hok:okU l=decide (encU (stepU l)=l.take 4):=by unfold okU;rw [hst,hlo];rfl
            have tkb:((encI (stepU l)).map Ub).take (encI (stepU l)).length=(encI (stepU l)).map Ub:=List.take_of_length_le (by simp)
            have ubs:=ub_sc (encI (stepU l))
            have bo:=bytesOf_ub (encI (stepU l))
            have ln:(4:Int)≤l.length∧(4:Int)≤l.length:=by omega
            cases hq:decide (encU (stepU l)=l.take 4) with
            | false =>
              rw [hq] at ecmp hok
              rw [hok] at hr
              simp only [Bool.false_eq_true,if_false] at hr
              subst hr
              unfold readE
              simp only [go_sem,↓reduceIte,nE,nA,nM,nB,oN,iT,nS,nL,nD,iE,iL,reduceCtorEq,List.length_map,tkb,ubs,bo,ln.1,ln.2,ecmp,h0,h5,hm,↓reduceDIte,Int.reduceEq,Int.reduceBEq,e0,sz,c0,at_,b16,b16q,bw,bw1,bw2,bw3,bw4,hwd];try rfl
            | true =>
              rw [hq] at ecmp hok
              rw [hok] at hr
              simp only [if_true] at hr
              have ex:(strL l).extract 4 l.length=strL (l.drop 4):=by rw [strL_ext,List.take_length]
              simp only [go_sem,↓reduceIte,nE,nA,nM,nB,oN,iT,nS,nL,nD,iE,iL,reduceCtorEq,List.length_map,tkb,ubs,bo,ln.1,ln.2,ecmp,hbb,tk,ex,Int.le_refl,h0,h5,hm,↓reduceDIte,Int.reduceEq,Int.reduceBEq,e0,sz,c0,at_,b16,b16q,bw,bw1,bw2,bw3,bw4,hwd]
              exact ⟨(m,l.drop 4,p++[stepU l]),by dsimp only;omega,by simp only [List.length_drop];omega,by dsimp only;omega,by simp only [List.length_append,List.length_singleton];omega,hr,by simp only [go_sem,↓reduceIte,nE,nA,nM,nB,oN,iT,nS,nL,nD,iE,iL,reduceCtorEq,h0,h5,hm,↓reduceDIte,Int.reduceEq,Int.reduceBEq,e0,sz,c0,at_,b16,b16q,bw,bw1,bw2,bw3,bw4,hwd],_,by simp only [go_sem,↓reduceIte,nE,nA,nM,nB,oN,iT,nS,nL,nD,iE,iL,reduceCtorEq,el,h0,h5,hm,↓reduceDIte,Int.reduceEq,Int.reduceBEq,e0,sz,c0,at_,b16,b16q,bw,bw1,bw2,bw3,bw4,hwd];try rfl,by simp only [go_sem,↓reduceIte,nE,nA,nM,nB,oN,iT,nS,nL,nD,iE,iL,reduceCtorEq,h0,h5,hm,↓reduceDIte,Int.reduceEq,Int.reduceBEq,e0,sz,c0,at_,b16,b16q,bw,bw1,bw2,bw3,bw4,hwd];rw [← hd,sn]⟩
      | true =>
        have hlo:longU l=8:=by unfold longU;rw [hwi];rfl
        rw [hlo] at hr
        by_cases h4:l.length < 8
        · have h4':(l.length:Int) < 8:=by omega
          rw [if_pos h4] at hr
          subst hr
          unfold readE
          simp only [go_sem,↓reduceIte,nE,nA,nM,nB,oN,iT,nS,nL,nD,iE,iL,reduceCtorEq,hwi,h4',h0,h5,hm,↓reduceDIte,Int.reduceEq,Int.reduceBEq,e0,sz,c0,at_,b16,b16q,bw,bw1,bw2,bw3,bw4,hwd];try rfl
        · have h4':¬ (l.length:Int) < 8:=by omega
          rw [if_neg h4] at hr
          have c1:(1:Int) < l.length:=by omega
          have c2:(2:Int) < l.length:=by omega
          have c3:(3:Int) < l.length:=by omega
          have c7:(7:Int) < l.length:=by omega
          have hd:(stepU l).d=.agg [.int .i64 (bt l 0 % 16),.int .i64 (bt l 0 / 16),.int .i64 (bt l 1 / 16),.int .i64 (bt l 1 % 16),.int .i64 (bt l 3+256 * bt l 7),.int .i64 (bt l 2)]:=by unfold stepU;rw [hwi];rfl
          simp only [go_sem,↓reduceIte,nE,nA,nM,nB,oN,iT,nS,nL,nD,iE,iL,reduceCtorEq,hwi,h4',c1,c2,c3,c7,h0,h5,hm,↓reduceDIte,Int.reduceEq,Int.reduceBEq,e0,sz,c0,at_,b16,b16q,bw,bw1,bw2,bw3,bw4,hwd]
          rw [← hd]
          refine fcW_bool cv ?_
          cases hst:stepB (stepU l) with
          | false =>
            have hok:okU l=false:=by unfold okU;rw [hst];rfl
            rw [hok] at hr
            simp only [Bool.false_eq_true,if_false] at hr
            subst hr
            unfold readE
            simp only [go_sem,↓reduceIte,nE,nA,nM,nB,oN,iT,nS,nL,nD,iE,iL,reduceCtorEq,h0,h5,hm,↓reduceDIte,Int.reduceEq,Int.reduceBEq,e0,sz,c0,at_,b16,b16q,bw,bw1,bw2,bw3,bw4,hwd];try rfl
          | true =>
            have cb:=impl_Step_bytes.fc (stepU l) hst
            simp only [go_sem,↓reduceIte,nE,nA,nM,nB,oN,iT,nS,nL,nD,iE,iL,reduceCtorEq,h0,h5,hm,↓reduceDIte,Int.reduceEq,Int.reduceBEq,e0,sz,c0,at_,b16,b16q,bw,bw1,bw2,bw3,bw4,hwd]
            rw [← hd]
            refine fcW_bd cb noRs_ub ?_
            have ecmp:((ByteArray.mk (((encI (stepU l)).map fun n=>UInt8.ofNat n.toNat).toArray)).toList == ((strL l).extract 0 8).toList)=decide (encU (stepU l)=l.take 8):=by
              rw [strL_ext,List.drop_zero]
              exact str_eq (encU (stepU l)) (l.take 8)
            have hok:okU l=decide (encU (stepU l)=l.take 8):=by unfold okU;rw [hst,hlo];rfl
            have tkb:((encI (stepU l)).map Ub).take (encI (stepU l)).length=(encI (stepU l)).map Ub:=List.take_of_length_le (by simp)
            have ubs:=ub_sc (encI (stepU l))
            have bo:=bytesOf_ub (encI (stepU l))
            have ln:(4:Int)≤l.length∧(8:Int)≤l.length:=by omega
            cases hq:decide (encU (stepU l)=l.take 8) with
            | false =>
              rw [hq] at ecmp hok
              rw [hok] at hr
              simp only [Bool.false_eq_true,if_false] at hr
              subst hr
              unfold readE
              simp only [go_sem,↓reduceIte,nE,nA,nM,nB,oN,iT,nS,nL,nD,iE,iL,reduceCtorEq,List.length_map,tkb,ubs,bo,ln.1,ln.2,ecmp,h0,h5,hm,↓reduceDIte,Int.reduceEq,Int.reduceBEq,e0,sz,c0,at_,b16,b16q,bw,bw1,bw2,bw3,bw4,hwd];try rfl
            | true =>
              rw [hq] at ecmp hok
              rw [hok] at hr
              simp only [if_true] at hr
              have ex:(strL l).extract 8 l.length=strL (l.drop 8):=by rw [strL_ext,List.take_length]
              simp only [go_sem,↓reduceIte,nE,nA,nM,nB,oN,iT,nS,nL,nD,iE,iL,reduceCtorEq,List.length_map,tkb,ubs,bo,ln.1,ln.2,ecmp,hbb,tk,ex,Int.le_refl,h0,h5,hm,↓reduceDIte,Int.reduceEq,Int.reduceBEq,e0,sz,c0,at_,b16,b16q,bw,bw1,bw2,bw3,bw4,hwd]
              exact ⟨(m,l.drop 8,p++[stepU l]),by dsimp only;omega,by simp only [List.length_drop];omega,by dsimp only;omega,by simp only [List.length_append,List.length_singleton];omega,hr,by simp only [go_sem,↓reduceIte,nE,nA,nM,nB,oN,iT,nS,nL,nD,iE,iL,reduceCtorEq,h0,h5,hm,↓reduceDIte,Int.reduceEq,Int.reduceBEq,e0,sz,c0,at_,b16,b16q,bw,bw1,bw2,bw3,bw4,hwd],_,by simp only [go_sem,↓reduceIte,nE,nA,nM,nB,oN,iT,nS,nL,nD,iE,iL,reduceCtorEq,el,h0,h5,hm,↓reduceDIte,Int.reduceEq,Int.reduceBEq,e0,sz,c0,at_,b16,b16q,bw,bw1,bw2,bw3,bw4,hwd];try rfl,by simp only [go_sem,↓reduceIte,nE,nA,nM,nB,oN,iT,nS,nL,nD,iE,iL,reduceCtorEq,h0,h5,hm,↓reduceDIte,Int.reduceEq,Int.reduceBEq,e0,sz,c0,at_,b16,b16q,bw,bw1,bw2,bw3,bw4,hwd];rw [← hd,sn]⟩
end Go.Vm.YtmbhjcgikblpiaaGreat
namespace Go.Vm.YtmbhjcgikblpiaaGreat
open Go Go.Vm
set_option maxRecDepth 10000
set_option maxHeartbeats 16000000
set_option linter.unusedSimpArgs false
set_option linter.unusedVariables false
theorem bt_drop (l:List UInt8) (k i:Nat):bt l (k+i)=bt (l.drop k) i:=by
  unfold bt
  rw [List.getD_eq_getElem?_getD,List.getD_eq_getElem?_getD,List.getElem?_drop]
theorem spec_ReadProgram.fc (l0:List UInt8) (hl0:l0.length≤4194304):FCt prog F_spec_ReadProgram [.ro] [.str (strL l0)] (readD (readV l0)) []:=by
  refine fct_run spec_ReadProgram.ok rfl ?_
  unfold readD readV
  have sz0:=strL_len l0
  by_cases h160:l0.length > 160
  · have h:(l0.length:Int) > 160:=by omega
    simp only [go_sem,↓reduceIte,nE,nA,nM,nB,oN,iT,nS,nL,nD,iE,iL,reduceCtorEq,sz0,h]
    rw [if_pos h160]
    try rfl
  · have h:¬ (l0.length:Int) > 160:=by omega
    rw [if_neg h160]
    generalize hR:readN l0.length l0 []=R
    simp only [go_sem,↓reduceIte,nE,nA,nM,nB,oN,iT,nS,nL,nD,iE,iL,reduceCtorEq,sz0,h]
    refine R_loop (α:=Nat×Nat×List StepD) (fun a s' M'=>a.2.1≤l0.length∧l0.length - a.2.1≤a.1∧a.1≤160∧a.2.2.length+a.1≤160∧readN a.1 (l0.drop a.2.1) a.2.2=R∧s' 0=.dat none (.str (strL l0))∧s' 6=aI a.2.1∧∃ v,s' 5=.sl 6592 v 0 a.2.2.length 6∧M'.m 6592=some (.arr v true 6 (a.2.2.map StepD.d)))
      (fun a=>a.1) (l0.length,0,[]) ⟨Nat.zero_le _,Nat.le_refl _,by dsimp only;omega,by simp only [List.length_nil];omega,hR,by simp only [go_sem,↓reduceIte,nE,nA,nM,nB,oN,iT,nS,nL,nD,iE,iL,reduceCtorEq],by simp only [go_sem,↓reduceIte,nE,nA,nM,nB,oN,iT,nS,nL,nD,iE,iL,reduceCtorEq];try rfl,_,by simp only [go_sem,↓reduceIte,nE,nA,nM,nB,oN,iT,nS,nL,nD,iE,iL,reduceCtorEq];try rfl,by simp only [go_sem,↓reduceIte,nE,nA,nM,nB,oN,iT,nS,nL,nD,iE,iL,reduceCtorEq];try rfl⟩ ?_
    rintro ⟨n,k,p⟩ s' M' ⟨hk,hn,hn2,hp,hr,h0,h6,v,h5,hm⟩ ho
    dsimp only at hk hn hn2 hp hr h0 h6 h5 hm
    unfold spec_ReadProgram.b0
    clear ho
    have ll:(l0.drop k).length=l0.length - k:=List.length_drop
    by_cases hnil:k=l0.length
    · subst hnil
      rw [List.drop_length,readN_end] at hr
      subst hr
      simp only [go_sem,↓reduceIte,nE,nA,nM,nB,oN,iT,nS,nL,nD,iE,iL,reduceCtorEq,Int.lt_irrefl,h0,h6,h5,hm,sz0]
      have cg:=spec_GoodProgram.fc p (by omega)
      simp only [go_sem,↓reduceIte,nE,nA,nM,nB,oN,iT,nS,nL,nD,iE,iL,reduceCtorEq,take_map_len,h0,h6,h5,hm,sz0]
      refine fcW_bool cg ?_
      unfold readE
      cases hg:goodP p with
      | true=>simp only [go_sem,↓reduceIte,nE,nA,nM,nB,oN,iT,nS,nL,nD,iE,iL,reduceCtorEq,take_map_len,h0,h6,h5,hm,sz0];try rfl
      | false=>simp only [go_sem,↓reduceIte,nE,nA,nM,nB,oN,iT,nS,nL,nD,iE,iL,reduceCtorEq,h0,h6,h5,hm,sz0];try rfl
    · have ck:(k:Int) < l0.length:=by omega
      obtain ⟨m,rfl⟩:∃ m,n=m+1:=⟨n - 1,by omega⟩
      generalize hl:l0.drop k=l at hr ll
      have hl:=hl.symm
      have hpos:0 < l.length:=by omega
      rw [readN_succ,if_neg (by omega)] at hr
      have wsub:IntKind.i64.wrap ((l0.length:Int) - k)=(l.length:Int):=by rw [wrap_in (by omega) (by omega)];omega
      have at0:∀ h,(((strL l0)[k]'h).toNat:Int)=bt l 0:=fun h=>by rw [strL_bt,hl];exact bt_drop l0 k 0
      have at_:∀ i h,(((strL l0)[k+i]'h).toNat:Int)=bt l i:=fun i h=>by rw [strL_bt,hl];exact bt_drop l0 k i
      have b16:=bt16 l
      have bw:=bt_w l
      have bw1:=bt_w1 l
      have bw2:=bt_w2 l
      have bw3:=bt_w3 l
      have bw4:=bt_w4 l
      have b16q:∀ i,IntKind.i64.wrap (Int.tdiv (bt l i) 16)=bt l i / 16:=fun i=>by rw [Int.tdiv_eq_ediv_of_nonneg (bt_in l i).1];exact bw2 i
      have hwd:(bt l 0 % 16 == 4)=wideU l:=rfl
      have hlu:=longU_in l
      have cv:=spec_l2Step.fc (stepU l)
      have hbb:(p.length+1) * 48≤70368744177664:=by omega
      have sn:p.map StepD.d++[(stepU l).d]=(p++[stepU l]).map StepD.d:=by simp
      have tk:(p.map StepD.d).take p.length=p.map StepD.d:=List.take_of_length_le (by simp)
      have el:(p++[stepU l]).length=p.length+1:=by simp
      by_cases h4:l.length < 4
      · have h4':(l.length:Int) < 4:=by omega
        rw [if_pos (by omega)] at hr
        subst hr
        unfold readE
        simp only [go_sem,↓reduceIte,nE,nA,nM,nB,oN,iT,nS,nL,nD,iE,iL,reduceCtorEq,h4',h0,h6,h5,hm,sz0,↓reduceDIte,Int.reduceEq,Int.reduceBEq,ck,wsub,at0,at_,b16,b16q,bw,bw1,bw2,bw3,bw4,hwd];try rfl
      · have h4':¬ (l.length:Int) < 4:=by omega
        have c1:((k+1:Nat):Int) < l0.length:=by omega
        have c2:((k+2:Nat):Int) < l0.length:=by omega
        have c3:((k+3:Nat):Int) < l0.length:=by omega
        have w1:IntKind.i64.wrap ((k:Int)+1)=((k+1:Nat):Int):=by rw [wrap_in (by omega) (by omega)];omega
        have w2:IntKind.i64.wrap ((k:Int)+2)=((k+2:Nat):Int):=by rw [wrap_in (by omega) (by omega)];omega
        have w3:IntKind.i64.wrap ((k:Int)+3)=((k+3:Nat):Int):=by rw [wrap_in (by omega) (by omega)];omega
        cases hwi:wideU l with
        | false =>
          have hlo:longU l=4:=by unfold longU;rw [hwi];rfl
          rw [hlo,if_neg h4] at hr
          have hd:(stepU l).d=.agg [.int .i64 (bt l 0 % 16),.int .i64 (bt l 0 / 16),.int .i64 (bt l 1 / 16),.int .i64 (bt l 1 % 16),.int .i64 (bt l 3),.int .i64 (bt l 2)]:=by unfold stepU;rw [hwi];rfl
          simp only [go_sem,↓reduceIte,nE,nA,nM,nB,oN,iT,nS,nL,nD,iE,iL,reduceCtorEq,hwi,h0,h6,h5,hm,sz0,↓reduceDIte,Int.reduceEq,Int.reduceBEq,ck,wsub,at0,at_,b16,b16q,bw,bw1,bw2,bw3,bw4,hwd,h4',c1,c2,c3,w1,w2,w3]
          rw [← hd]
          refine fcW_bool cv ?_
          cases hst:stepB (stepU l) with
          | false =>
            have hok:okU l=false:=by unfold okU;rw [hst];rfl
            rw [hok] at hr
            simp only [Bool.false_eq_true,if_false] at hr
            subst hr
            unfold readE
            simp only [go_sem,↓reduceIte,nE,nA,nM,nB,oN,iT,nS,nL,nD,iE,iL,reduceCtorEq,h0,h6,h5,hm,sz0,↓reduceDIte,Int.reduceEq,Int.reduceBEq,ck,wsub,at0,at_,b16,b16q,bw,bw1,bw2,bw3,bw4,hwd,h4',c1,c2,c3,w1,w2,w3];try rfl
          | true =>
            have cb:=spec_l2Bytes.fc (stepU l) hst
            simp only [go_sem,↓reduceIte,nE,nA,nM,nB,oN,iT,nS,nL,nD,iE,iL,reduceCtorEq,h0,h6,h5,hm,sz0,↓reduceDIte,Int.reduceEq,Int.reduceBEq,ck,wsub,at0,at_,b16,b16q,bw,bw1,bw2,bw3,bw4,hwd,h4',c1,c2,c3,w1,w2,w3]
            rw [← hd]
            refine fcW_str cb ?_
            have exk:(strL l0).extract k (k+4)=strL (l.take 4):=by rw [strL_ext,hl,List.drop_take];simp
            have ecmp:((strL (encU (stepU l))).toList == ((strL l0).extract k (k+4)).toList)=decide (encU (stepU l)=l.take 4):=by
              rw [exk]
              exact str_eq (encU (stepU l)) (l.take 4)
            have hok:okU l=decide (encU (stepU l)=l.take 4):=by unfold okU;rw [hst,hlo];rfl
            have wk:IntKind.i64.wrap ((k:Int)+4)=((k+4:Nat):Int):=by rw [wrap_in (by omega) (by omega)];omega
            have b1:(k:Int)≤((k+4:Nat):Int):=by omega
            have b2:((k+4:Nat):Int)≤l0.length:=by omega
            cases hq:decide (encU (stepU l)=l.take 4) with
            | false =>
              rw [hq] at ecmp hok
              rw [hok] at hr
              simp only [Bool.false_eq_true,if_false] at hr
              subst hr
              unfold readE
              simp only [go_sem,↓reduceIte,nE,nA,nM,nB,oN,iT,nS,nL,nD,iE,iL,reduceCtorEq,wk,b1,b2,ecmp,h0,h6,h5,hm,sz0,↓reduceDIte,Int.reduceEq,Int.reduceBEq,ck,wsub,at0,at_,b16,b16q,bw,bw1,bw2,bw3,bw4,hwd,h4',c1,c2,c3,w1,w2,w3];try rfl
            | true =>
              rw [hq] at ecmp hok
              rw [hok] at hr
              simp only [if_true] at hr
              simp only [go_sem,↓reduceIte,nE,nA,nM,nB,oN,iT,nS,nL,nD,iE,iL,reduceCtorEq,wk,b1,b2,ecmp,hbb,tk,h0,h6,h5,hm,sz0,↓reduceDIte,Int.reduceEq,Int.reduceBEq,ck,wsub,at0,at_,b16,b16q,bw,bw1,bw2,bw3,bw4,hwd,h4',c1,c2,c3,w1,w2,w3]
              exact ⟨(m,k+4,p++[stepU l]),by dsimp only;omega,by dsimp only;omega,by dsimp only;omega,by dsimp only;omega,by simp only [List.length_append,List.length_singleton];omega,by rw [← hr,hl,List.drop_drop],by simp only [go_sem,↓reduceIte,nE,nA,nM,nB,oN,iT,nS,nL,nD,iE,iL,reduceCtorEq,h0,h6,h5,hm,sz0,↓reduceDIte,Int.reduceEq,Int.reduceBEq,ck,wsub,at0,at_,b16,b16q,bw,bw1,bw2,bw3,bw4,hwd,h4',c1,c2,c3,w1,w2,w3],by simp only [go_sem,↓reduceIte,nE,nA,nM,nB,oN,iT,nS,nL,nD,iE,iL,reduceCtorEq,wk,h0,h6,h5,hm,sz0,↓reduceDIte,Int.reduceEq,Int.reduceBEq,ck,wsub,at0,at_,b16,b16q,bw,bw1,bw2,bw3,bw4,hwd,h4',c1,c2,c3,w1,w2,w3];try rfl,_,by simp only [go_sem,↓reduceIte,nE,nA,nM,nB,oN,iT,nS,nL,nD,iE,iL,reduceCtorEq,el,h0,h6,h5,hm,sz0,↓reduceDIte,Int.reduceEq,Int.reduceBEq,ck,wsub,at0,at_,b16,b16q,bw,bw1,bw2,bw3,bw4,hwd,h4',c1,c2,c3,w1,w2,w3];try rfl,by simp only [go_sem,↓reduceIte,nE,nA,nM,nB,oN,iT,nS,nL,nD,iE,iL,reduceCtorEq,h0,h6,h5,hm,sz0,↓reduceDIte,Int.reduceEq,Int.reduceBEq,ck,wsub,at0,at_,b16,b16q,bw,bw1,bw2,bw3,bw4,hwd,h4',c1,c2,c3,w1,w2,w3];rw [← hd,sn]⟩
        | true =>
          have hlo:longU l=8:=by unfold longU;rw [hwi];rfl
          rw [hlo] at hr
          by_cases h8:l.length < 8
          · have h8':(l.length:Int) < 8:=by omega
            rw [if_pos h8] at hr
            subst hr
            unfold readE
            simp only [go_sem,↓reduceIte,nE,nA,nM,nB,oN,iT,nS,nL,nD,iE,iL,reduceCtorEq,hwi,h8',h0,h6,h5,hm,sz0,↓reduceDIte,Int.reduceEq,Int.reduceBEq,ck,wsub,at0,at_,b16,b16q,bw,bw1,bw2,bw3,bw4,hwd,h4',c1,c2,c3,w1,w2,w3];try rfl
          · have h8':¬ (l.length:Int) < 8:=by omega
            rw [if_neg h8] at hr
            have c7:((k+7:Nat):Int) < l0.length:=by omega
            have w7:IntKind.i64.wrap ((k:Int)+7)=((k+7:Nat):Int):=by rw [wrap_in (by omega) (by omega)];omega
            have hd:(stepU l).d=.agg [.int .i64 (bt l 0 % 16),.int .i64 (bt l 0 / 16),.int .i64 (bt l 1 / 16),.int .i64 (bt l 1 % 16),.int .i64 (bt l 3+256 * bt l 7),.int .i64 (bt l 2)]:=by unfold stepU;rw [hwi];rfl
            simp only [go_sem,↓reduceIte,nE,nA,nM,nB,oN,iT,nS,nL,nD,iE,iL,reduceCtorEq,hwi,h8',c7,w7,h0,h6,h5,hm,sz0,↓reduceDIte,Int.reduceEq,Int.reduceBEq,ck,wsub,at0,at_,b16,b16q,bw,bw1,bw2,bw3,bw4,hwd,h4',c1,c2,c3,w1,w2,w3]
            rw [← hd]
            refine fcW_bool cv ?_
            cases hst:stepB (stepU l) with
            | false =>
              have hok:okU l=false:=by unfold okU;rw [hst];rfl
              rw [hok] at hr
              simp only [Bool.false_eq_true,if_false] at hr
              subst hr
              unfold readE
              simp only [go_sem,↓reduceIte,nE,nA,nM,nB,oN,iT,nS,nL,nD,iE,iL,reduceCtorEq,h0,h6,h5,hm,sz0,↓reduceDIte,Int.reduceEq,Int.reduceBEq,ck,wsub,at0,at_,b16,b16q,bw,bw1,bw2,bw3,bw4,hwd,h4',c1,c2,c3,w1,w2,w3];try rfl
            | true =>
              have cb:=spec_l2Bytes.fc (stepU l) hst
              simp only [go_sem,↓reduceIte,nE,nA,nM,nB,oN,iT,nS,nL,nD,iE,iL,reduceCtorEq,h0,h6,h5,hm,sz0,↓reduceDIte,Int.reduceEq,Int.reduceBEq,ck,wsub,at0,at_,b16,b16q,bw,bw1,bw2,bw3,bw4,hwd,h4',c1,c2,c3,w1,w2,w3]
              rw [← hd]
              refine fcW_str cb ?_
              have exk:(strL l0).extract k (k+8)=strL (l.take 8):=by rw [strL_ext,hl,List.drop_take];simp
              have ecmp:((strL (encU (stepU l))).toList == ((strL l0).extract k (k+8)).toList)=decide (encU (stepU l)=l.take 8):=by
                rw [exk]
                exact str_eq (encU (stepU l)) (l.take 8)
              have hok:okU l=decide (encU (stepU l)=l.take 8):=by unfold okU;rw [hst,hlo];rfl
              have wk:IntKind.i64.wrap ((k:Int)+8)=((k+8:Nat):Int):=by rw [wrap_in (by omega) (by omega)];omega
              have b1:(k:Int)≤((k+8:Nat):Int):=by omega
              have b2:((k+8:Nat):Int)≤l0.length:=by omega
              cases hq:decide (encU (stepU l)=l.take 8) with
              | false =>
                rw [hq] at ecmp hok
                rw [hok] at hr
                simp only [Bool.false_eq_true,if_false] at hr
                subst hr
                unfold readE
                simp only [go_sem,↓reduceIte,nE,nA,nM,nB,oN,iT,nS,nL,nD,iE,iL,reduceCtorEq,wk,b1,b2,ecmp,h0,h6,h5,hm,sz0,↓reduceDIte,Int.reduceEq,Int.reduceBEq,ck,wsub,at0,at_,b16,b16q,bw,bw1,bw2,bw3,bw4,hwd,h4',c1,c2,c3,w1,w2,w3];try rfl
              | true =>
                rw [hq] at ecmp hok
                rw [hok] at hr
                simp only [if_true] at hr
                simp only [go_sem,↓reduceIte,nE,nA,nM,nB,oN,iT,nS,nL,nD,iE,iL,reduceCtorEq,wk,b1,b2,ecmp,hbb,tk,h0,h6,h5,hm,sz0,↓reduceDIte,Int.reduceEq,Int.reduceBEq,ck,wsub,at0,at_,b16,b16q,bw,bw1,bw2,bw3,bw4,hwd,h4',c1,c2,c3,w1,w2,w3]
                exact ⟨(m,k+8,p++[stepU l]),by dsimp only;omega,by dsimp only;omega,by dsimp only;omega,by dsimp only;omega,by simp only [List.length_append,List.length_singleton];omega,by rw [← hr,hl,List.drop_drop],by simp only [go_sem,↓reduceIte,nE,nA,nM,nB,oN,iT,nS,nL,nD,iE,iL,reduceCtorEq,h0,h6,h5,hm,sz0,↓reduceDIte,Int.reduceEq,Int.reduceBEq,ck,wsub,at0,at_,b16,b16q,bw,bw1,bw2,bw3,bw4,hwd,h4',c1,c2,c3,w1,w2,w3],by simp only [go_sem,↓reduceIte,nE,nA,nM,nB,oN,iT,nS,nL,nD,iE,iL,reduceCtorEq,wk,h0,h6,h5,hm,sz0,↓reduceDIte,Int.reduceEq,Int.reduceBEq,ck,wsub,at0,at_,b16,b16q,bw,bw1,bw2,bw3,bw4,hwd,h4',c1,c2,c3,w1,w2,w3];try rfl,_,by simp only [go_sem,↓reduceIte,nE,nA,nM,nB,oN,iT,nS,nL,nD,iE,iL,reduceCtorEq,el,h0,h6,h5,hm,sz0,↓reduceDIte,Int.reduceEq,Int.reduceBEq,ck,wsub,at0,at_,b16,b16q,bw,bw1,bw2,bw3,bw4,hwd,h4',c1,c2,c3,w1,w2,w3];try rfl,by simp only [go_sem,↓reduceIte,nE,nA,nM,nB,oN,iT,nS,nL,nD,iE,iL,reduceCtorEq,h0,h6,h5,hm,sz0,↓reduceDIte,Int.reduceEq,Int.reduceBEq,ck,wsub,at0,at_,b16,b16q,bw,bw1,bw2,bw3,bw4,hwd,h4',c1,c2,c3,w1,w2,w3];rw [← hd,sn]⟩
end Go.Vm.YtmbhjcgikblpiaaGreat
namespace Go.Vm.YtmbhjcgikblpiaaGreat
open Go Go.Vm
set_option maxRecDepth 10000
set_option maxHeartbeats 16000000
set_option linter.unusedSimpArgs false
set_option linter.unusedVariables false
theorem noRs_read {r:List StepD×Int×Bool}:noRs (readD r)=true:=noRs_t3 noRs_steps rfl rfl
def runPV (p:List StepD) (ctx:List Int) (fuel:Nat):Int×Int×Int×Bool :=
  if goodP p&&ctxB ctx then ((runP p ctx fuel).1,(runP p ctx fuel).2.1,(runP p ctx fuel).2.2.1,true) else (0,0,0,false)
def runPD (r:Int×Int×Int×Bool):D:=.tup [Ii r.1,Ii r.2.1,Ii r.2.2.1,Bb r.2.2.2]
theorem impl_RunProgram.fc (p:List StepD) (ctx:List Int) (fuel:Nat) (hp:p.length≤4194304) (hc:ctx.length≤4194304) (hf:fuel≤100):FCt prog F_impl_RunProgram [.ro,.ro,.ro] [steps p,ints ctx,Ii fuel] (runPD (runPV p ctx fuel)) []:=by
  refine fct_run impl_RunProgram.ok rfl ?_
  have c1:=impl_GoodProgram.fc p hp
  have c2:=impl_isContext.fc ctx (by omega)
  have c3:=impl_in.fc fuel 0 100
  have e3:inB fuel 0 100=true:=by unfold inB;rw [Bool.and_eq_true,decide_eq_true_eq,decide_eq_true_eq];omega
  rw [e3] at c3
  unfold runPD runPV
  cases h1:goodP p with
  | false=>rw [h1] at c1;repeat' (first|with_reducible rfl|refine fcW_bool (c1) ?_|with_reducible refine cdW_dec (fun _=>?_) (fun _=>?_)|refine cdW_not (fun _=>?_) (fun _=>?_)|refine cdW_any (fun _=>?_) (fun _=>?_)|with_reducible refine gdW_decT (fun _=>?_) (fun _=>?_)|with_reducible refine gdW_decF (fun _=>?_) (fun _=>?_)|refine gdW_not (fun _=>?_) (fun _=>?_)|refine gdW_any (fun _=>?_) (fun _=>?_)|simp only [go_sem,↓reduceIte,nE,nA,nM,nB,oN,iT,nS,nL,nD,iE,iL,reduceCtorEq,bne,Int.reduceEq,Int.reduceBEq,Int.reduceBNe,Int.reduceLE,Int.reduceNeg,Int.reduceAdd,Int.reduceSub,Int.reduceMul, *]|rfl)
  | true =>
    rw [h1] at c1
    cases h2:ctxB ctx with
    | false=>rw [h2] at c2;repeat' (first|with_reducible rfl|refine fcW_bool (c1) ?_|refine fcW_bool (c2) ?_|with_reducible refine cdW_dec (fun _=>?_) (fun _=>?_)|refine cdW_not (fun _=>?_) (fun _=>?_)|refine cdW_any (fun _=>?_) (fun _=>?_)|with_reducible refine gdW_decT (fun _=>?_) (fun _=>?_)|with_reducible refine gdW_decF (fun _=>?_) (fun _=>?_)|refine gdW_not (fun _=>?_) (fun _=>?_)|refine gdW_any (fun _=>?_) (fun _=>?_)|simp only [go_sem,↓reduceIte,nE,nA,nM,nB,oN,iT,nS,nL,nD,iE,iL,reduceCtorEq,bne,Int.reduceEq,Int.reduceBEq,Int.reduceBNe,Int.reduceLE,Int.reduceNeg,Int.reduceAdd,Int.reduceSub,Int.reduceMul, *]|rfl)
    | true =>
      rw [h2] at c2
      have c4:=impl_run.fc p ctx fuel hf (prog_ok h1) (ctx_ok h2)
      generalize runP p ctx fuel=R at c4 ⊢
      obtain ⟨R0,R1,R2,R3⟩:=R
      unfold runD at c4
      repeat' (first|with_reducible rfl|refine fcW_bool (c1) ?_|refine fcW_bool (c2) ?_|refine fcW_bool (c3) ?_|refine fcW_bd (c4) (noRs_run) ?_|with_reducible refine cdW_dec (fun _=>?_) (fun _=>?_)|refine cdW_not (fun _=>?_) (fun _=>?_)|refine cdW_any (fun _=>?_) (fun _=>?_)|with_reducible refine gdW_decT (fun _=>?_) (fun _=>?_)|with_reducible refine gdW_decF (fun _=>?_) (fun _=>?_)|refine gdW_not (fun _=>?_) (fun _=>?_)|refine gdW_any (fun _=>?_) (fun _=>?_)|simp only [go_sem,↓reduceIte,nE,nA,nM,nB,oN,iT,nS,nL,nD,iE,iL,reduceCtorEq,bne,Int.reduceEq,Int.reduceBEq,Int.reduceBNe,Int.reduceLE,Int.reduceNeg,Int.reduceAdd,Int.reduceSub,Int.reduceMul, *]|rfl)
end Go.Vm.YtmbhjcgikblpiaaGreat
namespace Go.Vm.YtmbhjcgikblpiaaGreat
open Go Go.Vm
set_option maxRecDepth 10000
set_option maxHeartbeats 16000000
set_option linter.unusedSimpArgs false
set_option linter.unusedVariables false
def trueV (p:List StepD) (v:VerD):Bool :=
  if (v.size != (p.length:Int)) then false else if v.code != 0 then false else
  if v.kind == 1 then (((anaN p p.length).bad.length:Int) == 0)&&((v.wit.length:Int) == 0)&&(v.fault == 0)&&(v.pc == 0) else
  if v.kind == 2 then (if ctxB v.wit then (if v.fault < 1 then false else ((runP p v.wit 100).2.1 == v.fault)&&((runP p v.wit 100).2.2.1 == v.pc)) else false) else
  (v.kind == 3)&&((v.wit.length:Int) == 0)&&(v.fault == 0)&&hasI (anaN p p.length).bad v.pc
def checkV (l:List UInt8) (v:VerD):Bool×Bool :=
  if l.length > 160 then (false,false) else
  if (readV l).2.2 then (trueV (readV l).1 v,true) else
  ((v.kind == 4)&&(v.code == (readV l).2.1)&&((v.wit.length:Int) == 0)&&(v.fault == 0)&&(v.pc == 0)&&(v.size == 0),true)
def checkD (r:Bool×Bool):D:=.tup [Bb r.1,Bb r.2]
theorem spec_l17True.fc (p:List StepD) (v:VerD) (op:ProgOk p) (hw:v.wit.length≤4194304):FCt prog F_spec_l17True [.ro,.ro] [steps p,v.d] (Bb (trueV p v)) []:=by
  refine fct_run spec_l17True.ok rfl ?_
  have ca:=spec_l13Analyse.fc p op
  have cx:=spec_l3Ctx.fc v.wit (by omega)
  have cr:=fun h=>spec_l3Run.fc p v.wit 100 (by omega) op (ctx_ok (l:=v.wit) h)
  have c100:((100:Nat):Int)=100:=rfl
  rw [c100] at cr
  have hb:=anaN_bad (p:=p) p.length
  have hp:=op.len.2
  unfold trueV
  generalize anaN p p.length=r at ca hb ⊢
  obtain ⟨rm,ry,rb⟩:=r
  dsimp only at hb ⊢
  obtain ⟨k,c,w,f,pc,sz⟩:=v
  dsimp only at hw cx cr ⊢
  have ch:=spec_l1Has.fc rb pc (by omega)
  cases h1:(sz != (p.length:Int)) with
  | true=>simp only [go_sem,↓reduceIte,nE,nA,nM,nB,oN,iT,nS,nL,nD,iE,iL,reduceCtorEq,h1]
  | false =>
    cases h2:(c != 0) with
    | true=>simp only [go_sem,↓reduceIte,nE,nA,nM,nB,oN,iT,nS,nL,nD,iE,iL,reduceCtorEq,h1,h2]
    | false =>
      simp only [go_sem,↓reduceIte,nE,nA,nM,nB,oN,iT,nS,nL,nD,iE,iL,reduceCtorEq,h1,h2]
      refine fcW_bd ca noRs_Report ?_
      cases k1:(k == 1) with
      | true =>
        cases q1:((rb.length:Int) == 0)<;>cases q2:((w.length:Int) == 0)<;>cases q3:(f == 0)<;>simp only [go_sem,↓reduceIte,nE,nA,nM,nB,oN,iT,nS,nL,nD,iE,iL,reduceCtorEq,k1,q1,q2,q3]<;>try rfl
      | false =>
        cases k2:(k == 2) with
        | true =>
          simp only [go_sem,↓reduceIte,nE,nA,nM,nB,oN,iT,nS,nL,nD,iE,iL,reduceCtorEq,k1,k2]
          refine fcW_bool cx ?_
          cases hx:ctxB w with
          | false=>simp only [go_sem,↓reduceIte,nE,nA,nM,nB,oN,iT,nS,nL,nD,iE,iL,reduceCtorEq]
          | true =>
            have cr:=cr hx
            unfold runD at cr
            generalize runP p w 100=Q at cr ⊢
            obtain ⟨Q0,Q1,Q2,Q3⟩:=Q
            dsimp only at cr ⊢
            by_cases hf:f < 1
            · simp only [go_sem,↓reduceIte,nE,nA,nM,nB,oN,iT,nS,nL,nD,iE,iL,reduceCtorEq,hf]
            · simp only [go_sem,↓reduceIte,nE,nA,nM,nB,oN,iT,nS,nL,nD,iE,iL,reduceCtorEq,hf]
              refine fcW_bd cr (noRs_t4 rfl rfl rfl noRs_ints) ?_
              cases q1:(Q1 == f)<;>simp only [go_sem,↓reduceIte,nE,nA,nM,nB,oN,iT,nS,nL,nD,iE,iL,reduceCtorEq,q1,hf]<;>try rfl
        | false =>
          cases k3:(k == 3) with
          | false=>simp only [go_sem,↓reduceIte,nE,nA,nM,nB,oN,iT,nS,nL,nD,iE,iL,reduceCtorEq,k1,k2,k3]
          | true =>
            cases q2:((w.length:Int) == 0) with
            | false=>simp only [go_sem,↓reduceIte,nE,nA,nM,nB,oN,iT,nS,nL,nD,iE,iL,reduceCtorEq,k1,k2,k3,q2]
            | true =>
              cases q3:(f == 0) with
              | false=>simp only [go_sem,↓reduceIte,nE,nA,nM,nB,oN,iT,nS,nL,nD,iE,iL,reduceCtorEq,k1,k2,k3,q2,q3]
              | true =>
                simp only [go_sem,↓reduceIte,nE,nA,nM,nB,oN,iT,nS,nL,nD,iE,iL,reduceCtorEq,k1,k2,k3,q2,q3,take_map_len]
                refine fcW_bool ch ?_
                simp only [go_sem,↓reduceIte,nE,nA,nM,nB,oN,iT,nS,nL,nD,iE,iL,reduceCtorEq];try rfl
theorem spec_CheckVerdict.fc (l:List UInt8) (v:VerD) (hl:l.length≤4194304) (hw:v.wit.length≤4194304):FCt prog F_spec_CheckVerdict [.ro,.ro] [strU l,v.d] (checkD (checkV l v)) []:=by
  refine fct_run spec_CheckVerdict.ok rfl ?_
  have cr:=spec_ReadProgram.fc l hl
  have sz:=strL_len l
  unfold checkD checkV
  by_cases h:l.length > 160
  · have h1:(l.length:Int) > 160:=by omega
    rw [if_pos h]
    simp only [go_sem,↓reduceIte,nE,nA,nM,nB,oN,iT,nS,nL,nD,iE,iL,reduceCtorEq,sz,h1]
  · have h1:¬ (l.length:Int) > 160:=by omega
    rw [if_neg h]
    have hg:=readV_good (l:=l)
    generalize readV l=R at cr hg ⊢
    obtain ⟨p,c,ok⟩:=R
    dsimp only at hg ⊢
    unfold readD at cr
    simp only [go_sem,↓reduceIte,nE,nA,nM,nB,oN,iT,nS,nL,nD,iE,iL,reduceCtorEq,sz,h1]
    refine fcW_bd cr noRs_read ?_
    cases ok with
    | true =>
      have ct:=spec_l17True.fc p v (prog_ok (hg rfl)) hw
      obtain ⟨k,c,w,f,pc,sz⟩:=v
      simp only [go_sem,↓reduceIte,nE,nA,nM,nB,oN,iT,nS,nL,nD,iE,iL,reduceCtorEq,take_map_len]
      refine fcW_bool ct ?_
      simp only [go_sem,↓reduceIte,nE,nA,nM,nB,oN,iT,nS,nL,nD,iE,iL,reduceCtorEq];try rfl
    | false =>
      obtain ⟨k,vc,w,f,pc,sz⟩:=v
      dsimp only
      cases q0:(k == 4)<;>cases q1:(vc == c)<;>cases q2:((w.length:Int) == 0)<;>cases q3:(f == 0)<;>cases q4:(pc == 0)<;>simp only [go_sem,↓reduceIte,nE,nA,nM,nB,oN,iT,nS,nL,nD,iE,iL,reduceCtorEq,q0,q1,q2,q3,q4]<;>try rfl
theorem impl_CheckVerdict.fc (l:List UInt8) (v:VerD) (hl:l.length≤4194304) (hw:v.wit.length≤4194304):FCt prog F_impl_CheckVerdict [.ro,.ro] [strU l,v.d] (checkD (checkV l v)) []:=by
  refine fct_run impl_CheckVerdict.ok rfl ?_
  have cr:=impl_ReadProgram.fc l hl
  have sz:=strL_len l
  unfold checkD checkV
  by_cases h:l.length > 160
  · have h1:(l.length:Int) > 160:=by omega
    rw [if_pos h]
    simp only [go_sem,↓reduceIte,nE,nA,nM,nB,oN,iT,nS,nL,nD,iE,iL,reduceCtorEq,sz,h1]
  · have h1:¬ (l.length:Int) > 160:=by omega
    rw [if_neg h]
    have hg:=readV_good (l:=l)
    have hpl:=readV_len l
    generalize readV l=R at cr hg hpl ⊢
    obtain ⟨p,c,ok⟩:=R
    dsimp only at hg hpl ⊢
    unfold readD at cr
    simp only [go_sem,↓reduceIte,nE,nA,nM,nB,oN,iT,nS,nL,nD,iE,iL,reduceCtorEq,sz,h1]
    refine fcW_bd cr noRs_read ?_
    obtain ⟨k,vc,w,f,pc,sz⟩:=v
    dsimp only at hw ⊢
    cases ok with
    | false =>
      cases q0:(k == 4)<;>cases q1:(vc == c)<;>cases q2:((w.length:Int) == 0)<;>cases q3:(f == 0)<;>cases q4:(pc == 0)<;>simp only [go_sem,↓reduceIte,nE,nA,nM,nB,oN,iT,nS,nL,nD,iE,iL,reduceCtorEq,q0,q1,q2,q3,q4]<;>try rfl
    | true =>
      have hgp:=hg rfl
      have op:=prog_ok hgp
      have ca:=impl_AnalyseProgram.fc p (by omega)
      have cp:=impl_RunProgram.fc p w 100 (by omega) hw (by omega)
      have c100:((100:Nat):Int)=100:=rfl
      rw [c100] at cp
      unfold runPV runPD at cp
      unfold anaV at ca
      rw [hgp] at ca cp
      unfold trueV
      have hb:=anaN_bad (p:=p) p.length
      have hp:=op.len.2
      simp only [if_true] at ca ⊢
      generalize anaN p p.length=r at ca hb ⊢
      obtain ⟨rm,ry,rb⟩:=r
      dsimp only at hb ca ⊢
      have ch:=slices_Contains__sint_int.fc rb pc (by omega)
      cases e1:(sz != (p.length:Int)) with
      | true=>cases q2:((w.length:Int) == 0)<;>simp only [go_sem,↓reduceIte,nE,nA,nM,nB,oN,iT,nS,nL,nD,iE,iL,reduceCtorEq,e1,q2]
      | false =>
        cases e2:(vc != 0) with
        | true=>cases q2:((w.length:Int) == 0)<;>simp only [go_sem,↓reduceIte,nE,nA,nM,nB,oN,iT,nS,nL,nD,iE,iL,reduceCtorEq,e1,e2,q2]
        | false =>
          cases q2:((w.length:Int) == 0)<;>cases q3:(f == 0) <;>
          · simp only [go_sem,↓reduceIte,nE,nA,nM,nB,oN,iT,nS,nL,nD,iE,iL,reduceCtorEq,e1,e2,q2,q3,take_map_len]
            refine fcW_bd ca noRs_rep2 ?_
            cases k2:(k == 2) with
            | true =>
              have k1:(k == 1)=false:=by have:k=2:=(by simpa using k2);subst this;rfl
              simp only [go_sem,↓reduceIte,nE,nA,nM,nB,oN,iT,nS,nL,nD,iE,iL,reduceCtorEq,k1,k2,take_map_len]
              refine fcW_bd cp rfl ?_
              cases hx:ctxB w with
              | false =>
                by_cases hf:f < 1
                · have hf2:¬ f > 0:=by omega
                  simp only [go_sem,↓reduceIte,nE,nA,nM,nB,oN,iT,nS,nL,nD,iE,iL,reduceCtorEq,hf2,k1,k2];try rfl
                · have hf2:f > 0:=by omega
                  simp only [go_sem,↓reduceIte,nE,nA,nM,nB,oN,iT,nS,nL,nD,iE,iL,reduceCtorEq,hf2,k1,k2];try rfl
              | true =>
                generalize runP p w 100=Q
                obtain ⟨Q0,Q1,Q2,Q3⟩:=Q
                by_cases hf:f < 1
                · have hf2:¬ f > 0:=by omega
                  simp only [go_sem,↓reduceIte,nE,nA,nM,nB,oN,iT,nS,nL,nD,iE,iL,reduceCtorEq,hf,hf2,k1,k2];try rfl
                · have hf2:f > 0:=by omega
                  cases q1:(Q1 == f)<;>simp only [go_sem,↓reduceIte,nE,nA,nM,nB,oN,iT,nS,nL,nD,iE,iL,reduceCtorEq,hf,hf2,q1,k1,k2]<;>try rfl
            | false =>
              cases k1:(k == 1) with
              | true=>cases q1:((rb.length:Int) == 0)<;>simp only [go_sem,↓reduceIte,nE,nA,nM,nB,oN,iT,nS,nL,nD,iE,iL,reduceCtorEq,k1,k2,q1]<;>try rfl
              | false =>
                cases k3:(k == 3) with
                | false=>simp only [go_sem,↓reduceIte,nE,nA,nM,nB,oN,iT,nS,nL,nD,iE,iL,reduceCtorEq,k1,k2,k3]
                | true =>
                  simp only [go_sem,↓reduceIte,nE,nA,nM,nB,oN,iT,nS,nL,nD,iE,iL,reduceCtorEq,k1,k2,k3,take_map_len]
                  refine fcW_bool ch ?_
                  have eh:rb.any (fun x=>x == pc)=hasI rb pc:=rfl
                  cases qh:hasI rb pc<;>rw [qh] at eh<;>simp only [go_sem,↓reduceIte,nE,nA,nM,nB,oN,iT,nS,nL,nD,iE,iL,reduceCtorEq,eh]<;>try rfl
end Go.Vm.YtmbhjcgikblpiaaGreat
