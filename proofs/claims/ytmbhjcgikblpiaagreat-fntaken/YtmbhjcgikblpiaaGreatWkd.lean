/- What the functions that the law reaches return: part 4 (the conditions stand at each). -/
import Derived.Test.YtmbhjcgikblpiaaGreatWkc
open Int renaming reduceEq → iQ, reduceBEq → iB, reduceBNe → iX, reduceNeg → iN, reduceAdd → iA, reduceSub → iS, reduceMul → iM
namespace Go.Vm.YtmbhjcgikblpiaaGreat
open Go Go.Vm
set_option maxRecDepth 10000
set_option maxHeartbeats 16000000
set_option linter.unusedSimpArgs false
set_option linter.unusedVariables false
theorem spec_l14Own.fc (st:List Int) (tu:List Bool) (h1:st.length≤4194304) (h2:tu.length≤4194304):FCt prog Zcw [.ro] [WayD.d ⟨st,tu⟩] (WayD.d ⟨st,tu⟩) []:=by
 refine Zak spec_l14Own.ok rfl ?_
 have b1:st.length * 8≤70368744177664:=by omega
 have b2:tu.length * 1≤70368744177664:=by omega
 have k1:(st.map Ii).take st.length=st.map Ii:=Zaa
 have k2:(tu.map Bb).take tu.length=tu.map Bb:=Zaa
 cases st with
 | nil =>
  cases tu with
  | nil=>simp only [go_sem,List.length_nil,List.map_nil,List.all_nil];try rfl
  | cons t tu =>
   have hsc:((t::tu).map Bb).all isSc=true:=allScB
   simp only [List.length_cons,List.map_cons,List.all_cons,Bool.and_eq_true,List.take_succ_cons,List.cons.injEq,true_and] at b2 k2 hsc
   have s1:=hsc.1
   have s2:=hsc.2
   simp only [go_sem,List.length_nil,List.map_nil,List.all_nil,s1,s2,b2,k2,Nat.zero_le];try rfl
 | cons a st =>
  have hsa:((a::st).map Ii).all isSc=true:=allSc
  simp only [List.length_cons,List.map_cons,List.all_cons,Bool.and_eq_true,List.take_succ_cons,List.cons.injEq,true_and] at b1 k1 hsa
  have s3:=hsa.1
  have s4:=hsa.2
  cases tu with
  | nil=>simp only [go_sem,List.length_nil,List.map_nil,List.all_nil,s3,s4,b1,k1,Nat.zero_le];try rfl
  | cons t tu =>
   have hsc:((t::tu).map Bb).all isSc=true:=allScB
   simp only [List.length_cons,List.map_cons,List.all_cons,Bool.and_eq_true,List.take_succ_cons,List.cons.injEq,true_and] at b2 k2 hsc
   have s1:=hsc.1
   have s2:=hsc.2
   simp only [go_sem,s1,s2,s3,s4,b1,b2,k1,k2,Nat.zero_le];try rfl
theorem spec_l14All.fc (p:List StepD) (hp:ProgOk p):∀ (n:Nat) (w:WayD) (out:List WayD),OnWay p w n→out.length≤65 →
 FCt prog Zcx [.ro,.ro,.co] [steps p,w.d,ways out] (ways (allF p n w out)) []
 | 0,w,out,h,ho=>by have:=h.a1;have:=h.a2;omega
 | n+1,w,out,h,hout=>by
  refine Zak spec_l14All.ok rfl ?_
  have ih:=fun (w:WayD) (out:List WayD)=>spec_l14All.fc p hp n w out
  obtain ⟨l0,l1,l2,a0,a1,a2⟩:=h
  have hi:(lastA w).toNat < p.length:=by omega
  have gs:p[(lastA w).toNat]? = some p[(lastA w).toNat]:=List.getElem?_eq_getElem hi
  have hv:=(hp.all _ hi).1
  have hnx:=fun i x (hx:x∈nextsL p[(lastA w).toNat] (lastA w))=>Zmv (i:=i) hp ⟨l0,l1,l2,a0,a1,a2⟩ gs hx
  generalize p[(lastA w).toNat]=s at gs hv hnx
  have cn:=spec_l2Nexts.fc p (lastA w) s a0 a1 hp.len.2 gs hv
  have cb:=spec_l14Branch.fc s
  have hmany:=Zgm (p:=p) (n:=n+1) (w:=w) (out:=out)
  have hend:=fun h=>ZjS (n:=n) (w:=w) (out:=out) (p:=p) (s:=s) h gs
  have hstep:=fun h=>ZhV (n:=n) (w:=w) (out:=out) (p:=p) (s:=s) h gs
  have hlast:w.steps[w.steps.length - 1]? = some (lastA w):=by
   unfold lastA
   rw [List.getD_eq_getElem?_getD,List.getElem?_eq_getElem (by omega)];rfl
  have wl1:IntKind.i64.wrap ((w.steps.length:Int) - 1)=((w.steps.length - 1:Nat):Int):=by rw [Zaj (by omega) (by omega)];omega
  have wl2:((w.steps.length - 1:Nat):Int) < w.steps.length:=by omega
  obtain ⟨st,tu⟩:=w
  dsimp only at l0 l1 l2 hlast wl1 wl2
  generalize hA:lastA ⟨st,tu⟩=at' at *
  have p1:=hp.len.2
  have q1:at' < p.length:=a1
  have hbb:(out.length+1) * 48≤70368744177664:=by omega
  by_cases h64:out.length > 64
  · have h64':(out.length:Int) > 64:=by omega
    rw [hmany h64]
    simp only [go_sem,h64',Zaa]
  · have h64':¬ (out.length:Int) > 64:=by omega
    simp only [go_sem,h64',wl1,wl2,hlast,a0,q1,gs]
    have cown:=spec_l14Own.fc st tu (by omega) (by omega)
    cases hk:(s.kind == 11) with
    | true =>
     rw [hend (by omega) hk]
     simp only [go_sem,hk]
     refine Zal cown Zhi ?_
     have el:(out++[WayD.mk st tu]).length=out.length+1:=by simp
     have hsn:out.map WayD.d++[WayD.d ⟨st,tu⟩]=(out++[WayD.mk st tu]).map WayD.d:=by simp
     have tk:((out++[WayD.mk st tu]).map WayD.d).take (out.length+1)=(out++[WayD.mk st tu]).map WayD.d:=List.take_of_length_le (by simp)
     simp only [go_sem,hbb,Zaa,hsn,el,tk,Nat.le_refl]
    | false =>
     rw [hstep (by omega) hk]
     have hlen:(nextsL s at').length≤2:=by
      unfold nextsL
      repeat' split
      all_goals simp
     simp only [go_sem,hk]
     refine Zal cn ZaY ?_
     generalize hN:nextsL s at'=N at hlen hnx ⊢
     generalize hf:(fun i x o=>allF p n (extW ⟨st,tu⟩ s i x) o)=f
     have hf':∀ i x o,f i x o=allF p n (extW ⟨st,tu⟩ s i x) o:=fun i x o=>by rw [← hf]
     simp only [go_sem]
     refine ZaI (α:=Nat×List WayD) (fun a s' M'=>a.1≤N.length∧s' 38=aI a.1∧a.2.length≤65∧foldW f 0 N out=foldW f a.1 (N.drop a.1) a.2 ∧
      (∃ u,s' 36=.sl 1984 u 0 N.length 1∧M'.m 1984=some (.arr u true 1 (N.map Ii))) ∧
      (∃ v,M'.m 64=some (.box v (.dat none (WayD.d ⟨st,tu⟩)))∧s' 4=.ptr 64 v 0 none) ∧
      (∃ nm w,s' 2=.sl nm w 0 a.2.length 2∧M'.m nm=some (.arr w true 2 (a.2.map WayD.d))∧(nm=0∨nm=4288))) (fun a=>N.length - a.1) (0,out)
      ⟨by simp,by simp only [go_sem];rfl,hout,rfl,⟨_,by simp only [go_sem];try rfl,by simp only [go_sem];try rfl⟩,⟨_,by simp only [go_sem];try rfl,by simp only [go_sem];try rfl⟩,⟨0,_,by simp only [go_sem];try rfl,by simp only [go_sem];try rfl,.inl rfl⟩⟩ ?_
     rintro ⟨k,o⟩ s' M' ⟨hk',h38,ho65,hfold,⟨u,h36,hmN⟩,⟨v,hb64,h4⟩,⟨nm,vw,h2,hmo,hnm⟩⟩ ho
     dsimp only at hk' h38 ho65 hfold h2 hmo
     unfold spec_l14All.b0
     have j0:s' 0=.dat none (steps p):=by rw [ho 0 rfl];simp only [go_sem]
     have j7:s' 7=aI at':=by rw [ho 7 rfl];simp only [go_sem]
     have j37:s' 37=aI N.length:=by rw [ho 37 rfl];simp only [go_sem]
     clear ho
     by_cases hlt:k < N.length
     · have hi':(k:Int) < N.length:=by omega
       have ga:N[k]? = some N[k]:=List.getElem?_eq_getElem hlt
       have hw:IntKind.i64.wrap (k+1)=((k+1:Nat):Int):=Zbc hlt (by omega)
       have hd:N.drop k=N[k]::N.drop (k+1):=List.drop_eq_getElem_cons hlt
       have hx:=hnx k N[k] (List.getElem_mem hlt)
       rw [hd] at hfold
       generalize N[k]=x at ga hx hfold
       have b1:(st.length+1) * 8≤70368744177664:=by omega
       have b2:(tu.length+1) * 1≤70368744177664:=by omega
       have sn:st.map Ii++[Ii x]=(st++[x]).map Ii:=by simp
       have el1:(st++[x]).length=st.length+1:=by simp
       have tk1:((st++[x]).map Ii).take (st.length+1)=(st++[x]).map Ii:=List.take_of_length_le (by simp)
       have sn2:tu.map Bb++[Bb ((k:Int) == 1)]=(tu++[((k:Int) == 1)]).map Bb:=by simp
       have el2:(tu++[((k:Int) == 1)]).length=tu.length+1:=by simp
       have tk2:((tu++[((k:Int) == 1)]).map Bb).take (tu.length+1)=(tu++[((k:Int) == 1)]).map Bb:=List.take_of_length_le (by simp)
       have ihc:=ih (extW ⟨st,tu⟩ s k x) o hx ho65
       have hO65:=ZmB (p:=p) n (extW ⟨st,tu⟩ s k x) o ho65
       have hfk:f k x o=allF p n (extW ⟨st,tu⟩ s k x) o:=hf' k x o
       have hfold2:foldW f 0 N out=foldW f (k+1) (N.drop (k+1)) (allF p n (extW ⟨st,tu⟩ s k x) o):=by rw [hfold,← hfk];rfl
       simp only [go_sem,hi',ga,j0,j7,j37,h38,h36,hmN,hb64,h4,h2,hmo]
       refine Zal cown Zhi ?_
       simp only [go_sem,b1,Zaa,sn,a0,q1,gs,j0,j7,j37,h38,h36,hmN,hb64,h4,h2,hmo]
       refine Zap cb ?_
       cases hbr:brB s with
       | true =>
        have eW:extW ⟨st,tu⟩ s k x=⟨st++[x],tu++[((k:Int) == 1)]⟩:=by unfold extW;rw [hbr];rfl
        rw [eW] at ihc hO65 hfold2
        generalize hOq:allF p n ⟨st++[x],tu++[((k:Int) == 1)]⟩ o=O at ihc hO65 hfold2
        rcases hnm with rfl|rfl <;>
        · simp only [go_sem,b2,Zaa,sn2,el1,el2,tk1,tk2,Nat.le_refl,j0,j7,j37,h38,h36,hmN,hb64,h4,h2,hmo]
          refine ZbL ihc ZeN rfl ?_
          simp only [go_sem,hw,j0,j7,j37,h38,h36,hmN,hb64,h4,h2,hmo]
          exact ⟨(k+1,O),by dsimp only;omega,by dsimp only;omega,by simp only [go_sem,j0,j7,j37,h38,h36,hmN,hb64,h4,h2,hmo],hO65,hfold2,⟨u,by simp only [go_sem,j0,j7,j37,h38,h36,hmN,hb64,h4,h2,hmo],by simp only [go_sem,j0,j7,j37,h38,h36,hmN,hb64,h4,h2,hmo]⟩,⟨v,by simp only [go_sem,j0,j7,j37,h38,h36,hmN,hb64,h4,h2,hmo],by simp only [go_sem,j0,j7,j37,h38,h36,hmN,hb64,h4,h2,hmo]⟩,⟨4288,_,by simp only [go_sem,j0,j7,j37,h38,h36,hmN,hb64,h4,h2,hmo];try rfl,by simp only [go_sem,j0,j7,j37,h38,h36,hmN,hb64,h4,h2,hmo];try rfl,.inr rfl⟩⟩
       | false =>
        have eW:extW ⟨st,tu⟩ s k x=⟨st++[x],tu⟩:=by unfold extW;rw [hbr];rfl
        rw [eW] at ihc hO65 hfold2
        generalize hOq:allF p n ⟨st++[x],tu⟩ o=O at ihc hO65 hfold2
        rcases hnm with rfl|rfl <;>
        · simp only [go_sem,b2,Zaa,el1,tk1,Nat.le_refl,j0,j7,j37,h38,h36,hmN,hb64,h4,h2,hmo]
          refine ZbL ihc ZeN rfl ?_
          simp only [go_sem,hw,j0,j7,j37,h38,h36,hmN,hb64,h4,h2,hmo]
          exact ⟨(k+1,O),by dsimp only;omega,by dsimp only;omega,by simp only [go_sem,j0,j7,j37,h38,h36,hmN,hb64,h4,h2,hmo],hO65,hfold2,⟨u,by simp only [go_sem,j0,j7,j37,h38,h36,hmN,hb64,h4,h2,hmo],by simp only [go_sem,j0,j7,j37,h38,h36,hmN,hb64,h4,h2,hmo]⟩,⟨v,by simp only [go_sem,j0,j7,j37,h38,h36,hmN,hb64,h4,h2,hmo],by simp only [go_sem,j0,j7,j37,h38,h36,hmN,hb64,h4,h2,hmo]⟩,⟨4288,_,by simp only [go_sem,j0,j7,j37,h38,h36,hmN,hb64,h4,h2,hmo];try rfl,by simp only [go_sem,j0,j7,j37,h38,h36,hmN,hb64,h4,h2,hmo];try rfl,.inr rfl⟩⟩
     · have hi':¬ (k:Int) < N.length:=by omega
       obtain rfl:k=N.length:=by omega
       have hd0:N.drop N.length=[]:=List.drop_eq_nil_of_le (Nat.le_refl _)
       rw [hd0] at hfold
       have hfin:foldW f 0 N out=o:=hfold
       rw [hfin]
       rcases hnm with rfl|rfl<;>simp only [go_sem,Int.lt_irrefl,Zaa,j0,j7,j37,h38,h36,hmN,hb64,h4,h2,hmo]
theorem spec_WaysThrough.fc (p:List StepD) (hpl:p.length≤4194304):FCt prog ZbN [.ro] [steps p] (.tup [ways (waysV p).1,Bb (waysV p).2]) []:=by
 refine Zak spec_WaysThrough.ok rfl ?_
 unfold waysV
 simp only [go_sem]
 refine Zap (spec_GoodProgram.fc p hpl) ?_
 cases hg:goodP p with
 | false=>simp only [go_sem];try rfl
 | true =>
  have hp:=Zdj hg
  have c:=spec_l14All.fc p hp p.length w0 [] (Zq7 hp) (by simp)
  generalize allF p p.length w0 []=O at c ⊢
  simp only [go_sem]
  refine ZbL c ZeN rfl ?_
  by_cases hq:O.length≤64
  · have h1:¬ (O.length:Int) > 64:=by omega
    have h2:decide (O.length≤64)=true:=by simpa using hq
    simp only [go_sem,h1,h2,Zaa];try rfl
  · have h1:(O.length:Int) > 64:=by omega
    have h2:decide (O.length≤64)=false:=by simpa using hq
    simp only [go_sem,h1,h2];try rfl
theorem Zmm (p:List StepD):(waysV p).1.length≤65:=by
 unfold waysV
 split
 · rename_i h
   simp only [Bool.and_eq_true,decide_eq_true_eq] at h
   have:=h.2
   dsimp only
   omega
 · simp
theorem Zh1 {q:WayD→Prop} {f:Nat→Int→List WayD→List WayD}:∀ (l:List Int) (i:Nat) (o:List WayD),(∀ i x o,x∈l→(∀ w∈o,q w)→∀ w∈f i x o,q w)→(∀ w∈o,q w)→∀ w∈foldW f i l o,q w
 | [],_,_,_,h=>h
 | x::l,i,o,hf,h=>Zh1 l _ _ (fun i y o hy=>hf i y o (List.mem_cons_of_mem _ hy)) (hf i x o List.mem_cons_self h)
theorem Zjp {p:List StepD} (hp:ProgOk p):∀ (n:Nat) (w:WayD) (out:List WayD),OnWay p w n→(∀ y∈out,wWay y≤42)→∀ y∈allF p n w out,wWay y≤42
 | 0,w,out,_,h=>h
 | n+1,w,out,hw,h=>by
  by_cases h2:out.length > 64
  · rw [Zgm h2];exact h
  · have hi:(lastA w).toNat < p.length:=by have:=hw.a0;have:=hw.a1;omega
    have gs:p[(lastA w).toNat]? = some p[(lastA w).toNat]:=List.getElem?_eq_getElem hi
    cases hk:(p[(lastA w).toNat].kind == 11) with
    | true =>
     rw [ZjS (by omega) gs hk]
     intro x hx
     rcases List.mem_append.1 hx with hx|hx
     · exact h x hx
     · rw [List.mem_singleton] at hx
       subst hx
       have h3:=hw.l1
       have h4:=hw.l2
       show x.steps.length+x.turns.length≤42
       omega
    | false =>
     rw [ZhV (by omega) gs hk]
     exact Zh1 _ _ _ (fun i x o hx ho=>Zjp hp n _ o (Zmv hp hw gs hx) ho) h
theorem Zpr {l:List WayD} {b:Bool}:noRs (.tup [ways l,Bb b])=true:=Zdv ZeN rfl
def WyQ (m:Nat) (r:D) (outs:List D):Prop:=∃ (w:WayD) (c':CurD),r=w.d∧outs=[.ptr c'.d]∧wWay w≤42∧CurOk c' m
theorem Zor (c:CurD) (p:List StepD) (hp:p.length≤4194304) {m:Nat} (h:CurOk c (m+4)):∃ (w:WayD) (c':CurD),wWay w≤42∧CurOk c' m∧FCt prog Za7 [.io,.ro] [.ptr c.d,steps p] w.d [.ptr c'.d]:=by
 suffices H:∃ r outs,WyQ m r outs∧FCt prog Za7 [.io,.ro] [.ptr c.d,steps p] r outs by
  obtain ⟨_,_,⟨w,c',rfl,rfl,h1,h2⟩,hf⟩:=H
  exact ⟨w,c',h1,h2,hf⟩
 refine Zrh _ spec_pl1Cur_way.ok rfl rfl ?_
 have g1:=spec_WaysThrough.fc p hp
 have g2:=Zmm p
 have g3:∀ w∈(waysV p).1,wWay w≤42:=by
  unfold waysV
  split
  · rename_i h
    simp only [Bool.and_eq_true] at h
    exact Zjp (Zdj h.1) _ _ _ (Zq7 (Zdj h.1)) (fun w h=>by cases h)
  · intro x h;cases h
 generalize (waysV p).2=ok at g1
 generalize (waysV p).1=l at g1 g2 g3
 simp only [go_sem]
 refine Zal g1 Zpr ?_
 by_cases hl:l.length=0
 · have z:((l.length:Int) == 0)=true:=by simp [hl]
   simp only [go_sem,z]
   exact ⟨⟨[0],[]⟩,c,rfl,rfl,by decide,h.mono (by omega)⟩
 have z:((l.length:Int) == 0)=false:=by simp [hl]
 have f1:=spec_pl1Cur_pick.fc c l.length (m:=m+2) h
 have b1:=ZeV (c:=c) (n:=l.length) (by omega)
 have o1:CurOk (pickC c l.length) (m+2):=Zai h
 generalize pickV c l.length=k at f1 b1
 generalize pickC c l.length=c1 at f1 o1
 have kl:k.toNat < l.length:=by omega
 have b10:=b1.1
 have b11:=b1.2
 have gl:l[k.toNat]? = some l[k.toNat]:=List.getElem?_eq_getElem kl
 have gw:wWay l[k.toNat]≤42:=g3 _ (List.getElem_mem kl)
 generalize l[k.toNat]=w at gw gl
 have gd:(l.map WayD.d)[k.toNat]? = some w.d:=by rw [List.getElem?_map,gl];rfl
 have f2:=spec_pl1Cur_one.fc c1 12 (m:=m) o1
 have o2:CurOk (pickC c1 12) m:=Zai o1
 generalize (pickV c1 12 == 0)=b at f2
 generalize pickC c1 12=c2 at f2 o2
 simp only [go_sem,z]
 refine Zbk f1 ?_
 simp only [go_sem,b10,b11]
 refine ZqT (l:=192) (v:=129) (i:=k.toNat) (sz:=2) (xs:=l.map WayD.d) (d:=w.d) (by simp only [go_sem];try rfl) (by simp only [go_sem];try rfl) gd rfl rfl ?_
 obtain ⟨ws,wt⟩:=w
 have gw:ws.length+wt.length≤42:=gw
 simp only [go_sem]
 refine Zab (fun hz=>?_) (fun hz=>?_)
 · simp only [go_sem,hz]
   refine Zbk f2 ?_
   have l0:(0:Int) < wt.length:=by omega
   obtain ⟨t,ht⟩:∃ t,wt[0]? = some t:=⟨_,List.getElem?_eq_getElem (by omega)⟩
   have sn:(wt.map Bb).set 0 (Bb !t)=(wt.set 0 !t).map Bb:=by rw [List.map_set]
   have s1:(wt.set 0 !t).length=wt.length:=by simp
   have s2:wt.length≤(wt.set 0 !t).length:=by omega
   have s3:((wt.set 0 !t).map Bb).take wt.length=(wt.set 0 !t).map Bb:=List.take_of_length_le (by simp)
   cases b
   · simp only [go_sem,Zaa,hz]
     exact ⟨⟨ws,wt⟩,c2,rfl,rfl,gw,o2⟩
   · simp only [go_sem,Zaa,l0,ht,sn,s2,s3,hz]
     exact ⟨⟨ws,wt.set 0 !t⟩,c2,rfl,rfl,by show ws.length+(wt.set 0 !t).length≤42;omega,o2⟩
 · simp only [go_sem,Zaa,hz]
   exact ⟨⟨ws,wt⟩,c1,rfl,rfl,gw,o1.mono (by omega)⟩
theorem ZsB (code:List Int) (hl:code.length≤9223372036854775807) (h8:∀ b∈code,0≤b∧b≤255) :
 ∃ (p:List StepD) (ctx:List Int) (w:WayD),p.length≤20∧ctx.length=8∧wWay w≤42∧FCt prog ZbE [.ro] [.sl 1 (code.map Ub)] (.tup [.rs 6 (p.map StepD.d),ints ctx,w.d]) []:=by
 obtain ⟨p,c1,pl,ok1,f1⟩:=ZlS (curS code) (Zhc hl h8 (by omega))
 have o1:CurOk c1 60:=ok1 60 (Zhc hl h8 (by omega))
 obtain ⟨l,c2,ll,ok2,f2⟩:=ZqA c1 (o1.mono (by omega))
 have o2:CurOk c2 20:=ok2 20 o1
 obtain ⟨w,c3,hw,o3,f3⟩:=Zor c2 p (by omega) (m:=10) (o2.mono (by omega))
 refine ⟨p,l,w,pl,ll,hw,?_⟩
 refine Zak spec_DrawFollowWay.ok rfl ?_
 simp only [go_sem]
 refine Zbk f1 ?_
 simp only [go_sem,Zaa]
 refine Zbk f2 ?_
 simp only [go_sem,Zaa]
 refine Zbk f3 ?_
 simp only [go_sem,Zaa]
theorem ZtW (code:List Int) (hl:code.length≤9223372036854775807) (h8:∀ b∈code,0≤b∧b≤255) :
 ∃ (p:List StepD) (w:WayD),p.length≤20∧wWay w≤42∧FCt prog ZbQ [.ro] [.sl 1 (code.map Ub)] (.tup [.rs 6 (p.map StepD.d),w.d]) []:=by
 obtain ⟨p,c1,pl,ok1,f1⟩:=ZlS (curS code) (Zhc hl h8 (by omega))
 have o1:CurOk c1 20:=ok1 20 (Zhc hl h8 (by omega))
 obtain ⟨w,c3,hw,o3,f3⟩:=Zor c1 p (by omega) (m:=10) (o1.mono (by omega))
 refine ⟨p,w,pl,hw,?_⟩
 refine Zak spec_DrawGoodWay.ok rfl ?_
 simp only [go_sem]
 refine Zbk f1 ?_
 simp only [go_sem,Zaa]
 refine Zbk f3 ?_
 simp only [go_sem,Zaa]
theorem Zsq (code:List Int) (hl:code.length≤9223372036854775807) (h8:∀ b∈code,0≤b∧b≤255) :
 ∃ (p:List StepD) (w:WayD),p.length≤20∧wWay w≤42∧FCt prog ZbV [.ro] [.sl 1 (code.map Ub)] (.tup [.rs 6 (p.map StepD.d),w.d]) []:=by
 obtain ⟨p,w,pl,hw,f1⟩:=ZtW code hl h8
 refine ⟨p,w,pl,hw,?_⟩
 refine Zak spec_DrawMayTake.ok rfl ?_
 simp only [go_sem]
 refine ZiI f1 ?_
 simp only [go_sem,Zaa]
set_option maxHeartbeats 32000000
theorem spec_MayTake.fc (p:List StepD) (w:WayD) (hp:p.length≤4194304) (hw:wWay w≤4194304):FCt prog ZcY [.ro,.ro] [steps p,w.d] (.tup [Bb (takeV p w),Bb (goodW p w)]) []:=by
 refine Zak spec_MayTake.ok rfl ?_
 have cg:=spec_GoodWay.fc p w hp hw
 unfold takeV
 simp only [go_sem]
 refine Zap cg ?_
 cases hg:goodW p w with
 | false=>simp only [go_sem];try rfl
 | true =>
  have op:=Zdj (p:=p) (by unfold goodW at hg;simp only [Bool.and_eq_true] at hg;exact hg.1.1)
  have hgo:goW p w.steps w.turns=true:=by unfold goodW at hg;simp only [Bool.and_eq_true] at hg;exact hg.2
  obtain ⟨l,ts⟩:=w
  have hl:l.length≤4194304:=by unfold wWay at hw;dsimp only at hw;omega
  have ht:ts.length≤4194304:=by unfold wWay at hw;dsimp only at hw;omega
  dsimp only at hgo ⊢
  have st:=startM_ok.len
  have s1:=st.reg
  have s2:=st.bits
  have s3:=st.cell
  have s4:=st.isset
  simp only [go_sem]
  refine Zal spec_StartMay.fc Zar ?_
  simp only [go_sem,s1,s2,s3,s4]
  refine ZaI (α:=Nat×List Bool×MayD) (fun a s' M'=>a.1≤l.length∧s' 22=aI a.1∧a.2.1.length≤4194304∧MayOk a.2.2∧goW p (l.drop a.1) a.2.1=true∧takeF p l ts startM=takeF p (l.drop a.1) a.2.1 a.2.2∧(∃ j:Nat,s' 7=aI j∧a.2.1=ts.drop j∧j+a.2.1.length=ts.length)∧M'.m 64=some (.box 0 (.dat none (WayD.d ⟨l,ts⟩))) ∧
   (∃ n1 n2 n3 n4 v v1 v2 v3 v4,M'.m 704=some (.box v (.agg [.sl n1 v1 0 6 2,.sl n2 v2 0 6 2,.sl n3 v3 0 16 2,.sl n4 v4 0 16 1]))∧s' 6=.ptr 704 v 0 none∧M'.m n1=some (.arr v1 true 2 (a.2.2.reg.map strD))∧M'.m n2=some (.arr v2 true 2 (a.2.2.bits.map knownD))∧M'.m n3=some (.arr v3 true 2 (a.2.2.cell.map strD))∧M'.m n4=some (.arr v4 true 1 (a.2.2.isset.map Bb)) ∧
    ((n1=640∧n2=641∧n3=642∧n4=643)∨(n1=1728∧n2=1729∧n3=1730∧n4=1731)∨(n1=3584∧n2=3585∧n3=3586∧n4=3587)))) (fun a=>l.length - a.1) (0,ts,startM)
   ⟨Nat.zero_le _,by simp only [go_sem];rfl,ht,startM_ok,hgo,rfl,⟨0,by simp only [go_sem];try rfl,rfl,by simp⟩,by simp only [go_sem];try rfl,⟨640,641,642,643,_,_,_,_,_,by simp only [go_sem,s1,s2,s3,s4];try rfl,by simp only [go_sem];try rfl,by simp only [go_sem];try rfl,by simp only [go_sem];try rfl,by simp only [go_sem];try rfl,by simp only [go_sem];try rfl,.inl ⟨rfl,rfl,rfl,rfl⟩⟩⟩ ?_
  rintro ⟨k,r,m⟩ s' M' ⟨hk,h22,hr,hm,hgw,htk,⟨j7,h7,hrj,hjl⟩,hb64,⟨n1,n2,n3,n4,v,v1,v2,v3,v4,hb,h6,m1,m2,m3,m4,hn⟩⟩ ho
  dsimp only at hk h22 hr hm hgw htk h7 hrj hjl hb m1 m2 m3 m4
  unfold spec_MayTake.b0
  have j0:s' 0=.dat none (steps p):=by rw [ho 0 rfl];simp only [go_sem]
  have j3:s' 3=.ptr 64 0 0 none:=by rw [ho 3 rfl];simp only [go_sem]
  have j20:s' 20=.dat none (ints l):=by rw [ho 20 rfl];simp only [go_sem]
  have j21:s' 21=aI l.length:=by rw [ho 21 rfl];simp only [go_sem]
  clear ho
  by_cases hlt:k < l.length
  · have hi':(k:Int) < l.length:=by omega
    have ga:l[k]? = some l[k]:=List.getElem?_eq_getElem hlt
    have hw:IntKind.i64.wrap (k+1)=((k+1:Nat):Int):=Zbc hlt (by omega)
    have hd:l.drop k=l[k]::l.drop (k+1):=List.drop_eq_getElem_cons hlt
    rw [hd] at hgw htk
    obtain ⟨s,a0,gs,q1,q2⟩:=Zmt hgw
    rw [Zd3,gs] at htk
    dsimp only at htk
    generalize l[k]=a at ga a0 gs htk hgw
    have a1:a.toNat < p.length:=(List.getElem?_eq_some_iff.1 gs).1
    have a2:a < p.length:=by omega
    have hv:stepB s=true:=by
     obtain ⟨h,rfl⟩:=List.getElem?_eq_some_iff.1 gs
     exact (op.all _ h).1
    have cs:=spec_l13Step.fc s m hm hv
    have hfz:=ZkX (s:=s) (m:=m)
    have oa:=ZdS hm hv
    obtain ⟨e1,e2,e3,e4⟩:=hm.len
    have t1:=tk_S e1
    have t2:=tk_K e2
    have t3:=tk_S e3
    have t4:=tk_B e4
    have cb:=spec_l14Branch.fc s
    generalize mayV s m=A at cs oa htk hfz
    obtain ⟨b,f⟩:=A
    dsimp only at cs oa htk hfz
    obtain ⟨f1,f2,f3,f4⟩:=oa.len
    have u1:=tk_S f1
    have u2:=tk_K f2
    have u3:=tk_S f3
    have u4:=tk_B f4
    have hbr:brB s=true→s.kind=9∨s.kind=10:=fun h=>by simpa [brB] using h
    rcases hn with ⟨rfl,rfl,rfl,rfl⟩|⟨rfl,rfl,rfl,rfl⟩|⟨rfl,rfl,rfl,rfl⟩ <;>
    · simp only [go_sem,t1,t2,t3,t4,e1,e2,e3,e4,Nat.le_refl,j0,j3,j20,j21,h22,h7,hb64,hb,h6,m1,m2,m3,m4,hi',ga,hw,a0,a2,gs]
      refine ZbL cs Zf2 rfl ?_
      cases hf:(f == 0) with
      | false =>
       have hf2:f > 0:=by rcases hfz with q|q;rw [q] at hf;cases hf;exact q
       rw [hf] at htk
       simp only [Bool.false_eq_true,if_false] at htk
       rw [htk]
       simp only [go_sem,hf2,j0,j3,j20,j21,h22,h7,hb64,hb,h6,m1,m2,m3,m4,hi',ga,hw,a0,a2,gs];try rfl
      | true =>
       have hf2:¬ f > 0:=by have:f=0:=(by simpa using hf);omega
       rw [hf] at htk
       simp only [if_true] at htk
       simp only [go_sem,hf2,f1,f2,f3,f4,j0,j3,j20,j21,h22,h7,hb64,hb,h6,m1,m2,m3,m4,hi',ga,hw,a0,a2,gs]
       refine Zap cb ?_
       cases hbb:brB s with
       | false =>
        rw [hbb] at htk
        simp only [Bool.false_eq_true,if_false] at htk
        simp only [go_sem,j0,j3,j20,j21,h22,h7,hb64,hb,h6,m1,m2,m3,m4,hi',ga,hw,a0,a2,gs]
        exact ⟨(k+1,r,b),by dsimp only;omega,by dsimp only;omega,by simp only [go_sem,j0,j3,j20,j21,h22,h7,hb64,hb,h6,m1,m2,m3,m4,hi',ga,hw,a0,a2,gs],hr,oa,q1 hbb,htk,⟨j7,by simp only [go_sem,j0,j3,j20,j21,h22,h7,hb64,hb,h6,m1,m2,m3,m4,hi',ga,hw,a0,a2,gs],hrj,hjl⟩,by simp only [go_sem,j0,j3,j20,j21,h22,h7,hb64,hb,h6,m1,m2,m3,m4,hi',ga,hw,a0,a2,gs],⟨1728,1729,1730,1731,_,_,_,_,_,by simp only [go_sem,f1,f2,f3,f4,j0,j3,j20,j21,h22,h7,hb64,hb,h6,m1,m2,m3,m4,hi',ga,hw,a0,a2,gs];try rfl,by simp only [go_sem,j0,j3,j20,j21,h22,h7,hb64,hb,h6,m1,m2,m3,m4,hi',ga,hw,a0,a2,gs];try rfl,by simp only [go_sem,j0,j3,j20,j21,h22,h7,hb64,hb,h6,m1,m2,m3,m4,hi',ga,hw,a0,a2,gs];try rfl,by simp only [go_sem,j0,j3,j20,j21,h22,h7,hb64,hb,h6,m1,m2,m3,m4,hi',ga,hw,a0,a2,gs];try rfl,by simp only [go_sem,j0,j3,j20,j21,h22,h7,hb64,hb,h6,m1,m2,m3,m4,hi',ga,hw,a0,a2,gs];try rfl,by simp only [go_sem,j0,j3,j20,j21,h22,h7,hb64,hb,h6,m1,m2,m3,m4,hi',ga,hw,a0,a2,gs];try rfl,.inr (.inl ⟨rfl,rfl,rfl,rfl⟩)⟩⟩
       | true =>
        rw [hbb] at htk
        simp only [if_true] at htk
        obtain ⟨t,r',hrr,hgw'⟩:=q2 hbb
        rw [hrr] at htk
        dsimp only at htk
        have ch:=spec_l13Heed.fc s b t oa hv (hbr hbb)
        have oh:=Zdk (t:=t) oa hv
        generalize heedV s b t=H at ch oh htk
        obtain ⟨h,z⟩:=H
        dsimp only at ch oh htk
        have lr:r.length=r'.length+1:=by rw [hrr];rfl
        have p0:(j7:Int) < ts.length:=by omega
        have g0:ts[j7]? = some t:=by
         have:(ts.drop j7)[0]? = some t:=by rw [← hrj,hrr];rfl
         rwa [List.getElem?_drop] at this
        simp only [go_sem,p0,g0,f1,f2,f3,f4,u1,u2,u3,u4,Nat.le_refl,j0,j3,j20,j21,h22,h7,hb64,hb,h6,m1,m2,m3,m4,hi',ga,hw,a0,a2,gs]
        refine ZbL ch Zf4 rfl ?_
        cases z with
        | false =>
         simp only [Bool.false_eq_true,if_false] at htk
         rw [htk]
         simp only [go_sem,j0,j3,j20,j21,h22,h7,hb64,hb,h6,m1,m2,m3,m4,hi',ga,hw,a0,a2,gs];try rfl
        | true =>
         simp only [if_true] at htk
         have oh:=oh rfl
         obtain ⟨d1,d2,d3,d4⟩:=oh.len
         have hr':r'.length≤4194304:=by omega
         have wj:IntKind.i64.wrap ((j7:Int)+1)=((j7+1:Nat):Int):=by rw [Zaj (by omega) (by omega)];omega
         have hrj':r'=ts.drop (j7+1):=by
          have:ts.drop (j7+1)=(ts.drop j7).drop 1:=by rw [List.drop_drop]
          rw [this,← hrj,hrr];rfl
         simp only [go_sem,wj,d1,d2,d3,d4,Int.le_refl,j0,j3,j20,j21,h22,h7,hb64,hb,h6,m1,m2,m3,m4,hi',ga,hw,a0,a2,gs]
         exact ⟨(k+1,r',h),by dsimp only;omega,by dsimp only;omega,by simp only [go_sem,j0,j3,j20,j21,h22,h7,hb64,hb,h6,m1,m2,m3,m4,hi',ga,hw,a0,a2,gs],hr',oh,hgw',htk,⟨j7+1,by simp only [go_sem,wj,j0,j3,j20,j21,h22,h7,hb64,hb,h6,m1,m2,m3,m4,hi',ga,hw,a0,a2,gs];try rfl,hrj',by dsimp only;omega⟩,by simp only [go_sem,j0,j3,j20,j21,h22,h7,hb64,hb,h6,m1,m2,m3,m4,hi',ga,hw,a0,a2,gs],⟨3584,3585,3586,3587,_,_,_,_,_,by simp only [go_sem,d1,d2,d3,d4,j0,j3,j20,j21,h22,h7,hb64,hb,h6,m1,m2,m3,m4,hi',ga,hw,a0,a2,gs];try rfl,by simp only [go_sem,j0,j3,j20,j21,h22,h7,hb64,hb,h6,m1,m2,m3,m4,hi',ga,hw,a0,a2,gs];try rfl,by simp only [go_sem,j0,j3,j20,j21,h22,h7,hb64,hb,h6,m1,m2,m3,m4,hi',ga,hw,a0,a2,gs];try rfl,by simp only [go_sem,j0,j3,j20,j21,h22,h7,hb64,hb,h6,m1,m2,m3,m4,hi',ga,hw,a0,a2,gs];try rfl,by simp only [go_sem,j0,j3,j20,j21,h22,h7,hb64,hb,h6,m1,m2,m3,m4,hi',ga,hw,a0,a2,gs];try rfl,by simp only [go_sem,j0,j3,j20,j21,h22,h7,hb64,hb,h6,m1,m2,m3,m4,hi',ga,hw,a0,a2,gs];try rfl,.inr (.inr ⟨rfl,rfl,rfl,rfl⟩)⟩⟩
  · have hi':¬ (k:Int) < l.length:=by omega
    obtain rfl:k=l.length:=by omega
    rw [List.drop_length] at htk
    have htk:takeF p l ts startM=true:=htk
    rw [htk]
    simp only [go_sem,Int.lt_irrefl,j0,j3,j20,j21,h22,h7,hb64,hb,h6,m1,m2,m3,m4];try rfl
set_option maxHeartbeats 16000000
theorem Zn2 {α:Type} {a b:List α} {k:Nat} (hl:a.length=b.length) (hk:a.length≤k) (h:∀ i,i < k→a[i]? = b[i]?):a=b:=by
 apply List.ext_getElem?
 intro i
 by_cases hi:i < k
 · exact h i hi
 · rw [List.getElem?_eq_none (by omega),List.getElem?_eq_none (by omega)]
theorem Znr {α:Type} {a b:List α} {i:Nat} (h1:i < a.length) (h2:i < b.length) (h:a[i]≠b[i]):a≠b:=fun e=>by subst e;exact h rfl
theorem laws_sameInts.fc (a b:List Int) (ha:a.length≤4294967296) (hb:b.length≤4294967296):FCt prog ZcH [.ro,.ro] [ints a,ints b] (Bb (decide (a=b))) []:=by
 refine Zak laws_sameInts.ok rfl ?_
 by_cases hl:a.length=b.length
 · have e1:((a.length:Int) != b.length)=false:=by rw [hl];simp
   simp only [go_sem,e1]
   refine ZaI (α:=Nat) (fun k s' M'=>k≤a.length∧s' 13=aI k∧∀ i,i < k→a[i]? = b[i]?) (fun k=>a.length - k) 0 ⟨Nat.zero_le _,by simp only [go_sem];try rfl,fun i hi=>absurd hi (Nat.not_lt_zero i)⟩ ?_
   rintro k s' M' ⟨hk,h13,hr⟩ ho
   unfold laws_sameInts.b0
   have j0:s' 0=.dat none (ints a):=by rw [ho 0 rfl];simp only [go_sem]
   have j1:s' 1=.dat none (ints b):=by rw [ho 1 rfl];simp only [go_sem]
   have j12:s' 12=aI a.length:=by rw [ho 12 rfl];simp only [go_sem]
   clear ho
   by_cases hlt:k < a.length
   · have hi':(k:Int) < a.length:=by omega
     have ga:a[k]? = some a[k]:=List.getElem?_eq_getElem hlt
     have hw:IntKind.i64.wrap (k+1)=((k+1:Nat):Int):=Zbc hlt (by omega)
     have gb:b[k]? = some b[k]:=List.getElem?_eq_getElem (by omega)
     have hb':(k:Int) < b.length:=by omega
     by_cases hx:a[k]=b[k]
     · have hx':(a[k] != b[k])=false:=by simp [hx]
       simp only [go_sem,hi',hb',ga,gb,hx',hw,j0,j1,j12,h13]
       refine ⟨k+1,by dsimp only;omega,by omega,by simp only [go_sem,j0,j1,j12,h13],fun i hi=>?_⟩
       by_cases c:i < k
       · exact hr i c
       · obtain rfl:i=k:=by omega
         rw [ga,gb,hx]
     · have hne:=Znr hlt (by omega) hx
       have hd:decide (a=b)=false:=by simp [hne]
       have hx':(a[k] != b[k])=true:=by simp [hx]
       generalize a[k]=x at *
       simp only [go_sem,hi',hb',ga,gb,hx',hd,j0,j1,j12,h13];try rfl
   · have hi':¬ (k:Int) < a.length:=by omega
     obtain rfl:k=a.length:=by omega
     have e:=Zn2 hl hk hr
     have hd:decide (a=b)=true:=by simp [e]
     simp only [go_sem,Int.lt_irrefl,hd,j0,j1,j12,h13];try rfl
 · have e1:((a.length:Int) != b.length)=true:=by simp;omega
   have hd:decide (a=b)=false:=by simp;intro e;exact hl (by rw [e])
   simp only [go_sem,e1,hd];try rfl
theorem ZgZ {p:List StepD} {w:WayD}:(placesV p w).1.length≤w.steps.length:=by
 unfold placesV
 split
 · exact Nat.le_trans (Zjr _) (ZiZ p w.steps)
 · exact Nat.zero_le _
theorem laws_FnTaken.fc (code more:List Int) (wc:code.length≤9223372036854775807) (wm:more.length≤9223372036854775807) (bc:∀ b∈code,0≤b∧b≤255) (bm:∀ b∈more,0≤b∧b≤255) :
 FCt prog Zd9 [.ro,.ro] [.sl 1 (code.map Ub),.sl 1 (more.map Ub)] (Bb true) []:=by
 obtain ⟨p,ctx,w,pl,cl,hw,d1⟩:=ZsB code wc bc
 obtain ⟨q,x,ql,hx,d2⟩:=Zsq more wm bm
 have c1:=impl_FollowWay.fc p ctx w (by omega) (by omega) (by omega)
 have c2:=spec_FollowWay.fc p ctx w (by omega) (by omega) (by omega)
 have c3:=impl_MayTake.fc p w (by omega) (by omega)
 have c4:=impl_TurnsIn.fc p w (by omega) (by omega)
 have c5:=impl_PlacesRead.fc p w (by omega) (by omega)
 have c6:=impl_AnalyseProgram.fc p (by omega)
 have hO:(followV p ctx w).2=true→TkOk p ctx w:=Ztl
 have hpl:=ZgZ (p:=p) (w:=w)
 have q1:=impl_MayTake.fc q x (by omega) (by omega)
 have q2:=spec_MayTake.fc q x (by omega) (by omega)
 have q3:=impl_TurnsIn.fc q x (by omega) (by omega)
 have q4:=spec_TurnsIn.fc q x (by omega) (by omega)
 have q5:=impl_PlacesRead.fc q x (by omega) (by omega)
 have q6:=spec_PlacesRead.fc q x (by omega) (by omega)
 have q7:=impl_GoodWay.fc q x (by omega) (by omega)
 have q8:=spec_GoodWay.fc q x (by omega) (by omega)
 have hql:=ZgZ (p:=q) (w:=x)
 unfold wWay at hw hx
 have z1:=laws_sameInts.fc (placesV q x).1 (placesV q x).1 (by omega) (by omega)
 rw [show decide ((placesV q x).1=(placesV q x).1)=true by simp] at z1
 generalize placesV q x=Q at *
 obtain ⟨Q1,Q2⟩:=Q
 dsimp only at q5 q6 z1 hql
 generalize takeV q x=T1 at *
 generalize goodW q x=T2 at *
 generalize turnsIn q x=T3 at *
 have v1:(T1 == T1)=true:=by simp
 have v2:(T2 == T2)=true:=by simp
 have v3:(T3 == T3)=true:=by simp
 have v4:(Q2 == Q2)=true:=by simp
 have v5:(true != false)=true:=rfl
 have x1:((followV p ctx w).2 != (followV p ctx w).2)=false:=by simp
 have x2:((followV p ctx w).1.1 != (followV p ctx w).1.1)=false:=by simp
 have x3:((followV p ctx w).1.2 != (followV p ctx w).1.2)=false:=by simp
 refine Zak laws_FnTaken.ok rfl ?_
 simp only [go_sem]
 refine Zad (fun hlen=>?_) (fun hlen=>?_)
 · simp only [go_sem];try rfl
 simp only [go_sem,Zaa]
 refine ZiI d1 ?_
 simp only [go_sem,Zaa]
 refine Zal c1 rfl ?_
 simp only [go_sem,Zaa]
 refine Zal c2 rfl ?_
 simp only [go_sem,Zaa,x1,x2,x3]
 refine Zpf (fun e _ _=>e=.n) ?_ ?_
 · cases hok:(followV p ctx w).2 with
   | false=>simp only [go_sem]
   | true =>
    obtain ⟨hg,hgp,ht,hfew,hfree,hall,hp1,hp2⟩:=hO hok
    rw [hg] at c3 c4
    rw [hgp] at c6
    rw [ht] at c4
    generalize placesV p w=L at *
    obtain ⟨L1,L2⟩:=L
    dsimp only at c5 hpl hp1 hp2
    subst hp1
    generalize takeV p w=m at *
    generalize followV p ctx w=F at *
    obtain ⟨⟨n,f⟩,ok⟩:=F
    dsimp only at *
    generalize (anaV p)=r at *
    have y1:((w.turns.length:Int) != (w.turns.length:Int))=false:=by simp
    have y2:¬ n > (w.steps.length:Int):=by omega
    simp only [go_sem,Zaa]
    refine Zal c3 rfl ?_
    simp only [go_sem,Zaa]
    refine Zal c4 rfl ?_
    simp only [go_sem,Zaa]
    refine Zal c5 (Zdv ZaY rfl) ?_
    simp only [go_sem,Zaa,y1,y2]
    have lp:(∀ k∈L1,0≤k∧k≤7)∧L1.length≤42:=⟨hp2,by omega⟩
    have n0:¬ (0:Int) > 0:=by decide
    have tail:(m=false→(n == (w.steps.length:Int))=true→¬ r.bad.length=0):=by
     intro h1 h2 h3
     have:=hall h3 (by simpa using h2)
     rw [h1] at this;cases this
    cases m with
    | true =>
     obtain rfl:=hfree rfl
     simp only [go_sem,n0,Zaa]
     refine ZaI (α:=Nat) (fun k s' M'=>k≤L1.length∧s' 131=aI k∧M'.m 960=some (.box 832 (.agg [.dat none (.sl 1 (w.steps.map Ii)),.dat none (.sl 1 (w.turns.map Bb))]))) (fun k=>L1.length - k) 0 ⟨Nat.zero_le _,by simp only [go_sem];try rfl,by simp only [go_sem];try rfl⟩ ?_
     rintro k s' M' ⟨hk,g131,mb⟩ ho
     unfold laws_FnTaken.b0
     have j1:s' 1=.dat none (.sl 1 (more.map Ub)):=by rw [ho 1 rfl];simp only [go_sem]
     have j5:s' 5=.dat none (steps p):=by rw [ho 5 rfl];simp only [go_sem]
     have j7:s' 7=.ptr 960 832 0 none:=by rw [ho 7 rfl];simp only [go_sem]
     have j8:s' 8=aI n:=by rw [ho 8 rfl];simp only [go_sem]
     have j14:s' 14=aB true:=by rw [ho 14 rfl];simp only [go_sem]
     have j129:s' 129=.dat none (ints L1):=by rw [ho 129 rfl];simp only [go_sem]
     have j130:s' 130=aI L1.length:=by rw [ho 130 rfl];simp only [go_sem]
     clear ho
     by_cases hlt:k < L1.length
     · have hi':(k:Int) < L1.length:=by omega
       have ga:L1[k]? = some L1[k]:=List.getElem?_eq_getElem hlt
       have hw:IntKind.i64.wrap (k+1)=((k+1:Nat):Int):=Zbc hlt (by omega)
       have h07:=lp.1 L1[k] (List.getElem_mem hlt)
       generalize L1[k]=y at ga h07
       have h0:¬ y < 0:=by omega
       have h7:¬ y > 7:=by omega
       simp only [go_sem,hi',ga,h0,h7,hw,j1,j5,j7,j8,j14,j129,j130,g131,mb]
       exact ⟨k+1,by dsimp only;omega,by omega,by simp only [go_sem,j1,j5,j7,j8,j14,j129,j130,g131,mb],by simp only [go_sem,j1,j5,j7,j8,j14,j129,j130,g131,mb]⟩
     · obtain rfl:k=L1.length:=by omega
       simp only [go_sem,Int.lt_irrefl,j1,j5,j7,j8,j14,j129,j130,g131,mb]
       refine Zal c6 (Zdv Zf8 rfl) ?_
       simp only [go_sem,Zaa,j1,j5,j7,j8,j14,j129,j130,g131,mb]
       cases e1:(n == (w.steps.length:Int)) with
       | false=>simp only [go_sem,e1,j1,j5,j7,j8,j14,j129,j130,g131,mb]
       | true =>
        simp only [go_sem,e1,j1,j5,j7,j8,j14,j129,j130,g131,mb]
        cases e3:((r.bad.length:Int) == 0) with
        | false=>simp only [go_sem,e3,j1,j5,j7,j8,j14,j129,j130,g131,mb]
        | true =>
         simp only [go_sem,e3,j1,j5,j7,j8,j14,j129,j130,g131,mb]
    | false =>
     simp only [go_sem,n0,Zaa]
     refine ZaI (α:=Nat) (fun k s' M'=>k≤L1.length∧s' 131=aI k∧M'.m 960=some (.box 832 (.agg [.dat none (.sl 1 (w.steps.map Ii)),.dat none (.sl 1 (w.turns.map Bb))]))) (fun k=>L1.length - k) 0 ⟨Nat.zero_le _,by simp only [go_sem];try rfl,by simp only [go_sem];try rfl⟩ ?_
     rintro k s' M' ⟨hk,g131,mb⟩ ho
     unfold laws_FnTaken.b0
     have j1:s' 1=.dat none (.sl 1 (more.map Ub)):=by rw [ho 1 rfl];simp only [go_sem]
     have j5:s' 5=.dat none (steps p):=by rw [ho 5 rfl];simp only [go_sem]
     have j7:s' 7=.ptr 960 832 0 none:=by rw [ho 7 rfl];simp only [go_sem]
     have j8:s' 8=aI n:=by rw [ho 8 rfl];simp only [go_sem]
     have j14:s' 14=aB false:=by rw [ho 14 rfl];simp only [go_sem]
     have j129:s' 129=.dat none (ints L1):=by rw [ho 129 rfl];simp only [go_sem]
     have j130:s' 130=aI L1.length:=by rw [ho 130 rfl];simp only [go_sem]
     clear ho
     by_cases hlt:k < L1.length
     · have hi':(k:Int) < L1.length:=by omega
       have ga:L1[k]? = some L1[k]:=List.getElem?_eq_getElem hlt
       have hw:IntKind.i64.wrap (k+1)=((k+1:Nat):Int):=Zbc hlt (by omega)
       have h07:=lp.1 L1[k] (List.getElem_mem hlt)
       generalize L1[k]=y at ga h07
       have h0:¬ y < 0:=by omega
       have h7:¬ y > 7:=by omega
       simp only [go_sem,hi',ga,h0,h7,hw,j1,j5,j7,j8,j14,j129,j130,g131,mb]
       exact ⟨k+1,by dsimp only;omega,by omega,by simp only [go_sem,j1,j5,j7,j8,j14,j129,j130,g131,mb],by simp only [go_sem,j1,j5,j7,j8,j14,j129,j130,g131,mb]⟩
     · obtain rfl:k=L1.length:=by omega
       simp only [go_sem,Int.lt_irrefl,j1,j5,j7,j8,j14,j129,j130,g131,mb]
       refine Zal c6 (Zdv Zf8 rfl) ?_
       simp only [go_sem,Zaa,j1,j5,j7,j8,j14,j129,j130,g131,mb]
       cases e1:(n == (w.steps.length:Int)) with
       | false=>simp only [go_sem,e1,j1,j5,j7,j8,j14,j129,j130,g131,mb]
       | true =>
        simp only [go_sem,e1,j1,j5,j7,j8,j14,j129,j130,g131,mb]
        cases e3:((r.bad.length:Int) == 0) with
        | false=>simp only [go_sem,e3,j1,j5,j7,j8,j14,j129,j130,g131,mb]
        | true =>
         exact absurd (by simpa using e3) (tail rfl e1)
 rintro e2 s' M' rfl ho
 have j1:s' 1=.dat none (.sl 1 (more.map Ub)):=by rw [ho 1 rfl];simp only [go_sem]
 clear ho
 simp only [go_sem,Zaa,j1]
 refine ZiI d2 ?_
 simp only [go_sem,Zaa,j1]
 refine Zal q1 rfl ?_
 simp only [go_sem,Zaa,j1]
 refine Zal q2 rfl ?_
 simp only [go_sem,Zaa,j1]
 refine Zal q3 rfl ?_
 simp only [go_sem,Zaa,j1]
 refine Zal q4 rfl ?_
 simp only [go_sem,Zaa,j1]
 refine Zal q5 (Zdv ZaY rfl) ?_
 simp only [go_sem,Zaa,j1]
 refine Zal q6 (Zdv ZaY rfl) ?_
 simp only [go_sem,Zaa,v1,v2,v3,v4,v5,j1]
 refine Zap z1 ?_
 simp only [go_sem,Zaa,v5,j1]
 refine Zap q7 ?_
 simp only [go_sem,Zaa,j1]
 refine Zap q8 ?_
 simp only [go_sem,v2,j1];try rfl
theorem hasByte {d:D} (h:HasTy (.int .u8) d):∃ n:Int,d=.int .u8 n∧(0≤n∧n≤255):=by
 simp only [HasTy] at h
 obtain ⟨n,rfl,h⟩:=h
 refine ⟨n,rfl,?_⟩
 simp [Lit.wf,IntKind.has,IntKind.min,IntKind.max,IntKind.signed,IntKind.bits] at h
 exact ⟨by omega,by omega⟩
theorem hasBytes {d:D} (h:HasTy (.sl (.int .u8)) d):∃ l:List Int,d=.sl 1 (l.map (fun n=>(.int .u8 n:D)))∧l.length≤9223372036854775807∧∀ b∈l,0≤b∧b≤255 :=
 hasSl (f:=fun n=>(.int .u8 n:D)) (p:=fun b=>0≤b∧b≤255) (fun _ h=>hasByte h) h
end Go.Vm.YtmbhjcgikblpiaaGreat
