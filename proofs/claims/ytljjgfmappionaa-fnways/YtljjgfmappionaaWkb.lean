/- What the functions that the law reaches return: part 2 (the conditions stand at each). -/
import Derived.Test.YtljjgfmappionaaWka
open Int renaming reduceEq → iQ, reduceBEq → iB, reduceBNe → iX, reduceNeg → iN, reduceAdd → iA, reduceSub → iS, reduceMul → iM
namespace Go.Vm.Ytljjgfmappionaa
open Go Go.Vm
set_option maxRecDepth 10000
set_option maxHeartbeats 16000000
set_option linter.unusedSimpArgs false
set_option linter.unusedVariables false
abbrev ways (l:List WayD):D:=.sl 2 (l.map WayD.d)
theorem noRs_ways {l:List WayD}:noRs (ways l)=true:=noRs_sl (by
 intro d hd
 obtain ⟨x,_,rfl⟩:=List.mem_map.1 hd
 exact noRs_Way)
def lastA (w:WayD):Int:=w.steps.getD (w.steps.length - 1) 0
def extW (w:WayD) (s:StepD) (i:Nat) (x:Int):WayD:=⟨w.steps++[x],if brB s then w.turns++[((i:Int) == 1)] else w.turns⟩
def foldW (f:Nat→Int→List WayD→List WayD):Nat→List Int→List WayD→List WayD
 | _,[],o=>o
 | i,x::l,o=>foldW f (i+1) l (f i x o)
def allF (p:List StepD):Nat→WayD→List WayD→List WayD
 | 0,_,out=>out
 | n+1,w,out=>if out.length > 64 then out else
  match p[(lastA w).toNat]? with
  | none=>out
  | some s=>if s.kind == 11 then out++[w] else foldW (fun i x o=>allF p n (extW w s i x) o) 0 (nextsL s (lastA w)) out
theorem allF_many {p:List StepD} {n:Nat} {w:WayD} {out:List WayD} (h:out.length > 64):allF p n w out=out:=by
 cases n with
 | zero=>rfl
 | succ n=>unfold allF;rw [if_pos h]
theorem foldW_many {f:Nat→Int→List WayD→List WayD} (hf:∀ i x o,o.length > 64→f i x o=o):∀ (l:List Int) (i:Nat) (o:List WayD),o.length > 64→foldW f i l o=o
 | [],_,_,_=>rfl
 | x::l,i,o,h=>by
  show foldW f (i+1) l (f i x o)=o
  rw [hf i x o h]
  exact foldW_many hf l _ _ h
theorem allF_end {p:List StepD} {n:Nat} {w:WayD} {out:List WayD} {s:StepD} (h:out.length≤64) (gs:p[(lastA w).toNat]? = some s) (hk:(s.kind == 11)=true):allF p (n+1) w out=out++[w]:=by
 rw [allF,if_neg (by omega),gs]
 show (if (s.kind == 11)=true then _ else _)=_
 rw [if_pos hk]
theorem allF_step {p:List StepD} {n:Nat} {w:WayD} {out:List WayD} {s:StepD} (h:out.length≤64) (gs:p[(lastA w).toNat]? = some s) (hk:(s.kind == 11)=false) :
 allF p (n+1) w out=foldW (fun i x o=>allF p n (extW w s i x) o) 0 (nextsL s (lastA w)) out:=by
 rw [allF,if_neg (by omega),gs]
 show (if (s.kind == 11)=true then _ else _)=_
 rw [if_neg (by rw [hk];decide)]
theorem foldW_le {f:Nat→Int→List WayD→List WayD} {b:Nat} (hf:∀ i x o,o.length≤b→(f i x o).length≤b):∀ (l:List Int) (i:Nat) (o:List WayD),o.length≤b→(foldW f i l o).length≤b
 | [],_,_,h=>h
 | x::l,i,o,h=>foldW_le hf l _ _ (hf i x o h)
theorem allF_le {p:List StepD}:∀ (n:Nat) (w:WayD) (out:List WayD),out.length≤65→(allF p n w out).length≤65
 | 0,_,_,h=>h
 | n+1,w,out,h=>by
  by_cases h2:out.length > 64
  · rw [allF_many h2];exact h
  · unfold allF
    rw [if_neg h2]
    split
    · exact h
    · split
      · rw [List.length_append];simp;omega
      · exact foldW_le (fun i x o ho=>allF_le n _ o ho) _ _ _ h
structure OnWay (p:List StepD) (w:WayD) (n:Nat):Prop where
 l0:1≤w.steps.length
 l1:w.steps.length+n≤21
 l2:w.turns.length≤w.steps.length
 a0:0≤lastA w
 a1:lastA w < p.length
 a2:(p.length:Int)≤lastA w+n
theorem lastA_ext (w:WayD) (s:StepD) (i:Nat) (x:Int):lastA (extW w s i x)=x:=by
 unfold lastA extW
 simp
theorem nextsL_gt {p:List StepD} {a:Int} {s:StepD} (hp:ProgOk p) (ha:0≤a) (gs:p[a.toNat]? = some s) {x:Int} (h:x∈nextsL s a):a < x:=by
 obtain ⟨hi,rfl⟩:=List.getElem?_eq_some_iff.1 gs
 obtain ⟨hv,ht⟩:=hp.all _ hi
 have hto:=(step_ok hv).to
 unfold nextsL at h
 split at h
 · cases h
 · split at h
   · rw [List.mem_singleton] at h;omega
   · split at h
     · simp only [List.mem_cons,List.not_mem_nil,or_false] at h;omega
     · split at h
       · simp only [List.mem_cons,List.not_mem_nil,or_false] at h;omega
       · rw [List.mem_singleton] at h;omega
theorem on_next {p:List StepD} {w:WayD} {n:Nat} {s:StepD} (hp:ProgOk p) (h:OnWay p w (n+1)) (gs:p[(lastA w).toNat]? = some s) {i:Nat} {x:Int} (hx:x∈nextsL s (lastA w)):OnWay p (extW w s i x) n:=by
 obtain ⟨l0,l1,l2,a0,a1,a2⟩:=h
 have hgt:=nextsL_gt hp a0 gs hx
 have hin:=next_in (b:=x) hp a0 gs (List.any_eq_true.2 ⟨x,hx,by simp⟩)
 refine ⟨?_,?_,?_,?_,?_,?_⟩
 · unfold extW;simp
 · unfold extW;simp;omega
 · unfold extW;split<;>simp<;>omega
 · rw [lastA_ext];exact hin.1
 · rw [lastA_ext];exact hin.2
 · rw [lastA_ext];omega
theorem slices_Clone__sbool_bool.fc2 (l:List Bool) (hl:l.length≤4294967296):FCt prog F_slices_Clone__sbool_bool [.ro] [bools l] (bools l) []:=by
 refine fct_run slices_Clone__sbool_bool.ok rfl ?_
 have hsc:(l.map Bb).all isSc=true:=by rw [List.all_eq_true];intro d hd;obtain ⟨x,_,rfl⟩:=List.mem_map.1 hd;rfl
 cases l with
 | nil=>simp only [go_sem,List.length_nil,List.map_nil,List.all_nil];try rfl
 | cons b l =>
  have hb:(l.length+1) * 1≤70368744177664:=by simp only [List.length_cons] at hl;omega
  have htk:(l.map Bb).take l.length=l.map Bb:=List.take_of_length_le (by simp)
  simp only [List.map_cons,List.all_cons,Bool.and_eq_true] at hsc
  have h1:=hsc.1
  have h2:=hsc.2
  simp only [go_sem,h1,h2,hb,Nat.zero_le,htk]
  try rfl
theorem noRsL_ways {l:List WayD}:noRsL [.ptr (ways l)]=true:=by
 show (noRs (ways l)&&true)=true
 rw [Bool.and_true]
 exact noRs_ways
theorem impl_ways.fc (p:List StepD) (hp:ProgOk p):∀ (n:Nat) (w:WayD) (out:List WayD),OnWay p w n→out.length≤64 →
 FCt prog F_impl_ways [.ro,.co,.io] [steps p,w.d,.ptr (ways out)] (Bb (decide ((allF p n w out).length≤64))) [.ptr (ways (allF p n w out))]
 | 0,w,out,h,ho=>by have:=h.a1;have:=h.a2;omega
 | n+1,w,out,h,hout=>by
  refine fct_run impl_ways.ok rfl ?_
  have ih:=fun (w:WayD) (out:List WayD)=>impl_ways.fc p hp n w out
  obtain ⟨l0,l1,l2,a0,a1,a2⟩:=h
  have hi:(lastA w).toNat < p.length:=by omega
  have gs:p[(lastA w).toNat]? = some p[(lastA w).toNat]:=List.getElem?_eq_getElem hi
  have hv:=(hp.all _ hi).1
  have hnx:=fun i x (hx:x∈nextsL p[(lastA w).toNat] (lastA w))=>on_next (i:=i) hp ⟨l0,l1,l2,a0,a1,a2⟩ gs hx
  generalize p[(lastA w).toNat]=s at gs hv hnx
  have cn:=impl_nexts.fc p (lastA w) s a0 a1 hp.len.2 gs hv
  have cb:=impl_Step_branches.fc s
  have hend:=allF_end (n:=n) (w:=w) hout gs
  have hstep:=allF_step (n:=n) (w:=w) hout gs
  have hlast:w.steps[w.steps.length - 1]? = some (lastA w):=by
   unfold lastA
   rw [List.getD_eq_getElem?_getD,List.getElem?_eq_getElem (by omega)];rfl
  have wl1:IntKind.i64.wrap ((w.steps.length:Int) - 1)=((w.steps.length - 1:Nat):Int):=by rw [wrap_in (by omega) (by omega)];omega
  have wl2:((w.steps.length - 1:Nat):Int) < w.steps.length:=by omega
  obtain ⟨st,tu⟩:=w
  dsimp only at l0 l1 l2 hlast wl1 wl2
  generalize hA:lastA ⟨st,tu⟩=at' at *
  simp only [go_sem,wl1,wl2,hlast]
  refine fcW_bd cn noRs_ints ?_
  have hnil:(s.kind == 11)=decide (nextsL s at'=[]):=by
   unfold nextsL
   cases hk:(s.kind == 11)<;>simp
   repeat' split
   all_goals simp
  cases hk:(s.kind == 11) with
  | true =>
   rw [hend hk]
   have hn0:nextsL s at'=[]:=by rw [hk] at hnil;simpa using hnil.symm
   rw [hn0]
   have hbb:(out.length+1) * 48≤70368744177664:=by omega
   have hsn:out.map WayD.d++[WayD.d ⟨st,tu⟩]=(out++[WayD.mk st tu]).map WayD.d:=by simp
   have z0:(((0:Nat):Int) == 0)=true:=rfl
   have el:(out++[WayD.mk st tu]).length=out.length+1:=by simp
   have tk:((out++[WayD.mk st tu]).map WayD.d).take (out.length+1)=(out++[WayD.mk st tu]).map WayD.d:=List.take_of_length_le (by simp)
   have dd:decide (((out.length+1:Nat):Int)≤64)=decide (out.length+1≤64):=by rw [decide_eq_decide];omega
   simp only [go_sem,z0,hbb,take_map_len,hsn,el,tk,dd,Nat.le_refl]
  | false =>
   rw [hstep hk]
   have hne:nextsL s at'≠[]:=by intro e;rw [hk,e] at hnil;simp at hnil
   have hlen:(nextsL s at').length≤2:=by
    unfold nextsL
    repeat' split
    all_goals simp
   generalize hN:nextsL s at'=N at hne hlen hnx ⊢
   have z0:((N.length:Int) == 0)=false:=by
    rw [beq_eq_false_iff_ne]
    have:N.length≠0:=by intro e;exact hne (List.length_eq_zero_iff.1 e)
    omega
   simp only [go_sem,z0]
   generalize hf:(fun i x o=>allF p n (extW ⟨st,tu⟩ s i x) o)=f
   have hf':∀ i x o,f i x o=allF p n (extW ⟨st,tu⟩ s i x) o:=fun i x o=>by rw [← hf]
   refine R_loop (α:=Nat×List WayD) (fun a s' M'=>a.1≤N.length∧s' 41=aI a.1∧a.2.length≤64∧foldW f 0 N out=foldW f a.1 (N.drop a.1) a.2 ∧
    (∃ u,s' 39=.sl 896 u 0 N.length 1∧M'.m 896=some (.arr u true 1 (N.map Ii))) ∧
    (∃ v v0 v1,M'.m 64=some (.box v (.agg [.sl 0 v0 0 st.length 1,.sl 1 v1 0 tu.length 1]))∧s' 4=.ptr 64 v 0 none∧M'.m 0=some (.arr v0 true 1 (st.map Ii))∧M'.m 1=some (.arr v1 true 1 (tu.map Bb))) ∧
    (∃ nm w,M'.m 2=some (.box 2 (.sl nm w 0 a.2.length 2))∧s' 2=.ptr 2 2 0 none∧M'.m nm=some (.arr w true 2 (a.2.map WayD.d))∧(nm=3∨nm=4544))) (fun a=>N.length - a.1) (0,out)
    ⟨by simp,by simp only [go_sem];rfl,hout,rfl,⟨_,by simp only [go_sem];try rfl,by simp only [go_sem];try rfl⟩,⟨_,_,_,by simp only [go_sem];try rfl,by simp only [go_sem];try rfl,by simp only [go_sem];try rfl,by simp only [go_sem];try rfl⟩,⟨3,_,by simp only [go_sem];try rfl,by simp only [go_sem];try rfl,by simp only [go_sem];try rfl,.inl rfl⟩⟩ ?_
   rintro ⟨k,o⟩ s' M' ⟨hk',h41,ho64,hfold,⟨u,h39,hmN⟩,⟨v,v0,v1,hb64,h4,hm0,hm1⟩,⟨nm,vw,hb2,h2,hmo,hnm⟩⟩ ho
   dsimp only at hk' h41 ho64 hfold hb2 hmo
   unfold impl_ways.b0
   have j0:s' 0=.dat none (steps p):=by rw [ho 0 rfl];simp only [go_sem]
   have j7:s' 7=aI at':=by rw [ho 7 rfl];simp only [go_sem]
   have j40:s' 40=aI N.length:=by rw [ho 40 rfl];simp only [go_sem]
   clear ho
   by_cases hlt:k < N.length
   · have hi':(k:Int) < N.length:=by omega
     have ga:N[k]? = some N[k]:=List.getElem?_eq_getElem hlt
     have hw:IntKind.i64.wrap (k+1)=((k+1:Nat):Int):=wrap_k hlt (by omega)
     have hd:N.drop k=N[k]::N.drop (k+1):=List.drop_eq_getElem_cons hlt
     have hx:=hnx k N[k] (List.getElem_mem hlt)
     rw [hd] at hfold
     generalize N[k]=x at ga hx hfold
     have b1:(st.length+1) * 8≤70368744177664:=by omega
     have b2:(tu.length+1) * 1≤70368744177664:=by omega
     have sn:st.map Ii++[Ii x]=(st++[x]).map Ii:=by simp
     simp only [go_sem,hi',ga,take_map_len,j0,j7,j40,h41,h39,hmN,hb64,h4,hm0,hm1,hb2,h2,hmo]
     refine fcW_bd (slices_Clone__sint_int.fc st (by omega)) noRs_ints ?_
     simp only [go_sem,hi',ga,take_map_len,b1,sn,j0,j7,j40,h41,h39,hmN,hb64,h4,hm0,hm1,hb2,h2,hmo]
     refine fcW_bd (slices_Clone__sbool_bool.fc2 tu (by omega)) noRs_bools ?_
     have p1:=hp.len.2
     have q1:at' < p.length:=a1
     simp only [go_sem,take_map_len,a0,q1,gs,j0,j7,j40,h41,h39,hmN,hb64,h4,hm0,hm1,hb2,h2,hmo]
     refine fcW_bool cb ?_
     cases hbr:brB s with
     | true =>
      have el1:(st++[x]).length=st.length+1:=by simp
      have tk1:((st++[x]).map Ii).take (st.length+1)=(st++[x]).map Ii:=List.take_of_length_le (by simp)
      have sn2:tu.map Bb++[Bb ((k:Int) == 1)]=(tu++[((k:Int) == 1)]).map Bb:=by simp
      have el2:(tu++[((k:Int) == 1)]).length=tu.length+1:=by simp
      have tk2:((tu++[((k:Int) == 1)]).map Bb).take (tu.length+1)=(tu++[((k:Int) == 1)]).map Bb:=List.take_of_length_le (by simp)
      have eW:extW ⟨st,tu⟩ s k x=⟨st++[x],tu++[((k:Int) == 1)]⟩:=by unfold extW;rw [hbr];rfl
      have ihc:=ih (extW ⟨st,tu⟩ s k x) o hx ho64
      have hO65:=allF_le (p:=p) n (extW ⟨st,tu⟩ s k x) o (by omega)
      have hfk:f k x o=allF p n (extW ⟨st,tu⟩ s k x) o:=hf' k x o
      have hfold2:foldW f 0 N out=foldW f (k+1) (N.drop (k+1)) (allF p n (extW ⟨st,tu⟩ s k x) o):=by rw [hfold,← hfk];rfl
      have hmany:(allF p n (extW ⟨st,tu⟩ s k x) o).length > 64→foldW f 0 N out=allF p n (extW ⟨st,tu⟩ s k x) o:=fun h=>by
       rw [hfold2]
       exact foldW_many (fun i x o ho=>by rw [hf'];exact allF_many ho) _ _ _ h
      rw [eW] at ihc
      rw [eW] at hO65 hfold2 hmany
      generalize hOq:allF p n ⟨st++[x],tu++[((k:Int) == 1)]⟩ o=O at ihc hO65 hfold2 hmany
      rcases hnm with rfl|rfl <;>
      · simp only [go_sem,b2,take_map_len,sn2,el1,el2,tk1,tk2,Nat.le_refl,j0,j7,j40,h41,h39,hmN,hb64,h4,hm0,hm1,hb2,h2,hmo]
        refine coW_of ihc rfl noRsL_ways ?_
        cases hq:decide (O.length≤64) with
        | true =>
         have hq64:O.length≤64:=by simpa using hq
         simp only [go_sem,hq,hw,j0,j7,j40,h41,h39,hmN,hb64,h4,hm0,hm1,hb2,h2,hmo]
         exact ⟨(k+1,O),by dsimp only;omega,by dsimp only;omega,by simp only [go_sem,j0,j7,j40,h41,h39,hmN,hb64,h4,hm0,hm1,hb2,h2,hmo],hq64,hfold2,⟨u,by simp only [go_sem,j0,j7,j40,h41,h39,hmN,hb64,h4,hm0,hm1,hb2,h2,hmo],by simp only [go_sem,j0,j7,j40,h41,h39,hmN,hb64,h4,hm0,hm1,hb2,h2,hmo]⟩,⟨v,v0,v1,by simp only [go_sem,j0,j7,j40,h41,h39,hmN,hb64,h4,hm0,hm1,hb2,h2,hmo],by simp only [go_sem,j0,j7,j40,h41,h39,hmN,hb64,h4,hm0,hm1,hb2,h2,hmo],by simp only [go_sem,j0,j7,j40,h41,h39,hmN,hb64,h4,hm0,hm1,hb2,h2,hmo],by simp only [go_sem,j0,j7,j40,h41,h39,hmN,hb64,h4,hm0,hm1,hb2,h2,hmo]⟩,⟨4544,_,by simp only [go_sem,j0,j7,j40,h41,h39,hmN,hb64,h4,hm0,hm1,hb2,h2,hmo];try rfl,by simp only [go_sem,j0,j7,j40,h41,h39,hmN,hb64,h4,hm0,hm1,hb2,h2,hmo];try rfl,by simp only [go_sem,j0,j7,j40,h41,h39,hmN,hb64,h4,hm0,hm1,hb2,h2,hmo];try rfl,.inr rfl⟩⟩
        | false =>
         have hq64:O.length > 64:=by simpa using hq
         rw [hmany hq64]
         simp only [go_sem,hq,take_map_len,j0,j7,j40,h41,h39,hmN,hb64,h4,hm0,hm1,hb2,h2,hmo]
     | false =>
      have el1:(st++[x]).length=st.length+1:=by simp
      have tk1:((st++[x]).map Ii).take (st.length+1)=(st++[x]).map Ii:=List.take_of_length_le (by simp)
      have eW:extW ⟨st,tu⟩ s k x=⟨st++[x],tu⟩:=by unfold extW;rw [hbr];rfl
      have ihc:=ih (extW ⟨st,tu⟩ s k x) o hx ho64
      have hO65:=allF_le (p:=p) n (extW ⟨st,tu⟩ s k x) o (by omega)
      have hfk:f k x o=allF p n (extW ⟨st,tu⟩ s k x) o:=hf' k x o
      have hfold2:foldW f 0 N out=foldW f (k+1) (N.drop (k+1)) (allF p n (extW ⟨st,tu⟩ s k x) o):=by rw [hfold,← hfk];rfl
      have hmany:(allF p n (extW ⟨st,tu⟩ s k x) o).length > 64→foldW f 0 N out=allF p n (extW ⟨st,tu⟩ s k x) o:=fun h=>by
       rw [hfold2]
       exact foldW_many (fun i x o ho=>by rw [hf'];exact allF_many ho) _ _ _ h
      rw [eW] at ihc
      rw [eW] at hO65 hfold2 hmany
      generalize hOq:allF p n ⟨st++[x],tu⟩ o=O at ihc hO65 hfold2 hmany
      rcases hnm with rfl|rfl <;>
      · simp only [go_sem,b2,take_map_len,el1,tk1,Nat.le_refl,j0,j7,j40,h41,h39,hmN,hb64,h4,hm0,hm1,hb2,h2,hmo]
        refine coW_of ihc rfl noRsL_ways ?_
        cases hq:decide (O.length≤64) with
        | true =>
         have hq64:O.length≤64:=by simpa using hq
         simp only [go_sem,hq,hw,j0,j7,j40,h41,h39,hmN,hb64,h4,hm0,hm1,hb2,h2,hmo]
         exact ⟨(k+1,O),by dsimp only;omega,by dsimp only;omega,by simp only [go_sem,j0,j7,j40,h41,h39,hmN,hb64,h4,hm0,hm1,hb2,h2,hmo],hq64,hfold2,⟨u,by simp only [go_sem,j0,j7,j40,h41,h39,hmN,hb64,h4,hm0,hm1,hb2,h2,hmo],by simp only [go_sem,j0,j7,j40,h41,h39,hmN,hb64,h4,hm0,hm1,hb2,h2,hmo]⟩,⟨v,v0,v1,by simp only [go_sem,j0,j7,j40,h41,h39,hmN,hb64,h4,hm0,hm1,hb2,h2,hmo],by simp only [go_sem,j0,j7,j40,h41,h39,hmN,hb64,h4,hm0,hm1,hb2,h2,hmo],by simp only [go_sem,j0,j7,j40,h41,h39,hmN,hb64,h4,hm0,hm1,hb2,h2,hmo],by simp only [go_sem,j0,j7,j40,h41,h39,hmN,hb64,h4,hm0,hm1,hb2,h2,hmo]⟩,⟨4544,_,by simp only [go_sem,j0,j7,j40,h41,h39,hmN,hb64,h4,hm0,hm1,hb2,h2,hmo];try rfl,by simp only [go_sem,j0,j7,j40,h41,h39,hmN,hb64,h4,hm0,hm1,hb2,h2,hmo];try rfl,by simp only [go_sem,j0,j7,j40,h41,h39,hmN,hb64,h4,hm0,hm1,hb2,h2,hmo];try rfl,.inr rfl⟩⟩
        | false =>
         have hq64:O.length > 64:=by simpa using hq
         rw [hmany hq64]
         simp only [go_sem,hq,take_map_len,j0,j7,j40,h41,h39,hmN,hb64,h4,hm0,hm1,hb2,h2,hmo]
   · have hi':¬ (k:Int) < N.length:=by omega
     obtain rfl:k=N.length:=by omega
     have hd0:N.drop N.length=[]:=List.drop_eq_nil_of_le (Nat.le_refl _)
     rw [hd0] at hfold
     have hfin:foldW f 0 N out=o:=hfold
     rw [hfin]
     have hdt:decide (o.length≤64)=true:=by simpa using ho64
     rcases hnm with rfl|rfl<;>simp only [go_sem,Int.lt_irrefl,hdt,take_map_len,j0,j7,j40,h41,h39,hmN,hb64,h4,hm0,hm1,hb2,h2,hmo]
def w0:WayD:=⟨[0],[]⟩
theorem w0_on {p:List StepD} (hp:ProgOk p):OnWay p w0 p.length:=by
 have h1:=hp.len.1
 have h2:=hp.len.2
 have e:lastA w0=0:=rfl
 refine ⟨by simp [w0],?_,by simp [w0],by rw [e];omega,by rw [e];omega,by rw [e];omega⟩
 show 1+p.length≤21
 omega
def waysV (p:List StepD):List WayD×Bool:=if goodP p&&decide ((allF p p.length w0 []).length≤64) then (allF p p.length w0 [],true) else ([],false)
theorem impl_WaysThrough.fc (p:List StepD) (hpl:p.length≤4194304):FCt prog F_impl_WaysThrough [.ro] [steps p] (.tup [ways (waysV p).1,Bb (waysV p).2]) []:=by
 refine fct_run impl_WaysThrough.ok rfl ?_
 unfold waysV
 simp only [go_sem]
 refine fcW_bool (impl_GoodProgram.fc p hpl) ?_
 cases hg:goodP p with
 | false=>simp only [go_sem];try rfl
 | true =>
  have hp:=prog_ok hg
  have c:=impl_ways.fc p hp p.length w0 [] (w0_on hp) (by simp)
  generalize allF p p.length w0 []=O at c ⊢
  simp only [go_sem]
  refine coW_of c rfl noRsL_ways ?_
  cases hq:decide (O.length≤64) with
  | false=>simp only [go_sem,hq];try rfl
  | true=>simp only [go_sem,hq,take_map_len];try rfl
set_option maxHeartbeats 4000000
theorem getD_set_ne {α:Type} {l:List α} {i k:Nat} {x d:α} (h:k≠i):(l.set i x).getD k d=l.getD k d:=by
 simp only [List.getD_eq_getElem?_getD,List.getElem?_set_ne (Ne.symm h)]
structure StLaw (s:StepD) (m:MachD) (r:MachD×Int×Bool):Prop where
 en:r.2.2=(s.kind == 11)
 nx:r.2.2=false→(nextsL s m.pc).any (· == r.1.pc)=true
 rg:∀ k:Nat,(k:Int)≠s.dst→r.1.regs.getD k 0=m.regs.getD k 0
 cl:∀ k:Nat,s.kind≠7∨(k:Int)≠s.imm→r.1.cells.getD k 0=m.cells.getD k 0∧r.1.isset.getD k false=m.isset.getD k false
theorem step_law {s:StepD} {ctx:List Int} {m:MachD} (ok:StepOk s) (kd:s.kind=1∨s.kind=2∨s.kind=3∨s.kind=4∨s.kind=5∨s.kind=6∨s.kind=7∨s.kind=8∨s.kind=9∨s.kind=10∨s.kind=11) (h:(stepM s ctx m).2.1=0):StLaw s m (stepM s ctx m):=by
 have hd:=ok.dst
 have hi:=ok.imm
 have h0:=hi.1
 have key:∀ (c:Prop) [Decidable c] (a b:MachD×Int×Bool),(c→a.2.1=0→StLaw s m a)→(¬ c→b.2.1=0→StLaw s m b)→(if c then a else b).2.1=0→StLaw s m (if c then a else b):=by
  intro c _ a b ha hb;split
  · rename_i h;exact ha h
  · rename_i h;exact hb h
 have kR:∀ n:Int,s.kind≠11→s.kind≠8→s.kind≠9→s.kind≠10→StLaw s m (setR m s.dst n,(0:Int),false):=fun n k1 k2 k3 k4=>by
  refine ⟨?_,fun _=>?_,fun k hk=>?_,fun k _=>⟨rfl,rfl⟩⟩
  · show false=(s.kind == 11);simp [k1]
  · simp [nextsL,k1,k2,k3,k4,setR]
  · exact getD_set_ne (by omega)
 have kC:∀ n:Int,s.kind=7→StLaw s m (setC m s.imm n,(0:Int),false):=fun n k1=>by
  refine ⟨?_,fun _=>?_,fun k hk=>rfl,fun k hk=>?_⟩
  · show false=(s.kind == 11);simp [k1]
  · simp [nextsL,k1,setC]
  · rcases hk with hk|hk
    · exact absurd k1 hk
    · exact ⟨getD_set_ne (by omega),getD_set_ne (by omega)⟩
 have kP:∀ n:Int,s.kind≠11→(nextsL s m.pc).any (· == n)=true→StLaw s m (setP m n,(0:Int),false):=fun n k1 k2=>by
  refine ⟨?_,fun _=>k2,fun k hk=>rfl,fun k _=>⟨rfl,rfl⟩⟩
  show false=(s.kind == 11);simp [k1]
 have kF:∀ (f:Int) (e:Bool),f≠0→f=0→StLaw s m (m,f,e):=fun f e hf h=>absurd h hf
 have kE:s.kind=11→StLaw s m (m,(0:Int),true):=fun k1=>by
  refine ⟨?_,fun h=>by (cases h),fun k hk=>rfl,fun k _=>⟨rfl,rfl⟩⟩
  show true=(s.kind == 11);simp [k1]
 revert h
 unfold stepM
 rcases kd with e|e|e|e|e|e|e|e|e|e|e<;>simp only [e,iB,if_true,if_false,Bool.false_eq_true,↓reduceIte]<;>(try rw [e] at kR kC kP kE)<;>(try simp only [e] at kR kC kP kE)
 · exact fun _=>kR _ (by omega) (by omega) (by omega) (by omega)
 · exact fun _=>kR _ (by omega) (by omega) (by omega) (by omega)
 · exact fun _=>kR _ (by omega) (by omega) (by omega) (by omega)
 · exact fun _=>kR _ (by omega) (by omega) (by omega) (by omega)
 · exact key _ _ _ (fun _=>kF 1 _ (by decide)) fun _ _=>kR _ (by omega) (by omega) (by omega) (by omega)
 · exact key _ _ _ (fun _=>kF 2 _ (by decide)) fun _=>key _ _ _ (fun _ _=>kR _ (by omega) (by omega) (by omega) (by omega)) fun _=>kF 3 _ (by decide)
 · exact key _ _ _ (fun _=>kF 2 _ (by decide)) fun _ _=>kC _ trivial
 · exact fun _=>kP _ (by omega) (by simp [nextsL,e])
 · exact key _ _ _ (fun _ _=>kP _ (by omega) (by simp [nextsL,e])) fun _ _=>kP _ (by omega) (by simp [nextsL,e])
 · exact key _ _ _ (fun _ _=>kP _ (by omega) (by simp [nextsL,e])) fun _ _=>kP _ (by omega) (by simp [nextsL,e])
 · exact fun _=>kE trivial
def wy (p:List StepD) (l:List Int):WayD:=⟨l,turnsR p l⟩
def tl (p:List StepD):Nat→Int→List (List Int)
 | 0,_=>[]
 | n+1,a=>match p[a.toNat]? with
  | none=>[]
  | some s=>if s.kind == 11 then [[a]] else ((nextsL s a).flatMap fun k=>tl p n k).map (a::·)
theorem tl_none {p:List StepD} {n:Nat} {a:Int} (h:p[a.toNat]? = none):tl p n a=[]:=by
 cases n with
 | zero=>rfl
 | succ n=>rw [tl,h]
theorem tl_end {p:List StepD} {n:Nat} {a:Int} {s:StepD} (h:p[a.toNat]? = some s) (hk:(s.kind == 11)=true):tl p (n+1) a=[[a]]:=by
 rw [tl,h];show (if (s.kind == 11)=true then _ else _)=_;rw [if_pos hk]
theorem tl_step {p:List StepD} {n:Nat} {a:Int} {s:StepD} (h:p[a.toNat]? = some s) (hk:(s.kind == 11)=false):tl p (n+1) a=((nextsL s a).flatMap fun k=>tl p n k).map (a::·):=by
 rw [tl,h];show (if (s.kind == 11)=true then _ else _)=_;rw [if_neg (by rw [hk];decide)]
theorem turnsR_cons {p:List StepD} {a b:Int} {l:List Int}:turnsR p (a::b::l)=(match stepK p a with|some s=>if brB s then [b == a+s.to+1] else []|none=>[])++turnsR p (b::l):=by rw [turnsR];rfl
theorem turnsR_one {p:List StepD} {a:Int}:turnsR p [a]=[]:=by unfold turnsR;rfl
theorem turnsR_snoc {p:List StepD} {a x:Int} {s:StepD} (hk:stepK p a=some s):∀ pre:List Int,turnsR p (pre++[a,x])=turnsR p (pre++[a])++(if brB s then [x == a+s.to+1] else [])
 | []=>by
  show turnsR p [a,x]=turnsR p [a]++_
  rw [turnsR_cons,hk,turnsR_one,turnsR_one,List.append_nil,List.nil_append]
 | [b]=>by
  show turnsR p (b::a::[x])=turnsR p (b::a::[])++_
  rw [turnsR_cons,turnsR_cons (a:=b),List.append_assoc]
  have:=turnsR_snoc (x:=x) hk []
  rw [List.nil_append,List.nil_append] at this
  rw [this]
 | b::c::pre=>by
  show turnsR p (b::c::(pre++[a,x]))=turnsR p (b::c::(pre++[a]))++_
  rw [turnsR_cons,turnsR_cons (a:=b),List.append_assoc]
  have:=turnsR_snoc (x:=x) hk (c::pre)
  rw [List.cons_append,List.cons_append] at this
  rw [this]
theorem stepK_get {p:List StepD} {a:Int} {s:StepD} (h0:0≤a) (gs:p[a.toNat]? = some s):stepK p a=some s:=by unfold stepK;rw [if_pos h0,gs]
theorem next_turn {p:List StepD} (hp:ProgOk p) {s:StepD} {a x:Int} {i:Nat} (gs:p[a.toNat]? = some s) (hb:brB s=true) (h:(nextsL s a)[i]? = some x):(x == a+s.to+1)=((i:Int) == 1):=by
 obtain ⟨hi,rfl⟩:=List.getElem?_eq_some_iff.1 gs
 have ok:=step_ok (hp.all _ hi).1
 have hj:=ok.jmp
 have hk:p[a.toNat].kind=9∨p[a.toNat].kind=10:=by simpa [brB] using hb
 have ht:p[a.toNat].to > 0:=hj.2 (by omega)
 have hn:nextsL p[a.toNat] a=[a+1,a+p[a.toNat].to+1]:=by
  unfold nextsL
  rcases hk with hk|hk<;>rw [hk]<;>rfl
 rw [hn] at h
 match i,h with
 | 0,h =>
  have:a+1=x:=by simpa using h
  subst this
  rw [show ((0:Nat):Int)=0 from rfl,show ((0:Int) == 1)=false from rfl,beq_eq_false_iff_ne]
  omega
 | 1,h =>
  have:a+p[a.toNat].to+1=x:=by simpa using h
  subst this
  simp
 | n+2,h=>simp at h
theorem lastA_snoc {p:List StepD} {pre:List Int} {a:Int}:lastA (wy p (pre++[a]))=a:=by
 unfold lastA wy;simp
theorem foldW_ge {f:Nat→Int→List WayD→List WayD} (hf:∀ i x o,o.length≤(f i x o).length):∀ (l:List Int) (i:Nat) (o:List WayD),o.length≤(foldW f i l o).length
 | [],_,_=>Nat.le_refl _
 | x::l,i,o=>Nat.le_trans (hf i x o) (foldW_ge hf l (i+1) (f i x o))
theorem allF_ge {p:List StepD}:∀ (n:Nat) (w:WayD) (out:List WayD),out.length≤(allF p n w out).length
 | 0,_,_=>Nat.le_refl _
 | n+1,w,out=>by
  by_cases h2:out.length > 64
  · rw [allF_many h2];exact Nat.le_refl _
  · unfold allF
    rw [if_neg h2]
    split
    · exact Nat.le_refl _
    · split
      · rw [List.length_append];omega
      · exact foldW_ge (fun i x o=>allF_ge n _ o) _ _ _
theorem all_tl {p:List StepD} (hp:ProgOk p):∀ (n:Nat) (pre:List Int) (a:Int) (out:List WayD),0≤a→(allF p n (wy p (pre++[a])) out).length≤64 →
 allF p n (wy p (pre++[a])) out=out++(tl p n a).map fun t=>wy p (pre++t)
 | 0,pre,a,out,_,_=>by simp [allF,tl]
 | n+1,pre,a,out,ha,h=>by
  by_cases h2:out.length > 64
  · rw [allF_many h2] at h;omega
  have hla:lastA (wy p (pre++[a]))=a:=lastA_snoc
  cases gs:p[a.toNat]? with
  | none =>
   rw [tl_none gs]
   unfold allF
   rw [if_neg h2,hla,gs]
   simp
  | some s =>
   cases hk:(s.kind == 11) with
   | true=>rw [allF_end (s:=s) (by omega) (by rw [hla];exact gs) hk,tl_end gs hk];rfl
   | false =>
    have e:=allF_step (n:=n) (w:=wy p (pre++[a])) (out:=out) (s:=s) (by omega) (by rw [hla];exact gs) hk
    rw [hla] at e
    rw [e] at h ⊢
    rw [tl_step gs hk]
    have ext:∀ (i:Nat) (x:Int),(nextsL s a)[i]? = some x→extW (wy p (pre++[a])) s i x=wy p ((pre++[a])++[x]):=by
     intro i x hx
     have hs:=turnsR_snoc (x:=x) (stepK_get ha gs) pre
     unfold extW wy
     rw [List.append_assoc,List.singleton_append,hs]
     cases hb:brB s with
     | true=>rw [next_turn hp gs hb hx];rfl
     | false=>simp
    have fold:∀ (l:List Int) (i:Nat) (out:List WayD),(∀ j x,l[j]? = some x→(nextsL s a)[i+j]? = some x)→(foldW (fun i x o=>allF p n (extW (wy p (pre++[a])) s i x) o) i l out).length≤64 →
     foldW (fun i x o=>allF p n (extW (wy p (pre++[a])) s i x) o) i l out=out++(l.flatMap fun k=>tl p n k).map fun t=>wy p (pre++a::t):=by
     intro l
     induction l with
     | nil=>intro i out _ _;simp [foldW]
     | cons x l ih =>
      intro i out hl hlen
      have hx:(nextsL s a)[i]? = some x:=hl 0 x rfl
      have hx0:0≤x:=by have:=nextsL_gt hp ha gs (List.mem_of_getElem? hx);omega
      have e1:foldW (fun i x o=>allF p n (extW (wy p (pre++[a])) s i x) o) i (x::l) out=foldW (fun i x o=>allF p n (extW (wy p (pre++[a])) s i x) o) (i+1) l (allF p n (extW (wy p (pre++[a])) s i x) out):=rfl
      rw [e1] at hlen ⊢
      have h3:(allF p n (extW (wy p (pre++[a])) s i x) out).length≤64:=Nat.le_trans (foldW_ge (fun i x o=>allF_ge n _ o) l (i+1) _) hlen
      rw [ih (i+1) _ (fun j y hj=>by have:=hl (j+1) y hj;rw [show i+1+j=i+(j+1) by omega];exact this) hlen]
      rw [ext i x hx] at h3 ⊢
      rw [all_tl hp n (pre++[a]) x out hx0 h3]
      rw [List.flatMap_cons,List.map_append,List.append_assoc]
      congr 2
      refine List.map_congr_left fun t _=>?_
      rw [List.append_assoc,List.singleton_append]
    rw [fold (nextsL s a) 0 out (fun j x hj=>by rw [Nat.zero_add];exact hj) h,List.map_map]
    rfl
theorem tl_mem {p:List StepD} (hp:ProgOk p):∀ (n:Nat) (a:Int) (t:List Int),0≤a→t∈tl p n a→∃ l,t=a::l∧nxL p t=true∧lastX p t=true
 | 0,a,t,_,h=>by simp [tl] at h
 | n+1,a,t,ha,h=>by
  cases gs:p[a.toNat]? with
  | none=>rw [tl_none gs] at h;cases h
  | some s =>
   have hk:=stepK_get ha gs
   cases he:(s.kind == 11) with
   | true =>
    rw [tl_end gs he,List.mem_singleton] at h
    subst h
    exact ⟨[],rfl,by unfold nxL;rfl,by unfold lastX;simp [hk,he]⟩
   | false =>
    rw [tl_step gs he,List.mem_map] at h
    obtain ⟨u,hu,rfl⟩:=h
    rw [List.mem_flatMap] at hu
    obtain ⟨k,hk2,hu⟩:=hu
    have hgt:=nextsL_gt hp ha gs hk2
    obtain ⟨l,rfl,h1,h2⟩:=tl_mem hp n k u (by omega) hu
    refine ⟨_,rfl,?_,?_⟩
    · rw [nxL,hk,h1,Bool.and_true]
      exact List.any_eq_true.2 ⟨k,hk2,by simp⟩
    · unfold lastX at h2 ⊢
      rw [List.getLast?_cons_cons]
      exact h2
theorem mem_tl {p:List StepD} (hp:ProgOk p):∀ (n:Nat) (a:Int) (l:List Int),0≤a→(p.length:Int)≤a+n→nxL p (a::l)=true→lastX p (a::l)=true→(a::l)∈tl p n a
 | 0,a,l,ha,hn,h1,h2=>by
  exfalso
  have hk:stepK p a=none:=stepK_none (.inr (by omega))
  cases l with
  | nil=>unfold lastX at h2;simp [hk] at h2
  | cons b l=>rw [nxL,hk] at h1;simp at h1
 | n+1,a,l,ha,hn,h1,h2=>by
  cases gs:p[a.toNat]? with
  | none =>
   exfalso
   have hk:stepK p a=none:=by unfold stepK;rw [if_pos ha,gs]
   cases l with
   | nil=>unfold lastX at h2;simp [hk] at h2
   | cons b l=>rw [nxL,hk] at h1;simp at h1
  | some s =>
   have hk:=stepK_get ha gs
   cases he:(s.kind == 11) with
   | true =>
    have hnx:nextsL s a=[]:=by unfold nextsL;rw [he];rfl
    cases l with
    | nil=>rw [tl_end gs he];simp
    | cons b l=>simp [nxL,hk,hnx] at h1
   | false =>
    cases l with
    | nil=>unfold lastX at h2;simp [hk,he] at h2
    | cons b l =>
     rw [nxL,hk,Bool.and_eq_true,List.any_eq_true] at h1
     obtain ⟨⟨b',hb,hbe⟩,h1⟩:=h1
     obtain rfl:b'=b:=by simpa using hbe
     have hgt:=nextsL_gt hp ha gs hb
     rw [tl_step gs he,List.mem_map]
     refine ⟨b'::l,List.mem_flatMap.2 ⟨b',hb,mem_tl hp n b' l (by omega) (by omega) h1 ?_⟩,rfl⟩
     unfold lastX at h2 ⊢
     rw [List.getLast?_cons_cons] at h2
     exact h2
theorem nexts_nd {p:List StepD} (hp:ProgOk p) {s:StepD} {a:Int} (gs:p[a.toNat]? = some s):nextsL s a=[]∨(∃ x,nextsL s a=[x])∨∃ x y,nextsL s a=[x,y]∧x≠y:=by
 obtain ⟨hi,rfl⟩:=List.getElem?_eq_some_iff.1 gs
 have ok:=step_ok (hp.all _ hi).1
 have hj:=ok.jmp
 unfold nextsL
 split
 · exact .inl rfl
 · split
   · exact .inr (.inl ⟨_,rfl⟩)
   · split
     · rename_i h
       have hkk:p[a.toNat].kind=9:=by simpa using h
       have ht:p[a.toNat].to > 0:=hj.2 (by omega)
       exact .inr (.inr ⟨_,_,rfl,by omega⟩)
     · split
       · rename_i h
         have hkk:p[a.toNat].kind=10:=by simpa using h
         have ht:p[a.toNat].to > 0:=hj.2 (by omega)
         exact .inr (.inr ⟨_,_,rfl,by omega⟩)
       · exact .inr (.inl ⟨_,rfl⟩)
theorem map_cons_nd {a:Int} {l:List (List Int)} (h:l.Nodup):(l.map (a::·)).Nodup:=by
 unfold List.Nodup at *
 rw [List.pairwise_map]
 exact h.imp fun hne e=>hne (List.cons.inj e).2
theorem tl_nd {p:List StepD} (hp:ProgOk p):∀ (n:Nat) (a:Int),0≤a→(tl p n a).Nodup
 | 0,a,_=>by simp [tl]
 | n+1,a,ha=>by
  cases gs:p[a.toNat]? with
  | none=>rw [tl_none gs];simp
  | some s =>
   cases he:(s.kind == 11) with
   | true=>rw [tl_end gs he];simp
   | false =>
    rw [tl_step gs he]
    refine map_cons_nd ?_
    have hgt:∀ k∈nextsL s a,0≤k:=fun k hk=>by have:=nextsL_gt hp ha gs hk;omega
    rcases nexts_nd hp gs with hn|⟨x,hn⟩|⟨x,y,hn,hne⟩
    · rw [hn];simp
    · rw [hn] at hgt ⊢
      simpa using tl_nd hp n x (hgt x (by simp))
    · rw [hn] at hgt ⊢
      have h1:=tl_nd hp n x (hgt x (by simp))
      have h2:=tl_nd hp n y (hgt y (by simp))
      simp only [List.flatMap_cons,List.flatMap_nil,List.append_nil]
      refine List.nodup_append.2 ⟨h1,h2,fun u hu v hv e=>?_⟩
      subst e
      obtain ⟨l1,e1,_⟩:=tl_mem hp n x u (hgt x (by simp)) hu
      obtain ⟨l2,e2,_⟩:=tl_mem hp n y u (hgt y (by simp)) hv
      rw [e1] at e2
      exact hne (List.cons.inj e2).1
theorem tl_fuel {p:List StepD} (hp:ProgOk p):∀ (n m:Nat) (a:Int),0≤a→(p.length:Int)≤a+n→(p.length:Int)≤a+m→tl p n a=tl p m a
 | 0,m,a,ha,h1,h2=>by
  have:p[a.toNat]? = none:=List.getElem?_eq_none (by omega)
  rw [tl_none this,tl_none this]
 | n+1,0,a,ha,h1,h2=>by
  have:p[a.toNat]? = none:=List.getElem?_eq_none (by omega)
  rw [tl_none this,tl_none this]
 | n+1,m+1,a,ha,h1,h2=>by
  cases gs:p[a.toNat]? with
  | none=>rw [tl_none gs,tl_none gs]
  | some s =>
   cases he:(s.kind == 11) with
   | true=>rw [tl_end gs he,tl_end gs he]
   | false =>
    rw [tl_step gs he,tl_step gs he]
    congr 1
    rw [List.flatMap_def,List.flatMap_def]
    congr 1
    refine List.map_congr_left fun k hk=>?_
    have hgt:=nextsL_gt hp ha gs hk
    exact tl_fuel hp n m k (by omega) (by omega) (by omega)
def allW (p:List StepD):List WayD:=(tl p p.length 0).map (wy p)
theorem ways_all {p:List StepD} (h:(waysV p).2=true):goodP p=true∧(waysV p).1=allW p∧(allW p).length≤64:=by
 unfold waysV at h ⊢
 split at h
 case isFalse=>cases h
 rename_i hc
 rw [if_pos hc]
 rw [Bool.and_eq_true,decide_eq_true_eq] at hc
 have e:=all_tl (prog_ok hc.1) p.length [] 0 [] (by decide) (by
  have:wy p ([]++[0])=w0:=rfl
  rw [this];exact hc.2)
 have e1:allF p p.length w0 []=allW p:=e
 exact ⟨hc.1,e1,by rw [← e1];exact hc.2⟩
theorem way_good {p:List StepD} (hg:goodP p=true) (w:WayD):w∈allW p↔goodW p w=true:=by
 have hp:=prog_ok hg
 unfold allW
 rw [List.mem_map]
 constructor
 · rintro ⟨t,ht,rfl⟩
   obtain ⟨l,rfl,h1,h2⟩:=tl_mem hp _ _ _ (by decide) ht
   unfold goodW wy
   dsimp only
   rw [hg,goodW_eq hp (by simp),h1,h2]
   simp [headZ]
 · intro h
   obtain ⟨st,ts⟩:=w
   unfold goodW at h
   dsimp only at h
   rw [Bool.and_eq_true,Bool.and_eq_true] at h
   obtain ⟨⟨_,h1⟩,h2⟩:=h
   cases st with
   | nil=>cases h1
   | cons a l =>
    obtain rfl:a=0:=by simpa [headZ] using h1
    rw [goodW_eq hp (by simp),Bool.and_eq_true,Bool.and_eq_true,decide_eq_true_eq] at h2
    obtain ⟨⟨h3,h4⟩,h5⟩:=h2
    refine ⟨0::l,mem_tl hp _ 0 l (by decide) (by omega) h3 h4,?_⟩
    unfold wy
    rw [h5]
theorem ways_nd {p:List StepD} (hg:goodP p=true):(allW p).Nodup:=by
 unfold allW List.Nodup
 rw [List.pairwise_map]
 exact (tl_nd (prog_ok hg) p.length 0 (by decide)).imp fun hne e=>hne (congrArg WayD.steps e)
theorem stepAt_law {p:List StepD} {ctx:List Int} {m:MachD} (hp:ProgOk p) (hm:MachOk m) (hl:m.pc < p.length) (h0:(stepAt p ctx m).2.1=0) :
 ∃ s,p[m.pc.toNat]? = some s∧StLaw s m (stepAt p ctx m):=by
 have p0:=hm.pc.1
 have hi:m.pc.toNat < p.length:=by omega
 have gs:p[m.pc.toNat]? = some p[m.pc.toNat]:=List.getElem?_eq_getElem hi
 have hv:=(hp.all _ hi).1
 refine ⟨_,gs,?_⟩
 unfold stepAt at h0 ⊢
 rw [gs] at h0 ⊢
 exact step_law (step_ok hv) (valid_kind (.inr hv)) h0
theorem follow_run {p:List StepD} {ctx:List Int} (hp:ProgOk p) (hc:CtxOk ctx):∀ (l:List Int) (i:Nat) (m:MachD) (tr:List Int) (n:Nat),MachOk m→m.pc < p.length→l≠[]→nxL p l=true→lastX p l=true →
 followF p ctx i l m=(((i+l.length:Nat):Int),0)→l.length≤n→(runF p ctx n m tr).2.1=0∧(runF p ctx n m tr).2.2.2=tr++l
 | [],_,_,_,_,_,_,h,_,_,_,_=>absurd rfl h
 | a::l,i,m,tr,0,_,_,_,_,_,_,h=>by simp at h
 | a::l,i,m,tr,n+1,hm,hl,_,h1,h2,hf,hn=>by
  rw [followF_cons] at hf
  split at hf
  case isFalse =>
   exfalso
   have:=congrArg Prod.fst hf
   simp only [List.length_cons] at this
   omega
  rename_i ha
  obtain rfl:m.pc=a:=by simpa using ha
  split at hf
  case isFalse =>
   exfalso
   have:=congrArg Prod.fst hf
   simp only [List.length_cons] at this
   omega
  rename_i h0
  obtain ⟨s,gs,law⟩:=stepAt_law hp hm hl (by simpa using h0)
  have hk:=stepK_get hm.pc.1 gs
  have sk:=step_keeps hp hc hm hl
  cases l with
  | nil =>
   have he:(s.kind == 11)=true:=by unfold lastX at h2;simpa [hk] using h2
   have hen:(stepAt p ctx m).2.2=true:=by rw [law.en,he]
   unfold runF
   rw [if_pos h0,hen]
   exact ⟨rfl,rfl⟩
  | cons b l =>
   rw [nxL,hk,Bool.and_eq_true] at h1
   have he:(s.kind == 11)=false:=by
    cases he:(s.kind == 11) with
    | false=>rfl
    | true =>
     have hnx:nextsL s m.pc=[]:=by unfold nextsL;rw [he];rfl
     simp [hnx] at h1
   have hen:(stepAt p ctx m).2.2=false:=by rw [law.en,he]
   have h2':lastX p (b::l)=true:=by
    unfold lastX at h2 ⊢
    rw [List.getLast?_cons_cons] at h2
    exact h2
   have:=follow_run hp hc (b::l) (i+1) (stepAt p ctx m).1 (tr++[m.pc]) n sk.ok sk.pc (by simp) h1.2 h2' (by rw [hf];simp only [List.length_cons];congr 2;omega) (by simp only [List.length_cons] at hn ⊢;omega)
   unfold runF
   rw [if_pos h0,hen]
   show (runF p ctx n (stepAt p ctx m).1 (tr++[m.pc])).2.1=0∧(runF p ctx n (stepAt p ctx m).1 (tr++[m.pc])).2.2.2=_
   rw [this.1,this.2]
   exact ⟨rfl,by simp⟩
theorem run_follow {p:List StepD} {ctx:List Int} (hp:ProgOk p) (hc:CtxOk ctx):∀ (n:Nat) (m:MachD) (tr:List Int),MachOk m→m.pc < p.length→(runF p ctx n m tr).2.1=0 →
 ∃ l,(runF p ctx n m tr).2.2.2=tr++m.pc::l∧nxL p (m.pc::l)=true∧lastX p (m.pc::l)=true∧∀ i:Nat,followF p ctx i (m.pc::l) m=(((i+(l.length+1):Nat):Int),0)
 | 0,m,tr,_,_,h=>absurd h (by simp [runF])
 | n+1,m,tr,hm,hl,h=>by
  unfold runF at h ⊢
  split at h
  case isFalse h0=>exact absurd (show ((stepAt p ctx m).2.1 == 0)=true by simpa using h) h0
  rename_i h0
  rw [if_pos h0]
  obtain ⟨s,gs,law⟩:=stepAt_law hp hm hl (by simpa using h0)
  have hk:=stepK_get hm.pc.1 gs
  have sk:=step_keeps hp hc hm hl
  have hfc:∀ (i:Nat) (l:List Int),followF p ctx i (m.pc::l) m=followF p ctx (i+1) l (stepAt p ctx m).1:=by
   intro i l
   rw [followF_cons,if_pos (by simp),if_pos h0]
  cases hen:(stepAt p ctx m).2.2 with
  | true =>
   have he:(s.kind == 11)=true:=by rw [← law.en,hen]
   exact ⟨[],rfl,by unfold nxL;rfl,by unfold lastX;simp [hk,he],fun i=>by rw [hfc];rfl⟩
  | false =>
   rw [hen] at h
   obtain ⟨l,h1,h2,h3,h4⟩:=run_follow hp hc n (stepAt p ctx m).1 (tr++[m.pc]) sk.ok sk.pc h
   refine ⟨(stepAt p ctx m).1.pc::l,?_,?_,?_,fun i=>?_⟩
   · show (runF p ctx n (stepAt p ctx m).1 (tr++[m.pc])).2.2.2=_
     rw [h1];simp
   · rw [nxL,hk,h2,Bool.and_true]
     exact law.nx hen
   · unfold lastX at h3 ⊢
     rw [List.getLast?_cons_cons]
     exact h3
   · rw [hfc,h4]
     simp only [List.length_cons]
     congr 2
     omega
theorem tl_len {p:List StepD}:∀ (n:Nat) (a:Int) (t:List Int),t∈tl p n a→t.length≤n
 | 0,a,t,h=>by simp [tl] at h
 | n+1,a,t,h=>by
  rw [tl] at h
  split at h
  · cases h
  · split at h
    · rw [List.mem_singleton] at h;subst h;simp
    · rw [List.mem_map] at h
      obtain ⟨u,hu,rfl⟩:=h
      rw [List.mem_flatMap] at hu
      obtain ⟨k,_,hu⟩:=hu
      have:=tl_len n k u hu
      simp only [List.length_cons];omega
theorem good_len {p:List StepD} {w:WayD} (h:goodW p w=true):w.steps.length≤p.length:=by
 have hg:goodP p=true:=by unfold goodW at h;simp only [Bool.and_eq_true] at h;exact h.1.1
 have:=(way_good hg w).2 h
 unfold allW at this
 rw [List.mem_map] at this
 obtain ⟨t,ht,rfl⟩:=this
 exact tl_len _ _ _ ht
def fullB (p:List StepD) (ctx:List Int) (w:WayD):Bool:=(followV p ctx w).2&&((followV p ctx w).1.2 == 0)&&((followV p ctx w).1.1 == (w.steps.length:Int))
theorem way_run {p:List StepD} {ctx:List Int} (h:(wayV p ctx).2=true):goodW p (wayV p ctx).1=true∧fullB p ctx (wayV p ctx).1=true:=by
 unfold wayV at h ⊢
 split at h
 case isFalse=>cases h
 rename_i hc
 rw [if_pos hc]
 unfold traceV at hc ⊢
 split at hc
 case isFalse=>cases hc
 rename_i hq
 rw [if_pos hq]
 rw [Bool.and_eq_true] at hq
 obtain ⟨hg,hcx⟩:=hq
 have hp:=prog_ok hg
 have hc2:=ctx_ok hcx
 have h0:(runF p ctx 100 newM []).2.1=0:=by simpa [runP] using hc
 obtain ⟨l,h1,h2,h3,h4⟩:=run_follow hp hc2 100 newM [] newM_ok (by show (0:Int) < _;have:=hp.len.1;omega) h0
 have hin:=(runP_trace (ctx:=ctx) hp hc2 100).1
 have e:(runP p ctx 100).2.2.2=newM.pc::l:=by unfold runP;rw [h1];rfl
 dsimp only
 rw [e] at hin ⊢
 have gw:goodW p ⟨newM.pc::l,turnsV p (newM.pc::l)⟩=true:=by
  unfold goodW
  dsimp only
  rw [hg,goodW_eq hp (by simp),h2,h3,turnsR_eq hin]
  simp [headZ,newM]
 refine ⟨gw,?_⟩
 unfold fullB followV
 rw [gw,hcx]
 have:=h4 0
 dsimp only at this ⊢
 simp only [Bool.and_self,if_true]
 rw [this]
 simp
theorem run_way {p:List StepD} {ctx:List Int} {w:WayD} (hg:goodW p w=true) (hf:fullB p ctx w=true):wayV p ctx=(w,true):=by
 have hl:=good_len hg
 unfold fullB followV at hf
 rw [hg] at hf
 cases hcx:ctxB ctx with
 | false=>rw [hcx] at hf;cases hf
 | true =>
  rw [hcx] at hf
  simp only [Bool.and_self,if_true,Bool.true_and,Bool.and_eq_true,beq_iff_eq] at hf
  obtain ⟨h1,h2⟩:=hf
  obtain ⟨st,ts⟩:=w
  dsimp only at h1 h2 hl
  have hgp:goodP p=true:=by unfold goodW at hg;simp only [Bool.and_eq_true] at hg;exact hg.1.1
  have hp:=prog_ok hgp
  have hc2:=ctx_ok hcx
  unfold goodW at hg
  dsimp only at hg
  rw [Bool.and_eq_true,Bool.and_eq_true] at hg
  obtain ⟨⟨_,hz⟩,hgo⟩:=hg
  have hne:st≠[]:=by rintro rfl;cases hz
  rw [goodW_eq hp hne,Bool.and_eq_true,Bool.and_eq_true,decide_eq_true_eq] at hgo
  obtain ⟨⟨g1,g2⟩,g3⟩:=hgo
  have l20:=hp.len.2
  have hr:=follow_run hp hc2 st 0 newM [] 100 newM_ok (by show (0:Int) < _;have:=hp.len.1;omega) hne g1 g2 (Prod.ext (by rw [h2];simp) h1) (by omega)
  have hin:=(runP_trace (ctx:=ctx) hp hc2 100).1
  have e:(runP p ctx 100).2.2.2=st:=by unfold runP;rw [hr.2];rfl
  have e0:(runP p ctx 100).2.1=0:=by unfold runP;exact hr.1
  have et:traceV p ctx=(st,0,true):=by unfold traceV;rw [hgp,hcx,e,e0];rfl
  rw [e] at hin
  unfold wayV
  rw [et]
  dsimp only
  rw [if_pos (by decide),turnsR_eq hin,g3]
theorem full_one {p:List StepD} (ctx:List Int) (hg:goodP p=true):((allW p).filter (fullB p ctx)).length=if (wayV p ctx).2 then 1 else 0:=by
 have hnd:=(ways_nd hg).filter (fullB p ctx)
 have hm:∀ x,x∈(allW p).filter (fullB p ctx)→wayV p ctx=(x,true):=by
  intro x hx
  rw [List.mem_filter] at hx
  exact run_way ((way_good hg x).1 hx.1) hx.2
 cases hw:(wayV p ctx).2 with
 | false =>
  rw [if_neg (by simp)]
  cases hl:(allW p).filter (fullB p ctx) with
  | nil=>rfl
  | cons x l=>have:=hm x (by rw [hl];simp);rw [this] at hw;cases hw
 | true =>
  rw [if_pos rfl]
  have h1:=way_run hw
  have hin:(wayV p ctx).1∈(allW p).filter (fullB p ctx):=List.mem_filter.2 ⟨(way_good hg _).2 h1.1,h1.2⟩
  cases hl:(allW p).filter (fullB p ctx) with
  | nil=>rw [hl] at hin;cases hin
  | cons x l =>
   cases l with
   | nil=>rfl
   | cons y l =>
    rw [hl] at hm hnd
    have e1:=hm x (by simp)
    have e2:=hm y (by simp)
    rw [e1] at e2
    have:x=y:=(Prod.mk.inj e2).1
    subst this
    exact absurd hnd (by simp)
def cnt (p:List StepD) (a:Nat):Int:=((tl p p.length (a:Int)).length:Int)
def exitB (p:List StepD) (i:Nat):Bool:=match p[i]? with
 | some s=>s.kind == 11
 | none=>false
def addTo (W:List Int) (v:Int) (l:List Int):List Int:=l.foldl (fun W k=>W.set k.toNat (W.getD k.toNat 0+v)) W
def wayN (p:List StepD):Nat→List Int
 | 0=>(List.replicate p.length 0).set 0 1
 | i+1=>match p[i]? with
  | none=>wayN p i
  | some s=>addTo (wayN p i) ((wayN p i).getD i 0) (nextsL s (i:Int))
theorem wayN_step {p:List StepD} {i:Nat} {s:StepD} (gs:p[i]? = some s):wayN p (i+1)=addTo (wayN p i) ((wayN p i).getD i 0) (nextsL s (i:Int)):=by rw [wayN,gs]
theorem addTo_len (v:Int):∀ (l:List Int) (W:List Int),(addTo W v l).length=W.length
 | [],W=>rfl
 | k::l,W=>by show (addTo (W.set k.toNat (W.getD k.toNat 0+v)) v l).length=_;rw [addTo_len v l];simp
theorem wayN_len {p:List StepD}:∀ i,(wayN p i).length=p.length
 | 0=>by simp [wayN]
 | i+1=>by
  cases gs:p[i]? with
  | none=>rw [wayN,gs];exact wayN_len i
  | some s=>rw [wayN_step gs,addTo_len];exact wayN_len i
def sumN (W:List Int) (c:Nat→Int):Nat→Nat→Int
 | _,0=>0
 | a,n+1=>W.getD a 0 * c a+sumN W c (a+1) n
theorem getD_setI {W:List Int} {j k:Nat} {x:Int} (hj:j < W.length):(W.set j x).getD k 0=if j=k then x else W.getD k 0:=by
 rw [List.getD_eq_getElem?_getD,List.getD_eq_getElem?_getD,List.getElem?_set]
 by_cases h:j=k
 · subst h;simp [hj]
 · simp [h]
theorem sumN_set {W:List Int} {c:Nat→Int} {j:Nat} {v:Int} (hj:j < W.length):∀ (n a:Nat),sumN (W.set j (W.getD j 0+v)) c a n=sumN W c a n+if a≤j∧j < a+n then v * c j else 0
 | 0,a=>by
  rw [if_neg (by omega)]
  simp [sumN]
 | n+1,a=>by
  simp only [sumN]
  rw [sumN_set hj n (a+1),getD_setI hj]
  by_cases e:j=a
  · subst e
    rw [if_pos rfl,if_neg (by omega),if_pos (by omega),Int.add_mul]
    omega
  · rw [if_neg e]
    by_cases h:a+1≤j∧j < a+1+n
    · rw [if_pos h,if_pos (by omega)];omega
    · rw [if_neg h,if_neg (by omega)];omega
theorem sumN_add {c:Nat→Int} {v:Int} {a n:Nat}:∀ (l:List Int) (W:List Int),(∀ k∈l,a≤k.toNat∧k.toNat < a+n∧k.toNat < W.length)→sumN (addTo W v l) c a n=sumN W c a n+v * (l.map fun k=>c k.toNat).sum
 | [],W,_=>by simp [addTo]
 | k::l,W,h=>by
  have hk:=h k (by simp)
  show sumN (addTo (W.set k.toNat (W.getD k.toNat 0+v)) v l) c a n=_
  rw [sumN_add l _ (fun x hx=>by have:=h x (List.mem_cons_of_mem _ hx);simpa using this),sumN_set hk.2.2,if_pos ⟨hk.1,hk.2.1⟩]
  rw [List.map_cons,List.sum_cons,Int.mul_add]
  omega
theorem sumN_zero {c:Nat→Int} {m:Nat}:∀ (n a:Nat),sumN (List.replicate m 0) c a n=0
 | 0,a=>rfl
 | n+1,a=>by
  have e:(List.replicate m (0:Int)).getD a 0=0:=by
   rw [List.getD_eq_getElem?_getD,List.getElem?_replicate]
   split<;>rfl
  simp only [sumN]
  rw [e,sumN_zero n (a+1)];omega
def endN (p:List StepD) (W:List Int):Nat→Int
 | 0=>0
 | i+1=>endN p W i+if exitB p i then W.getD i 0 else 0
theorem endN_set {p:List StepD} {W:List Int} {j:Nat} {x:Int} (hj:j < W.length):∀ i,i≤j→endN p (W.set j x) i=endN p W i
 | 0,_=>rfl
 | i+1,h=>by
  simp only [endN]
  rw [endN_set hj i (by omega),getD_setI hj,if_neg (show ¬ j=i by omega)]
theorem endN_add {p:List StepD} {v:Int} {i:Nat}:∀ (l:List Int) (W:List Int),(∀ k∈l,i≤k.toNat∧k.toNat < W.length)→endN p (addTo W v l) i=endN p W i
 | [],W,_=>rfl
 | k::l,W,h=>by
  have hk:=h k (by simp)
  show endN p (addTo (W.set k.toNat (W.getD k.toNat 0+v)) v l) i=_
  rw [endN_add l _ (fun x hx=>by have:=h x (List.mem_cons_of_mem _ hx);simpa using this),endN_set hk.2 i hk.1]
theorem cnt_end {p:List StepD} {i:Nat} {s:StepD} (gs:p[i]? = some s) (hk:(s.kind == 11)=true):cnt p i=1:=by
 have hi:=(List.getElem?_eq_some_iff.1 gs).1
 unfold cnt
 obtain ⟨n,hn⟩:∃ n,p.length=n+1:=⟨p.length - 1,by omega⟩
 rw [hn,tl_end (by rw [Int.toNat_natCast];exact gs) hk]
 rfl
theorem nexts_in {p:List StepD} (hp:ProgOk p) {i:Nat} {s:StepD} (gs:p[i]? = some s):∀ k∈nextsL s (i:Int),i+1≤k.toNat∧k.toNat < p.length∧0≤k:=by
 intro k hk
 have gs':p[((i:Int)).toNat]? = some s:=by rw [Int.toNat_natCast];exact gs
 have h1:=nextsL_gt hp (Int.natCast_nonneg i) gs' hk
 have h2:=next_in (b:=k) hp (Int.natCast_nonneg i) gs' (List.any_eq_true.2 ⟨k,hk,by simp⟩)
 omega
theorem len_flat {f:Int→List (List Int)}:∀ l:List Int,(((l.flatMap f).length:Nat):Int)=(l.map fun k=>((f k).length:Int)).sum
 | []=>rfl
 | k::l=>by rw [List.flatMap_cons,List.length_append,List.map_cons,List.sum_cons,← len_flat l];omega
theorem cnt_step {p:List StepD} (hp:ProgOk p) {i:Nat} {s:StepD} (gs:p[i]? = some s) (hk:(s.kind == 11)=false):cnt p i=((nextsL s (i:Int)).map fun k=>cnt p k.toNat).sum:=by
 have hi:=(List.getElem?_eq_some_iff.1 gs).1
 have hin:=nexts_in hp gs
 unfold cnt
 obtain ⟨n,hn⟩:∃ n,p.length=n+1:=⟨p.length - 1,by omega⟩
 rw [show tl p p.length (i:Int)=tl p (n+1) (i:Int) by rw [hn],tl_step (by rw [Int.toNat_natCast];exact gs) hk,List.length_map,len_flat]
 congr 1
 refine List.map_congr_left fun k hk=>?_
 have:=hin k hk
 rw [tl_fuel hp n p.length k (by omega) (by omega) (by omega),show ((k.toNat:Nat):Int)=k by omega]
theorem ways_sum {p:List StepD} (hp:ProgOk p):∀ i,i≤p.length→sumN (wayN p i) (cnt p) i (p.length - i)+endN p (wayN p i) i=cnt p 0
 | 0,_=>by
  have h1:=hp.len.1
  have e:(List.replicate p.length (0:Int)).set 0 1=(List.replicate p.length (0:Int)).set 0 ((List.replicate p.length (0:Int)).getD 0 0+1):=by
   congr 1
   rw [List.getD_eq_getElem?_getD,List.getElem?_replicate]
   split<;>rfl
  simp only [wayN,endN]
  rw [e,sumN_set (by simp;omega),sumN_zero,if_pos (by omega)]
  omega
 | i+1,h=>by
  have ih:=ways_sum hp i (by omega)
  have gs:p[i]? = some p[i]:=List.getElem?_eq_getElem (by omega)
  generalize p[i]=s at gs
  have hin:=nexts_in hp gs
  have hl:=wayN_len (p:=p) i
  rw [show p.length - i=(p.length - (i+1))+1 by omega] at ih
  simp only [sumN] at ih
  rw [wayN_step gs]
  generalize wayN p i=W at ih hl
  have e1:=sumN_add (c:=cnt p) (v:=W.getD i 0) (a:=i+1) (n:=p.length - (i+1)) (nextsL s (i:Int)) W (fun k hk=>by have:=hin k hk;omega)
  have e2:=endN_add (p:=p) (v:=W.getD i 0) (i:=i+1) (nextsL s (i:Int)) W (fun k hk=>by have:=hin k hk;omega)
  rw [e1,e2]
  simp only [endN]
  have hx:exitB p i=(s.kind == 11):=by unfold exitB;rw [gs]
  rw [hx]
  cases hk:(s.kind == 11) with
  | true =>
   have hnx:nextsL s (i:Int)=[]:=by unfold nextsL;rw [hk];rfl
   rw [cnt_end gs hk] at ih
   rw [hnx,if_pos rfl]
   simp only [List.map_nil,List.sum_nil,Int.mul_zero]
   omega
  | false =>
   rw [cnt_step hp gs hk] at ih
   rw [if_neg (by simp)]
   omega
theorem ends_all {p:List StepD} (hp:ProgOk p):endN p (wayN p p.length) p.length=((allW p).length:Int):=by
 have h:=ways_sum hp p.length (Nat.le_refl _)
 rw [Nat.sub_self] at h
 simp only [sumN] at h
 unfold allW
 rw [List.length_map]
 unfold cnt at h
 rw [← h.trans (show _=((tl p p.length 0).length:Int) from rfl)]
 omega
theorem wayN_in {p:List StepD} (hp:ProgOk p):∀ i,i≤p.length→∀ k,0≤(wayN p i).getD k 0∧(wayN p i).getD k 0≤2 ^ i
 | 0,_,k=>by
  have h1:=hp.len.1
  simp only [wayN]
  rw [getD_setI (by simp;omega)]
  split
  · decide
  · rw [List.getD_eq_getElem?_getD,List.getElem?_replicate]
    split<;>decide
 | i+1,h,k=>by
  have ih:=wayN_in hp i (by omega)
  have gs:p[i]? = some p[i]:=List.getElem?_eq_getElem (by omega)
  generalize p[i]=s at gs
  have hin:=nexts_in hp gs
  have hl:=wayN_len (p:=p) i
  rw [wayN_step gs]
  have pw:(2:Int) ^ (i+1)=2 ^ i+2 ^ i:=by rw [Int.pow_succ];omega
  rw [pw]
  generalize (2:Int) ^ i=B at ih
  have gs':p[((i:Int)).toNat]? = some s:=by rw [Int.toNat_natCast];exact gs
  generalize wayN p i=W at ih hl
  have hi:=ih i
  have hk:=ih k
  rcases nexts_nd hp gs' with hn|⟨x,hn⟩|⟨x,y,hn,hne⟩
  · rw [hn]
    show 0≤W.getD k 0∧W.getD k 0≤B+B
    omega
  · rw [hn] at hin ⊢
    have hx:=hin x (by simp)
    show 0≤(W.set x.toNat (W.getD x.toNat 0+W.getD i 0)).getD k 0∧_
    have h3:=ih x.toNat
    show 0≤(W.set x.toNat (W.getD x.toNat 0+W.getD i 0)).getD k 0∧(W.set x.toNat (W.getD x.toNat 0+W.getD i 0)).getD k 0≤B+B
    rw [getD_setI (by omega)]
    split<;>omega
  · rw [hn] at hin ⊢
    have hx:=hin x (by simp)
    have hy:=hin y (by simp)
    have h3:=ih x.toNat
    have h4:=ih y.toNat
    show 0≤((W.set x.toNat (W.getD x.toNat 0+W.getD i 0)).set y.toNat ((W.set x.toNat (W.getD x.toNat 0+W.getD i 0)).getD y.toNat 0+W.getD i 0)).getD k 0∧((W.set x.toNat (W.getD x.toNat 0+W.getD i 0)).set y.toNat ((W.set x.toNat (W.getD x.toNat 0+W.getD i 0)).getD y.toNat 0+W.getD i 0)).getD k 0≤B+B
    rw [getD_setI (by simp;omega),getD_setI (by omega),getD_setI (by omega),if_neg (show ¬ x.toNat=y.toNat by omega)]
    split
    · omega
    · split<;>omega
theorem endN_in {p:List StepD} {W:List Int} {B:Int} (h:∀ k,0≤W.getD k 0∧W.getD k 0≤B) (hB:0≤B):∀ i:Nat,0≤endN p W i∧endN p W i≤i * B
 | 0=>by simp [endN]
 | i+1=>by
  have ih:=endN_in (p:=p) h hB i
  have hi:=h i
  simp only [endN]
  have:((i+1:Nat):Int) * B=i * B+B:=by rw [Int.natCast_succ,Int.add_mul,Int.one_mul]
  rw [this]
  split<;>omega
set_option maxHeartbeats 16000000
theorem addTo_snoc {W:List Int} {v k:Int} {l:List Int}:addTo W v (l++[k])=(addTo W v l).set k.toNat ((addTo W v l).getD k.toNat 0+v):=by
 unfold addTo;rw [List.foldl_append];rfl
theorem addTo_bd {B C v:Int} (hv:0≤v∧v≤C):∀ (l:List Int) (W:List Int),(∀ k,0≤W.getD k 0∧W.getD k 0≤B)→∀ k,0≤(addTo W v l).getD k 0∧(addTo W v l).getD k 0≤B+l.length * C
 | [],W,h,k=>by have:=h k;show 0≤W.getD k 0∧W.getD k 0≤B+((0:Nat):Int) * C;omega
 | a::l,W,h,k=>by
  have h2:∀ k,0≤(W.set a.toNat (W.getD a.toNat 0+v)).getD k 0∧(W.set a.toNat (W.getD a.toNat 0+v)).getD k 0≤B+C:=by
   intro k
   have h3:=h k
   have h4:=h a.toNat
   by_cases hj:a.toNat < W.length
   · rw [getD_setI hj]
     split<;>omega
   · rw [List.set_eq_of_length_le (by omega)];omega
  have:=addTo_bd hv l _ h2 k
  show 0≤(addTo (W.set a.toNat (W.getD a.toNat 0+v)) v l).getD k 0∧(addTo (W.set a.toNat (W.getD a.toNat 0+v)) v l).getD k 0≤B+((l.length+1:Nat):Int) * C
  have e:B+((l.length+1:Nat):Int) * C=B+C+l.length * C:=by rw [Int.natCast_add,Int.add_mul];simp;omega
  rw [e];exact this
theorem addTo_keep {v:Int} {i:Nat}:∀ (l:List Int) (W:List Int),(∀ k∈l,i+1≤k.toNat∧k.toNat < W.length)→(addTo W v l).getD i 0=W.getD i 0
 | [],W,_=>rfl
 | k::l,W,h=>by
  have hk:=h k (by simp)
  show (addTo (W.set k.toNat (W.getD k.toNat 0+v)) v l).getD i 0=_
  rw [addTo_keep l _ (fun x hx=>by rw [List.length_set];exact h x (List.mem_cons_of_mem _ hx)),getD_setI hk.2,if_neg (show ¬ k.toNat=i by omega)]
theorem nexts_few {s:StepD} {a:Int}:(nextsL s a).length≤2:=by unfold nextsL;(repeat' split)<;>simp
theorem pow_20 {i:Nat} (h:i≤20):(2:Int) ^ i≤1048576:=by
 have:(2:Nat) ^ i≤2 ^ 20:=Nat.pow_le_pow_right (by decide) h
 have h2:((2 ^ i:Nat):Int)≤((2 ^ 20:Nat):Int):=by omega
 rw [Int.natCast_pow] at h2
 exact h2
theorem impl_wayCount.fcw (p:List StepD) (a:Nat) (hp:ProgOk p) (ha:a < p.length):FCt prog F_impl_wayCount [.ro,.ro,.ro] [steps p,Ii a,Ii (-1)] (Ii ((wayN p p.length).getD a 0)) []:=by
 refine fct_run impl_wayCount.ok rfl ?_
 have pl:=hp.len
 have hb:(p.length:Int) * (8:Nat)≤70368744177664:=by omega
 have l0:(0:Int)≤p.length:=by omega
 have l1:(0:Int) < p.length:=by omega
 have w0:(List.replicate p.length (Ii 0)).set 0 (Ii 1)=(wayN p 0).map Ii:=by simp [wayN,List.map_set]
 have r0:(List.replicate p.length (Ii 0))[0]? = some (Ii 0):=by rw [List.getElem?_replicate,if_pos (by omega)]
 have wl:∀ i,(wayN p i).length=p.length:=wayN_len
 simp only [go_sem,hb,l0,l1,Int.le_refl,List.length_replicate,r0,w0]
 refine R_loop (α:=Nat) (fun i s' M'=>i≤p.length∧s' 18=aI i∧∃ v,s' 7=.sl 256 v 0 p.length 1∧M'.m 256=some (.arr v true 1 ((wayN p i).map Ii))) (fun i=>p.length - i) 0
  ⟨Nat.zero_le _,by simp only [go_sem];try rfl,_,by simp only [go_sem];try rfl,by simp only [go_sem];try rfl⟩ ?_
 rintro i s' M' ⟨hi,g18,v,g7,gm⟩ ho
 unfold impl_wayCount.b1
 have j0:s' 0=.dat none (steps p):=by rw [ho 0 rfl];simp only [go_sem]
 have j1:s' 1=aI a:=by rw [ho 1 rfl];simp only [go_sem]
 have j2:s' 2=aI (-1):=by rw [ho 2 rfl];simp only [go_sem]
 have j17:s' 17=aI p.length:=by rw [ho 17 rfl];simp only [go_sem]
 clear ho
 by_cases hlt:i < p.length
 · have hi':(i:Int) < p.length:=by omega
   have hw:IntKind.i64.wrap ((i:Int)+1)=((i+1:Nat):Int):=wrap_k hlt (by omega)
   have gs:p[i]? = some p[i]:=List.getElem?_eq_getElem hlt
   have hv:=(hp.all i hlt).1
   have c1:=impl_nexts.fc p i p[i] (by omega) hi' pl.2 (by rw [show ((i:Nat):Int).toNat=i by omega];exact gs) hv
   have nin:=nexts_in hp gs
   have nf:=nexts_few (s:=p[i]) (a:=(i:Int))
   have ws:=wayN_step gs
   have wb:∀ k,0≤(wayN p i).getD k 0∧(wayN p i).getD k 0≤1048576:=fun k=>by
    have h1:=wayN_in hp i (by omega) k
    have h2:=pow_20 (i:=i) (by omega)
    omega
   generalize hW:wayN p i=W at *
   generalize hV:W.getD i 0=V at *
   have hVb:0≤V∧V≤1048576:=by rw [← hV];exact wb i
   have Wl:W.length=p.length:=by rw [← hW];exact wl i
   generalize nextsL p[i] (i:Int)=nx at *
   have ne1:((i:Int) == -1)=false:=by rw [beq_eq_false_iff_ne];omega
   simp only [go_sem,hi',ne1,j0,j1,j2,j17,g18,g7,gm]
   refine fcW_bd c1 noRs_ints ?_
   simp only [go_sem,j0,j1,j2,j17,g18,g7,gm]
   refine R_loop (α:=Nat) (fun q s' M'=>q≤nx.length∧s' 31=aI q∧(∃ u,s' 29=.sl 1536 u 0 nx.length 1∧M'.m 1536=some (.arr u true 1 (nx.map Ii)))∧∃ v,s' 7=.sl 256 v 0 p.length 1∧M'.m 256=some (.arr v true 1 ((addTo W V (nx.take q)).map Ii))) (fun q=>nx.length - q) 0
    ⟨Nat.zero_le _,by simp only [go_sem,j0,j1,j2,j17,g18,g7,gm];try rfl,⟨_,by simp only [go_sem,j0,j1,j2,j17,g18,g7,gm];try rfl,by simp only [go_sem,j0,j1,j2,j17,g18,g7,gm];try rfl⟩,v,by simp only [go_sem,j0,j1,j2,j17,g18,g7,gm];try rfl,by simp only [go_sem,j0,j1,j2,j17,g18,g7,gm];try rfl⟩ ?_
   rintro q s2 M2 ⟨hq,g31,⟨u,g29,gu⟩,v2,p7,pm⟩ ho
   unfold impl_wayCount.b0
   have t0:s2 0=.dat none (steps p):=by rw [ho 0 rfl];simp only [go_sem,j0,j1,j2,j17,g18,g7,gm]
   have t1:s2 1=aI a:=by rw [ho 1 rfl];simp only [go_sem,j0,j1,j2,j17,g18,g7,gm]
   have t2:s2 2=aI (-1):=by rw [ho 2 rfl];simp only [go_sem,j0,j1,j2,j17,g18,g7,gm]
   have t17:s2 17=aI p.length:=by rw [ho 17 rfl];simp only [go_sem,j0,j1,j2,j17,g18,g7,gm]
   have t18:s2 18=aI i:=by rw [ho 18 rfl];simp only [go_sem,j0,j1,j2,j17,g18,g7,gm]
   have t8:s2 8=aI i:=by rw [ho 8 rfl];simp only [go_sem,j0,j1,j2,j17,g18,g7,gm]
   have t30:s2 30=aI nx.length:=by rw [ho 30 rfl];simp only [go_sem,j0,j1,j2,j17,g18,g7,gm]
   clear ho
   by_cases hl2:q < nx.length
   · have hq2:(q:Int) < nx.length:=by omega
     have hw2:IntKind.i64.wrap ((q:Int)+1)=((q+1:Nat):Int):=wrap_k hl2 (by omega)
     have gq:nx[q]? = some nx[q]:=List.getElem?_eq_getElem hl2
     have tk:nx.take (q+1)=nx.take q++[nx[q]]:=take_succ' hl2
     have nk:=nin nx[q] (List.getElem_mem hl2)
     have kp:(addTo W V (nx.take q)).getD i 0=V:=by rw [addTo_keep _ _ (fun x hx=>by have:=nin x (List.mem_of_mem_take hx);omega),hV]
     have bd:=fun k=>addTo_bd (B:=1048576) (C:=1048576) hVb (nx.take q) W wb k
     have tl:(nx.take q).length≤2:=by rw [List.length_take];omega
     generalize hx:nx[q]=k at *
     have b1:=bd k.toNat
     have Al:(addTo W V (nx.take q)).length=p.length:=by rw [addTo_len,Wl]
     have sn:=addTo_snoc (W:=W) (v:=V) (k:=k) (l:=nx.take q)
     rw [← tk] at sn
     generalize addTo W V (nx.take q)=A at *
     have ga:A[k.toNat]? = some (A.getD k.toNat 0):=getD_some (by omega)
     have gi:A[i]? = some V:=by rw [getD_some (d:=0) (by omega),kp]
     have k0:0≤k:=nk.2.2
     have k1:k < (p.length:Int):=by omega
     have tm:((nx.take q).length:Int) * 1048576≤2097152:=by omega
     have wv:IntKind.i64.wrap (A.getD k.toNat 0+V)=A.getD k.toNat 0+V:=wrap_in (by omega) (by omega)
     generalize A.getD k.toNat 0=z at *
     have i0:(0:Int)≤i:=by omega
     simp only [go_sem,hq2,gq,k0,k1,ga,gi,hi',i0,wv,hw2,j0,j1,j2,j17,g18,g7,gm,t0,t1,t2,t17,t18,t8,t30,g31,g29,gu,p7,pm]
     exact ⟨q+1,by dsimp only;omega,by omega,by simp only [go_sem,j0,j1,j2,j17,g18,g7,gm,t0,t1,t2,t17,t18,t8,t30,g31,g29,gu,p7,pm],⟨u,by simp only [go_sem,j0,j1,j2,j17,g18,g7,gm,t0,t1,t2,t17,t18,t8,t30,g31,g29,gu,p7,pm],by simp only [go_sem,j0,j1,j2,j17,g18,g7,gm,t0,t1,t2,t17,t18,t8,t30,g31,g29,gu,p7,pm]⟩,v2,by simp only [go_sem,j0,j1,j2,j17,g18,g7,gm,t0,t1,t2,t17,t18,t8,t30,g31,g29,gu,p7,pm],by simp only [go_sem,sn,List.map_set,j0,j1,j2,j17,g18,g7,gm,t0,t1,t2,t17,t18,t8,t30,g31,g29,gu,p7,pm]⟩
   · obtain rfl:q=nx.length:=by omega
     rw [List.take_length] at *
     simp only [go_sem,Int.lt_irrefl,hw,j0,j1,j2,j17,g18,g7,gm,t0,t1,t2,t17,t18,t8,t30,g31,g29,gu,p7,pm]
     exact ⟨i+1,by dsimp only;omega,by omega,by simp only [go_sem,j0,j1,j2,j17,g18,g7,gm,t0,t1,t2,t17,t18,t8,t30,g31,g29,gu,p7,pm],v2,by simp only [go_sem,j0,j1,j2,j17,g18,g7,gm,t0,t1,t2,t17,t18,t8,t30,g31,g29,gu,p7,pm],by simp only [go_sem,ws,j0,j1,j2,j17,g18,g7,gm,t0,t1,t2,t17,t18,t8,t30,g31,g29,gu,p7,pm]⟩
 · obtain rfl:i=p.length:=by omega
   have ga:(wayN p p.length)[a]? = some ((wayN p p.length).getD a 0):=getD_some (by rw [wl];exact ha)
   have ha':(a:Int) < p.length:=by omega
   simp only [go_sem,Int.lt_irrefl,ga,ha',j0,j1,j2,j17,g18,g7,gm]
theorem impl_isStep.fc (p:List StepD) (k:Int) (pl:p.length≤4194304):FCt prog F_impl_isStep [.ro,.ro] [steps p,Ii k] (Bb (goodP p&&inB k 0 ((p.length:Int) - 1))) []:=by
 refine fct_run impl_isStep.ok rfl ?_
 have w1:IntKind.i64.wrap ((p.length:Int) - 1)=(p.length:Int) - 1:=wrap_in (by omega) (by omega)
 simp only [go_sem]
 refine fcW_bool (impl_GoodProgram.fc p pl) ?_
 cases goodP p with
 | false=>simp only [go_sem];try rfl
 | true =>
  simp only [go_sem,w1]
  refine fcW_bool (impl_in.fc k 0 ((p.length:Int) - 1)) ?_
  simp only [go_sem];try rfl
theorem impl_WayCount.fc (p:List StepD) (a:Nat) (hg:goodP p=true) (ha:a < p.length):FCt prog F_impl_WayCount [.ro,.ro] [steps p,Ii a] (.tup [Ii ((wayN p p.length).getD a 0),Bb true]) []:=by
 refine fct_run impl_WayCount.ok rfl ?_
 have hp:=prog_ok hg
 have pl:=hp.len
 have c1:=impl_isStep.fc p a (by omega)
 rw [hg,show (true&&inB (a:Int) 0 ((p.length:Int) - 1))=true by simp [inB];omega] at c1
 simp only [go_sem]
 refine fcW_bool c1 ?_
 simp only [go_sem]
 refine fcW_int (impl_wayCount.fcw p a hp ha) ?_
 simp only [go_sem]
set_option maxHeartbeats 4000000
set_option maxHeartbeats 16000000
abbrev Ub (n:Int):D:=.int .u8 n
theorem getD_sm {α:Type} {l:List α} {i:Nat} {d:α} (h:i < l.length):l[i]? = some (l.getD i d):=by
 rw [List.getD_eq_getElem?_getD,List.getElem?_eq_getElem h];rfl
structure CurD where
 code:List Int
 pos:Int
 seed:Int
abbrev CurD.d (c:CurD):D:=.agg [.rs 1 (c.code.map Ub),Ii c.pos,.int .u64 c.seed]
structure CurOk (c:CurD) (n:Nat):Prop where
 p0:0≤c.pos
 p1:c.pos+n≤4611686018427387904
 len:c.code.length≤9223372036854775807
 by8:∀ b∈c.code,0≤b∧b≤255
def seedV (c:CurD) (b:Int):Int:=IntKind.u64.wrap (IntKind.u64.wrap (IntKind.u64.wrap (c.seed * 6364136223846793005)+IntKind.u64.wrap b)+1442695040888963407)
def byteV (c:CurD):Int:=if c.pos < c.code.length then c.code.getD c.pos.toNat 0 else 0
def foldV (s:Int):Int:=IntKind.i64.wrap (IntKind.u64.wrap (BitVec.ofInt IntKind.u64.bits (Int.fdiv s (2 ^ min (40:Int).toNat IntKind.u64.bits)) &&& BitVec.ofInt IntKind.u64.bits 255).toNat)
def nextV (c:CurD):Int:=if c.pos+1≤c.code.length then byteV c else foldV (seedV c (byteV c))
def nextC (c:CurD):CurD:=⟨c.code,c.pos+1,seedV c (byteV c)⟩
theorem nextC_ok {c:CurD} {n:Nat} (h:CurOk c (n+1)):CurOk (nextC c) n:=by
 obtain ⟨h1,h2,h3,h4⟩:=h
 refine ⟨?_,?_,h3,h4⟩
 · show 0≤c.pos+1;omega
 · show c.pos+1+n≤_;omega
theorem byteV_in {c:CurD} {n:Nat} (h:CurOk c n):0≤byteV c∧byteV c≤255:=by
 unfold byteV
 split
 · rename_i hl
   have h0:=h.p0
   have hl':c.pos.toNat < c.code.length:=by omega
   rw [List.getD_eq_getElem?_getD,List.getElem?_eq_getElem hl']
   exact h.by8 _ (List.getElem_mem hl')
 · omega
theorem foldV_in (s:Int):0≤foldV s∧foldV s≤255:=by
 unfold foldV
 have hn:(BitVec.ofInt IntKind.u64.bits (Int.fdiv s (2 ^ min (40:Int).toNat IntKind.u64.bits)) &&& BitVec.ofInt IntKind.u64.bits 255).toNat≤255:=by
  rw [BitVec.toNat_and]
  have:(BitVec.ofInt IntKind.u64.bits 255).toNat=255:=by decide
  rw [this]
  exact Nat.and_le_right
 generalize (BitVec.ofInt IntKind.u64.bits (Int.fdiv s (2 ^ min (40:Int).toNat IntKind.u64.bits)) &&& BitVec.ofInt IntKind.u64.bits 255).toNat=m at hn
 have e:IntKind.u64.wrap (m:Int)=m:=by simp [IntKind.wrap,IntKind.signed,IntKind.bits];omega
 rw [e,wrap_in (by omega) (by omega)]
 omega
theorem nextV_in {c:CurD} {n:Nat} (h:CurOk c n):0≤nextV c∧nextV c≤255:=by
 unfold nextV
 split
 · exact byteV_in h
 · exact foldV_in _
theorem CurOk.mono {c:CurD} {n m:Nat} (h:CurOk c n) (hm:m≤n):CurOk c m:=⟨h.p0,by have:=h.p1;omega,h.len,h.by8⟩
theorem spec_pl1Cur_next.fc (c:CurD) {n:Nat} (h:CurOk c (n+1)):FCt prog F_spec_pl1Cur_next [.io] [.ptr c.d] (Ii (nextV c)) [.ptr (nextC c).d]:=by
 refine fct_run spec_pl1Cur_next.ok rfl ?_
 have hb:=byteV_in h
 obtain ⟨h1,h2,h3,h4⟩:=h
 obtain ⟨code,pos,seed⟩:=c
 dsimp only at h1 h2 h3
 have w1:IntKind.i64.wrap (pos+1)=pos+1:=wrap_in (by omega) (by omega)
 unfold nextV nextC foldV
 by_cases hp:pos < code.length
 · have hl:pos.toNat < code.length:=by omega
   have g:code[pos.toNat]? = some (code.getD pos.toNat 0):=getD_sm hl
   have e:byteV ⟨code,pos,seed⟩=code.getD pos.toNat 0:=by unfold byteV;rw [if_pos hp]
   have hq:pos+1≤code.length:=by omega
   rw [e] at hb ⊢
   have w2:IntKind.i64.wrap (code.getD pos.toNat 0)=code.getD pos.toNat 0:=wrap_in (by omega) (by omega)
   rw [if_pos hq]
   unfold seedV
   simp only [go_sem,hp,h1,g,w1,w2,hq];try rfl
 · have e:byteV ⟨code,pos,seed⟩=0:=by unfold byteV;rw [if_neg hp]
   have hq:¬ pos+1≤code.length:=by omega
   rw [e,if_neg hq]
   unfold seedV
   simp only [go_sem,hp,w1,hq];try rfl
def pickV (c:CurD) (n:Int):Int:=if n≤1 then 0 else if n > 200 then (nextV c * 256+nextV (nextC c)) % n else nextV c % n
def pickC (c:CurD) (n:Int):CurD:=if n≤1 then c else if n > 200 then nextC (nextC c) else nextC c
theorem pickV_in {c:CurD} {n:Int} (h:1≤n):0≤pickV c n∧pickV c n < n:=by
 unfold pickV
 split
 · omega
 · split
   · exact ⟨Int.emod_nonneg _ (by omega),Int.emod_lt_of_pos _ (by omega)⟩
   · exact ⟨Int.emod_nonneg _ (by omega),Int.emod_lt_of_pos _ (by omega)⟩
theorem pickC_ok {c:CurD} {n:Int} {m:Nat} (h:CurOk c (m+2)):CurOk (pickC c n) m:=by
 unfold pickC
 split
 · exact h.mono (by omega)
 · split
   · exact nextC_ok (nextC_ok h)
   · exact (nextC_ok h).mono (by omega)
theorem spec_pl1Cur_pick.fc (c:CurD) (n:Int) {m:Nat} (h:CurOk c (m+2)):FCt prog F_spec_pl1Cur_pick [.io,.ro] [.ptr c.d,Ii n] (Ii (pickV c n)) [.ptr (pickC c n).d]:=by
 refine fct_run spec_pl1Cur_pick.ok rfl ?_
 have c1:=spec_pl1Cur_next.fc c h
 have h2:=nextC_ok h
 have c2:=spec_pl1Cur_next.fc (nextC c) h2
 have b1:=nextV_in h
 have b2:=nextV_in h2
 unfold pickV pickC
 generalize nextV c=x at c1 b1 ⊢
 generalize nextV (nextC c)=y at c2 b2 ⊢
 generalize nextC (nextC c)=z at c2 ⊢
 generalize nextC c=u at c1 c2 ⊢
 by_cases h1:n≤1
 · simp only [go_sem,h1]
 · by_cases h3:n > 200
   · have w1:IntKind.i64.wrap (x * 256)=x * 256:=wrap_in (by omega) (by omega)
     have w2:IntKind.i64.wrap (x * 256+y)=x * 256+y:=wrap_in (by omega) (by omega)
     have w3:Int.tmod (x * 256+y) n=(x * 256+y) % n:=Int.tmod_eq_emod_of_nonneg (by omega)
     have n0:¬ n=0:=by omega
     simp only [go_sem,h1,h3]
     refine coW_c c1 ?_
     simp only [go_sem,h1,h3,w1]
     refine coW_c c2 ?_
     simp only [go_sem,w1,w2,w3,n0,h1,h3]
   · have w3:Int.tmod x n=x % n:=Int.tmod_eq_emod_of_nonneg (by omega)
     have n0:¬ n=0:=by omega
     simp only [go_sem,h1,h3]
     refine coW_c c1 ?_
     simp only [go_sem,h1,h3,w3,n0]
theorem spec_pl1Cur_one.fc (c:CurD) (n:Int) {m:Nat} (h:CurOk c (m+2)):FCt prog F_spec_pl1Cur_one [.io,.ro] [.ptr c.d,Ii n] (Bb (pickV c n == 0)) [.ptr (pickC c n).d]:=by
 refine fct_run spec_pl1Cur_one.ok rfl ?_
 have c1:=spec_pl1Cur_pick.fc c n h
 generalize pickV c n=x at c1 ⊢
 generalize pickC c n=u at c1 ⊢
 simp only [go_sem]
 refine coW_c c1 ?_
 simp only [go_sem]
def amongV (c:CurD) (l:List Int):Int:=l.getD (pickV c l.length).toNat 0
theorem spec_pl1Cur_among.fc (c:CurD) (l:List Int) (hl:1≤l.length) (hl2:l.length≤1000) {m:Nat} (h:CurOk c (m+2)):FCt prog F_spec_pl1Cur_among [.io,.co] [.ptr c.d,ints l] (Ii (amongV c l)) [.ptr (pickC c l.length).d]:=by
 refine fct_run spec_pl1Cur_among.ok rfl ?_
 have c1:=spec_pl1Cur_pick.fc c l.length h
 have hp:=pickV_in (c:=c) (n:=l.length) (by omega)
 unfold amongV
 generalize pickV c l.length=x at c1 hp ⊢
 generalize pickC c l.length=u at c1 ⊢
 have g:l[x.toNat]? = some (l.getD x.toNat 0):=getD_sm (by omega)
 simp only [go_sem]
 refine coW_c c1 ?_
 simp only [go_sem,hp.1,hp.2,g]
theorem amongV_mem (c:CurD) (l:List Int) (hl:1≤l.length):amongV c l∈l:=by
 have hp:=pickV_in (c:=c) (n:=l.length) (by omega)
 unfold amongV
 rw [List.getD_eq_getElem?_getD,List.getElem?_eq_getElem (by omega)]
 exact List.getElem_mem (by omega)
def curS (code:List Int):CurD:=⟨code,0,0⟩
theorem curS_ok {code:List Int} (hl:code.length≤9223372036854775807) (h8:∀ b∈code,0≤b∧b≤255) {n:Nat} (hn:n≤1000000):CurOk (curS code) n :=
 ⟨Int.le_refl 0,by show (0:Int)+n≤_;omega,hl,h8⟩
set_option maxHeartbeats 4000000
set_option maxHeartbeats 16000000
theorem among_kind (c:CurD):∃ k,amongV c [1,1,2,2,2,3,3,4,5,5,6,7,7,8,9,10,10]=k∧1≤k∧k≤10:=by
 have h:=amongV_mem c [1,1,2,2,2,3,3,4,5,5,6,7,7,8,9,10,10] (by simp)
 refine ⟨_,rfl,?_⟩
 simp only [List.mem_cons,List.not_mem_nil,or_false] at h
 omega
theorem step_in {c:CurD} {room:Int} {a b d e f g:Int} {v:CurD} (fc:FCt prog F_spec_pl1Cur_step [.io,.ro] [.ptr c.d,Ii room] (StepD.d ⟨a,b,d,e,f,g⟩) [.ptr (CurD.d v)]) (ok:∀ m,CurOk c (m+14)→CurOk v m) :
 ∃ s c',(∀ m,CurOk c (m+14)→CurOk c' m)∧FCt prog F_spec_pl1Cur_step [.io,.ro] [.ptr c.d,Ii room] (StepD.d s) [.ptr (CurD.d c')]:=⟨_,_,ok,fc⟩
theorem step_ex (c:CurD) (room:Int) (hr:0≤room∧room≤1000) (h:CurOk c 14):∃ s c',(∀ m,CurOk c (m+14)→CurOk c' m)∧FCt prog F_spec_pl1Cur_step [.io,.ro] [.ptr c.d,Ii room] (StepD.d s) [.ptr (CurD.d c')]:=by
 obtain ⟨k,hk,k1,k2⟩:=among_kind c
 have ca:=spec_pl1Cur_among.fc c [1,1,2,2,2,3,3,4,5,5,6,7,7,8,9,10,10] (by simp) (by simp) (m:=12) h
 rw [hk] at ca
 have h2:∀ m,CurOk c (m+14)→CurOk (pickC c 17) (m+12):=fun m hm=>pickC_ok hm
 have h1:=h2 0 h
 have l17:(([1,1,2,2,2,3,3,4,5,5,6,7,7,8,9,10,10]:List Int).length:Int)=17:=rfl
 rw [l17] at ca
 generalize pickC c 17=u at ca h1 h2
 have hc:k=1∨k=2∨k=3∨k=4∨k=5∨k=6∨k=7∨k=8∨k=9∨k=10:=by omega
 by_cases h3:room < 2<;>rcases hc with rfl|rfl|rfl|rfl|rfl|rfl|rfl|rfl|rfl|rfl <;>
 · apply step_in
   · refine fct_run spec_pl1Cur_step.ok rfl ?_
     simp only [go_sem]
     refine coW_c ca ?_
     simp only [go_sem,h3,iB,Int.reduceLE,iX,bne,ge_iff_le]
     repeat' (first|with_reducible rfl|refine coW_c (spec_pl1Cur_pick.fc _ _ (m:=0) (by first|exact h1.mono (by omega)|exact pickC_ok (h1.mono (by omega))|exact pickC_ok (pickC_ok (h1.mono (by omega)))|exact pickC_ok (pickC_ok (pickC_ok (h1.mono (by omega))))|exact pickC_ok (pickC_ok (pickC_ok (pickC_ok (h1.mono (by omega)))))|exact pickC_ok (pickC_ok (pickC_ok (pickC_ok (pickC_ok (h1.mono (by omega))))))|exact pickC_ok (pickC_ok (pickC_ok (pickC_ok (pickC_ok (pickC_ok (h1.mono (by omega))))))))) ?_|refine coW_c (spec_pl1Cur_among.fc _ [0,1,3,7,255,_] (by simp) (by simp) (m:=0) (by first|exact h1.mono (by omega)|exact pickC_ok (h1.mono (by omega))|exact pickC_ok (pickC_ok (h1.mono (by omega)))|exact pickC_ok (pickC_ok (pickC_ok (h1.mono (by omega))))|exact pickC_ok (pickC_ok (pickC_ok (pickC_ok (h1.mono (by omega)))))|exact pickC_ok (pickC_ok (pickC_ok (pickC_ok (pickC_ok (h1.mono (by omega))))))|exact pickC_ok (pickC_ok (pickC_ok (pickC_ok (pickC_ok (pickC_ok (h1.mono (by omega))))))))) ?_|refine coW_c (spec_pl1Cur_among.fc _ [256,65535,_] (by simp) (by simp) (m:=0) (by first|exact h1.mono (by omega)|exact pickC_ok (h1.mono (by omega))|exact pickC_ok (pickC_ok (h1.mono (by omega)))|exact pickC_ok (pickC_ok (pickC_ok (h1.mono (by omega))))|exact pickC_ok (pickC_ok (pickC_ok (pickC_ok (h1.mono (by omega)))))|exact pickC_ok (pickC_ok (pickC_ok (pickC_ok (pickC_ok (h1.mono (by omega))))))|exact pickC_ok (pickC_ok (pickC_ok (pickC_ok (pickC_ok (pickC_ok (h1.mono (by omega))))))))) ?_|refine fcW_int (spec_l1Least.fc ..) ?_|with_reducible refine cdW_dec (fun _=>?_) (fun _=>?_)|refine cdW_not (fun _=>?_) (fun _=>?_)|refine cdW_any (fun _=>?_) (fun _=>?_)|with_reducible refine gdW_decT (fun _=>?_) (fun _=>?_)|with_reducible refine gdW_decF (fun _=>?_) (fun _=>?_)|refine gdW_not (fun _=>?_) (fun _=>?_)|refine gdW_any (fun _=>?_) (fun _=>?_)|simp only [go_sem,bne,iQ,iB,iX,Int.reduceLE,iN,iA,iS,iM,h3,ge_iff_le, *]|rfl)
     all_goals exact ⟨rfl,rfl⟩
   · intro m hm
     have h1:=h2 m hm
     exact (by first|exact h1.mono (by omega)|exact pickC_ok (h1.mono (by omega))|exact pickC_ok (pickC_ok (h1.mono (by omega)))|exact pickC_ok (pickC_ok (pickC_ok (h1.mono (by omega))))|exact pickC_ok (pickC_ok (pickC_ok (pickC_ok (h1.mono (by omega)))))|exact pickC_ok (pickC_ok (pickC_ok (pickC_ok (pickC_ok (h1.mono (by omega))))))|exact pickC_ok (pickC_ok (pickC_ok (pickC_ok (pickC_ok (pickC_ok (h1.mono (by omega))))))))
open Classical in
noncomputable def stepX (c:CurD) (room:Int):StepD×CurD :=
 if h:(0≤room∧room≤1000)∧CurOk c 14 then ((step_ex c room h.1 h.2).choose,(step_ex c room h.1 h.2).choose_spec.choose) else (⟨0,0,0,0,0,0⟩,c)
theorem stepX_ok {c:CurD} {room:Int} (hr:0≤room∧room≤1000) {m:Nat} (h:CurOk c (m+14)):CurOk (stepX c room).2 m:=by
 have h0:(0≤room∧room≤1000)∧CurOk c 14:=⟨hr,h.mono (by omega)⟩
 unfold stepX
 rw [dif_pos h0]
 exact (step_ex c room h0.1 h0.2).choose_spec.choose_spec.1 m h
theorem stepX_fc {c:CurD} {room:Int} (hr:0≤room∧room≤1000) (h:CurOk c 14):FCt prog F_spec_pl1Cur_step [.io,.ro] [.ptr c.d,Ii room] (StepD.d (stepX c room).1) [.ptr (CurD.d (stepX c room).2)]:=by
 have h0:(0≤room∧room≤1000)∧CurOk c 14:=⟨hr,h⟩
 unfold stepX
 rw [dif_pos h0]
 exact (step_ex c room h0.1 h0.2).choose_spec.choose_spec.2
noncomputable def stepsX (n:Nat) (c:CurD):Nat→List StepD×CurD
 | 0=>([],c)
 | k+1=>((stepsX n c k).1++[(stepX (stepsX n c k).2 ((n:Int) - k)).1],(stepX (stepsX n c k).2 ((n:Int) - k)).2)
theorem stepsX_succ (n:Nat) (c:CurD) (k:Nat):stepsX n c (k+1)=((stepsX n c k).1++[(stepX (stepsX n c k).2 ((n:Int) - k)).1],(stepX (stepsX n c k).2 ((n:Int) - k)).2):=rfl
theorem stepsX_len (n:Nat) (c:CurD):∀ k,(stepsX n c k).1.length=k
 | 0=>rfl
 | k+1=>by rw [stepsX_succ];simp [stepsX_len n c k]
theorem stepsX_ok {n:Nat} (hn:n≤1000) {c:CurD} {m:Nat} (h:CurOk c (m+14 * n)):∀ k,k≤n→CurOk (stepsX n c k).2 (m+14 * (n - k))
 | 0,_=>h
 | k+1,hk=>by
  have ih:=stepsX_ok hn h k (by omega)
  rw [stepsX_succ]
  exact stepX_ok (m:=m+14 * (n - (k+1))) ⟨by omega,by omega⟩ (ih.mono (by omega))
abbrev curA (c:CurD):AV:=.agg [.dat none (.sl 1 (c.code.map Ub)),.dat none (Ii c.pos),.dat none (.int .u64 c.seed)]
theorem prog_in {c:CurD} {p:List StepD} {v:CurD} (fc:FCt prog F_spec_pl1Cur_program [.io] [.ptr c.d] (steps p) [.ptr (CurD.d v)]) (hl:p.length≤20) (ok:∀ m,CurOk c (m+320)→CurOk v m) :
 ∃ p c',p.length≤20∧(∀ m,CurOk c (m+320)→CurOk c' m)∧FCt prog F_spec_pl1Cur_program [.io] [.ptr c.d] (steps p) [.ptr (CurD.d c')]:=⟨_,_,hl,ok,fc⟩
theorem prog_ex (c:CurD) (h:CurOk c 320):∃ p c',p.length≤20∧(∀ m,CurOk c (m+320)→CurOk c' m)∧FCt prog F_spec_pl1Cur_program [.io] [.ptr c.d] (steps p) [.ptr (CurD.d c')]:=by
 have f1:=spec_pl1Cur_pick.fc c 12 (m:=318) h
 have h1:∀ m,CurOk c (m+320)→CurOk (pickC c 12) (m+318):=fun m hm=>pickC_ok hm
 have p1:=pickV_in (c:=c) (n:=12) (by omega)
 generalize pickV c 12=n0 at f1 p1
 generalize pickC c 12=c1 at f1 h1
 have f2:=spec_pl1Cur_one.fc c1 30 (m:=316) (h1 0 h)
 have h2:∀ m,CurOk c (m+320)→CurOk (pickC c1 30) (m+316):=fun m hm=>pickC_ok (h1 m hm)
 generalize (pickV c1 30 == 0)=b1 at f2
 generalize pickC c1 30=c2 at f2 h2
 obtain ⟨n,hn,hn2⟩:∃ n:Nat,(if b1 then 19 else n0)=(n:Int)∧n≤19:=by
  cases b1
  · exact ⟨n0.toNat,by simp only [Bool.false_eq_true,if_false];omega,by omega⟩
  · exact ⟨19,rfl,Nat.le_refl _⟩
 have h3:∀ m,CurOk c (m+320)→∀ k,k≤n→CurOk (stepsX n c2 k).2 (m+30+14 * (n - k)):=fun m hm k hk=>stepsX_ok (by omega) ((h2 m hm).mono (by omega)) k hk
 have hsl:=stepsX_len n c2
 have f4:=spec_pl1Cur_one.fc (stepsX n c2 n).2 30 (m:=28) ((h3 0 h n (Nat.le_refl _)).mono (by omega))
 have h4:∀ m,CurOk c (m+320)→CurOk (pickC (stepsX n c2 n).2 30) (m+28):=fun m hm=>pickC_ok ((h3 m hm n (Nat.le_refl _)).mono (by omega))
 cases h5:(pickV (stepsX n c2 n).2 30 == 0) with
 | false =>
  rw [h5] at f4
  refine prog_in (p:=(stepsX n c2 n).1++[(⟨11,0,0,0,0,0⟩:StepD)]) (v:=pickC (stepsX n c2 n).2 30) ?_ (by simp [hsl];omega) (fun m hm=>(h4 m hm).mono (by omega))
  refine fct_run spec_pl1Cur_program.ok rfl ?_
  simp only [go_sem]
  refine coW_c f1 ?_
  simp only [go_sem]
  refine coW_c f2 ?_
  cases b1<;>simp only [Bool.false_eq_true,if_false,if_true] at hn <;>
  · simp only [go_sem]
    refine R_loop (α:=Nat) (fun k s' M'=>k≤n∧s' 5=aI k∧M'.m 0=some (.box 0 (curA (stepsX n c2 k).2))∧∃ v,s' 3=.sl 1280 v 0 k 6∧M'.m 1280=some (.arr v true 6 ((stepsX n c2 k).1.map StepD.d))) (fun k=>n - k) 0
     ⟨Nat.zero_le _,by simp only [go_sem];try rfl,by simp only [go_sem];try rfl,_,by simp only [go_sem];try rfl,by simp only [go_sem];try rfl⟩ ?_
    rintro k s' M' ⟨hk,g5,gm,v,g3,gr⟩ ho
    unfold spec_pl1Cur_program.b0
    have j4:s' 4=aI n:=by rw [ho 4 rfl,← hn];simp only [go_sem]
    have j0:s' 0=.ptr 0 0 0 none:=by rw [ho 0 rfl];simp only [go_sem]
    clear ho
    by_cases hlt:k < n
    · have hi':(k:Int) < n:=by omega
      have hw:IntKind.i64.wrap (k+1)=((k+1:Nat):Int):=wrap_k hlt (by omega)
      have hs:IntKind.i64.wrap ((n:Int) - k)=(n:Int) - k:=wrap_in (by omega) (by omega)
      have fs:=stepX_fc (c:=(stepsX n c2 k).2) (room:=(n:Int) - k) ⟨by omega,by omega⟩ ((h3 0 h k hk).mono (by omega))
      have hsu:=stepsX_succ n c2 k
      have lk:=hsl k
      have lk1:=hsl (k+1)
      have hbb:(k+1) * 48≤70368744177664:=by omega
      generalize stepX (stepsX n c2 k).2 ((n:Int) - k)=S at fs hsu
      have sn:(stepsX n c2 k).1.map StepD.d++[S.1.d]=(stepsX n c2 (k+1)).1.map StepD.d:=by rw [hsu];simp
      have s2:S.2=(stepsX n c2 (k+1)).2:=by rw [hsu]
      have tk:((stepsX n c2 k).1.map StepD.d).take k=(stepsX n c2 k).1.map StepD.d:=List.take_of_length_le (by simp [lk])
      simp only [go_sem,hi',hs,j0,g5,gm,g3,gr,j4]
      refine coW_c fs ?_
      simp only [go_sem,hw,hbb,tk,lk,j0,g5,gm,g3,gr,j4]
      exact ⟨k+1,by dsimp only;omega,by omega,by simp only [go_sem,j0,g5,gm,g3,gr,j4],by simp only [go_sem,j0,g5,gm,g3,gr,j4];rw [← s2],_,by simp only [go_sem,j0,g5,gm,g3,gr,j4];try rfl,by simp only [go_sem,j0,g5,gm,g3,gr,j4];rw [← sn]⟩
    · obtain rfl:k=n:=by omega
      have lk:=hsl k
      have hbb:(k+1) * 48≤70368744177664:=by omega
      have tk:((stepsX k c2 k).1.map StepD.d).take k=(stepsX k c2 k).1.map StepD.d:=List.take_of_length_le (by simp [lk])
      have sn:(stepsX k c2 k).1.map StepD.d++[StepD.d ⟨11,0,0,0,0,0⟩]=((stepsX k c2 k).1++[(⟨11,0,0,0,0,0⟩:StepD)]).map StepD.d:=by simp
      have l1:((stepsX k c2 k).1++[(⟨11,0,0,0,0,0⟩:StepD)]).length=k+1:=by simp [lk]
      have tk1:(((stepsX k c2 k).1++[(⟨11,0,0,0,0,0⟩:StepD)]).map StepD.d).take (k+1)=((stepsX k c2 k).1++[(⟨11,0,0,0,0,0⟩:StepD)]).map StepD.d:=List.take_of_length_le (by simp [lk])
      simp only [go_sem,Int.lt_irrefl,hbb,tk,lk,j0,g5,gm,g3,gr,j4]
      refine coW_c f4 ?_
      simp only [go_sem,sn,tk1,l1,j0,g5,gm,g3,gr,j4];try rfl
 | true =>
  rw [h5] at f4
  have a4:=h4 0 h
  generalize pickC (stepsX n c2 n).2 30=v0 at f4 h4 a4
  have e0:=spec_pl1Cur_pick.fc v0 ((n+1:Nat):Int) (m:=26) a4
  have q0:∀ m,CurOk c (m+320)→CurOk (pickC v0 ((n+1:Nat):Int)) (m+26):=fun m hm=>pickC_ok (h4 m hm)
  have b0:=pickV_in (c:=v0) (n:=((n+1:Nat):Int)) (by omega)
  generalize pickV v0 ((n+1:Nat):Int)=i0 at e0 b0
  generalize pickC v0 ((n+1:Nat):Int)=v1 at e0 q0
  have e1:=spec_pl1Cur_pick.fc v1 13 (m:=24) (q0 0 h)
  have q1:∀ m,CurOk c (m+320)→CurOk (pickC v1 13) (m+24):=fun m hm=>pickC_ok (q0 m hm)
  generalize pickV v1 13=i1 at e1
  generalize pickC v1 13=v2 at e1 q1
  have e2:=spec_pl1Cur_pick.fc v2 3 (m:=22) (q1 0 h)
  have q2:∀ m,CurOk c (m+320)→CurOk (pickC v2 3) (m+22):=fun m hm=>pickC_ok (q1 m hm)
  generalize pickV v2 3=i2 at e2
  generalize pickC v2 3=v3 at e2 q2
  have e3:=spec_pl1Cur_pick.fc v3 8 (m:=20) (q2 0 h)
  have q3:∀ m,CurOk c (m+320)→CurOk (pickC v3 8) (m+20):=fun m hm=>pickC_ok (q2 m hm)
  generalize pickV v3 8=i3 at e3
  generalize pickC v3 8=v4 at e3 q3
  have e4:=spec_pl1Cur_among.fc v4 [0,255,256,65536] (by simp) (by simp) (m:=18) (q3 0 h)
  have q4:∀ m,CurOk c (m+320)→CurOk (pickC v4 (([0,255,256,65536]:List Int).length:Int)) (m+18):=fun m hm=>pickC_ok (q3 m hm)
  generalize amongV v4 [0,255,256,65536]=i4 at e4
  generalize pickC v4 (([0,255,256,65536]:List Int).length:Int)=v5 at e4 q4
  have e5:=spec_pl1Cur_pick.fc v5 4 (m:=16) (q4 0 h)
  have q5:∀ m,CurOk c (m+320)→CurOk (pickC v5 4) (m+16):=fun m hm=>pickC_ok (q4 m hm)
  generalize pickV v5 4=i5 at e5
  generalize pickC v5 4=v6 at e5 q5
  have e00:=b0.1
  refine prog_in (p:=((stepsX n c2 n).1++[(⟨11,0,0,0,0,0⟩:StepD)]).set i0.toNat ⟨i1,i2,IntKind.i64.wrap (i3 - 1),0,i4,i5⟩) (v:=v6) ?_ (by simp [hsl];omega) (fun m hm=>(q5 m hm).mono (by omega))
  refine fct_run spec_pl1Cur_program.ok rfl ?_
  simp only [go_sem]
  refine coW_c f1 ?_
  simp only [go_sem]
  refine coW_c f2 ?_
  cases b1<;>simp only [Bool.false_eq_true,if_false,if_true] at hn <;>
  · simp only [go_sem]
    refine R_loop (α:=Nat) (fun k s' M'=>k≤n∧s' 5=aI k∧M'.m 0=some (.box 0 (curA (stepsX n c2 k).2))∧∃ v,s' 3=.sl 1280 v 0 k 6∧M'.m 1280=some (.arr v true 6 ((stepsX n c2 k).1.map StepD.d))) (fun k=>n - k) 0
     ⟨Nat.zero_le _,by simp only [go_sem];try rfl,by simp only [go_sem];try rfl,_,by simp only [go_sem];try rfl,by simp only [go_sem];try rfl⟩ ?_
    rintro k s' M' ⟨hk,g5,gm,v,g3,gr⟩ ho
    unfold spec_pl1Cur_program.b0
    have j4:s' 4=aI n:=by rw [ho 4 rfl,← hn];simp only [go_sem]
    have j0:s' 0=.ptr 0 0 0 none:=by rw [ho 0 rfl];simp only [go_sem]
    clear ho
    by_cases hlt:k < n
    · have hi':(k:Int) < n:=by omega
      have hw:IntKind.i64.wrap (k+1)=((k+1:Nat):Int):=wrap_k hlt (by omega)
      have hs:IntKind.i64.wrap ((n:Int) - k)=(n:Int) - k:=wrap_in (by omega) (by omega)
      have fs:=stepX_fc (c:=(stepsX n c2 k).2) (room:=(n:Int) - k) ⟨by omega,by omega⟩ ((h3 0 h k hk).mono (by omega))
      have hsu:=stepsX_succ n c2 k
      have lk:=hsl k
      have lk1:=hsl (k+1)
      have hbb:(k+1) * 48≤70368744177664:=by omega
      generalize stepX (stepsX n c2 k).2 ((n:Int) - k)=S at fs hsu
      have sn:(stepsX n c2 k).1.map StepD.d++[S.1.d]=(stepsX n c2 (k+1)).1.map StepD.d:=by rw [hsu];simp
      have s2:S.2=(stepsX n c2 (k+1)).2:=by rw [hsu]
      have tk:((stepsX n c2 k).1.map StepD.d).take k=(stepsX n c2 k).1.map StepD.d:=List.take_of_length_le (by simp [lk])
      simp only [go_sem,hi',hs,j0,g5,gm,g3,gr,j4]
      refine coW_c fs ?_
      simp only [go_sem,hw,hbb,tk,lk,j0,g5,gm,g3,gr,j4]
      exact ⟨k+1,by dsimp only;omega,by omega,by simp only [go_sem,j0,g5,gm,g3,gr,j4],by simp only [go_sem,j0,g5,gm,g3,gr,j4];rw [← s2],_,by simp only [go_sem,j0,g5,gm,g3,gr,j4];try rfl,by simp only [go_sem,j0,g5,gm,g3,gr,j4];rw [← sn]⟩
    · obtain rfl:k=n:=by omega
      have lk:=hsl k
      have hbb:(k+1) * 48≤70368744177664:=by omega
      have tk:((stepsX k c2 k).1.map StepD.d).take k=(stepsX k c2 k).1.map StepD.d:=List.take_of_length_le (by simp [lk])
      have sn:(stepsX k c2 k).1.map StepD.d++[StepD.d ⟨11,0,0,0,0,0⟩]=((stepsX k c2 k).1++[(⟨11,0,0,0,0,0⟩:StepD)]).map StepD.d:=by simp
      have l1:((stepsX k c2 k).1++[(⟨11,0,0,0,0,0⟩:StepD)]).length=k+1:=by simp [lk]
      have tk1:(((stepsX k c2 k).1++[(⟨11,0,0,0,0,0⟩:StepD)]).map StepD.d).take (k+1)=((stepsX k c2 k).1++[(⟨11,0,0,0,0,0⟩:StepD)]).map StepD.d:=List.take_of_length_le (by simp [lk])
      simp only [go_sem,Int.lt_irrefl,hbb,tk,lk,j0,g5,gm,g3,gr,j4]
      refine coW_c f4 ?_
      have hx:((stepsX k c2 k).1++[(⟨11,0,0,0,0,0⟩:StepD)])[i0.toNat]? = some (((stepsX k c2 k).1++[(⟨11,0,0,0,0,0⟩:StepD)]).getD i0.toNat ⟨0,0,0,0,0,0⟩):=getD_some (by rw [l1];omega)
      have i0k:i0 < ((k+1:Nat):Int):=by omega
      have ss:(((stepsX k c2 k).1++[(⟨11,0,0,0,0,0⟩:StepD)]).map StepD.d).set i0.toNat (.agg [.int .i64 i1,.int .i64 i2,.int .i64 (IntKind.i64.wrap (i3 - 1)),.int .i64 0,.int .i64 i4,.int .i64 i5])=(((stepsX k c2 k).1++[(⟨11,0,0,0,0,0⟩:StepD)]).set i0.toNat ⟨i1,i2,IntKind.i64.wrap (i3 - 1),0,i4,i5⟩).map StepD.d:=by rw [List.map_set]
      have tk2:(((((stepsX k c2 k).1++[(⟨11,0,0,0,0,0⟩:StepD)]).set i0.toNat ⟨i1,i2,IntKind.i64.wrap (i3 - 1),0,i4,i5⟩).map StepD.d)).take (k+1)=(((stepsX k c2 k).1++[(⟨11,0,0,0,0,0⟩:StepD)]).set i0.toNat ⟨i1,i2,IntKind.i64.wrap (i3 - 1),0,i4,i5⟩).map StepD.d:=List.take_of_length_le (by simp [lk])
      have l2:(((stepsX k c2 k).1++[(⟨11,0,0,0,0,0⟩:StepD)]).set i0.toNat ⟨i1,i2,IntKind.i64.wrap (i3 - 1),0,i4,i5⟩).length=k+1:=by simp [lk]
      simp only [go_sem,sn,l1,j0,g5,gm,g3,gr,j4]
      refine coW_c e0 ?_
      simp only [go_sem,j0,g5,gm,g3,gr,j4]
      refine coW_c e1 ?_
      simp only [go_sem,j0,g5,gm,g3,gr,j4]
      refine coW_c e2 ?_
      simp only [go_sem,j0,g5,gm,g3,gr,j4]
      refine coW_c e3 ?_
      simp only [go_sem,j0,g5,gm,g3,gr,j4]
      refine coW_c e4 ?_
      simp only [go_sem,j0,g5,gm,g3,gr,j4]
      refine coW_c e5 ?_
      simp only [go_sem,e00,i0k,hx,l1,ss,tk2,l2,Nat.le_refl,j0,g5,gm,g3,gr,j4];try rfl
def ctxX (c:CurD):Nat→List Int×CurD
 | 0=>([],c)
 | k+1=>((ctxX c k).1++[amongV (pickC (ctxX c k).2 256) [0,1,7,8,255,pickV (ctxX c k).2 256]],pickC (pickC (ctxX c k).2 256) 6)
theorem ctxX_succ (c:CurD) (k:Nat):ctxX c (k+1)=((ctxX c k).1++[amongV (pickC (ctxX c k).2 256) [0,1,7,8,255,pickV (ctxX c k).2 256]],pickC (pickC (ctxX c k).2 256) 6):=rfl
theorem ctxX_len (c:CurD):∀ k,(ctxX c k).1.length=k
 | 0=>rfl
 | k+1=>by rw [ctxX_succ];simp [ctxX_len c k]
theorem ctxX_ok {c:CurD} {m:Nat} (h:CurOk c (m+32)):∀ k,k≤8→CurOk (ctxX c k).2 (m+4 * (8 - k))
 | 0,_=>h
 | k+1,hk=>by
  have ih:=ctxX_ok h k (by omega)
  rw [ctxX_succ]
  show CurOk (pickC (pickC (ctxX c k).2 256) 6) _
  exact pickC_ok (m:=m+4 * (8 - (k+1))) (pickC_ok (m:=m+4 * (8 - (k+1))+2) (ih.mono (by omega)))
theorem ctx_in {c:CurD} {p:List Int} {v:CurD} (fc:FCt prog F_spec_pl1Cur_ctx [.io] [.ptr c.d] (ints p) [.ptr (CurD.d v)]) (hl:p.length=8) (ok:∀ m,CurOk c (m+40)→CurOk v m) :
 ∃ p c',p.length=8∧(∀ m,CurOk c (m+40)→CurOk c' m)∧FCt prog F_spec_pl1Cur_ctx [.io] [.ptr c.d] (ints p) [.ptr (CurD.d c')]:=⟨_,_,hl,ok,fc⟩
theorem ctx_ex (c:CurD) (h:CurOk c 40):∃ p c',p.length=8∧(∀ m,CurOk c (m+40)→CurOk c' m)∧FCt prog F_spec_pl1Cur_ctx [.io] [.ptr c.d] (ints p) [.ptr (CurD.d c')]:=by
 have h3:∀ m,CurOk c (m+40)→∀ k,k≤8→CurOk (ctxX c k).2 (m+8+4 * (8 - k)):=fun m hm k hk=>ctxX_ok (hm.mono (by omega)) k hk
 have hsl:=ctxX_len c
 have f4:=spec_pl1Cur_one.fc (ctxX c 8).2 30 (m:=6) ((h3 0 h 8 (Nat.le_refl _)).mono (by omega))
 have h4:∀ m,CurOk c (m+40)→CurOk (pickC (ctxX c 8).2 30) (m+6):=fun m hm=>pickC_ok ((h3 m hm 8 (Nat.le_refl _)).mono (by omega))
 have l6:∀ x:Int,(([0,1,7,8,255,x]:List Int).length:Int)=6:=fun _=>rfl
 have l2:(([-1,256]:List Int).length:Int)=2:=rfl
 have e5:=spec_pl1Cur_among.fc (pickC (ctxX c 8).2 30) [-1,256] (by simp) (by simp) (m:=4) (h4 0 h)
 rw [l2] at e5
 have h5:∀ m,CurOk c (m+40)→CurOk (pickC (pickC (ctxX c 8).2 30) 2) (m+4):=fun m hm=>pickC_ok (h4 m hm)
 generalize amongV (pickC (ctxX c 8).2 30) [-1,256]=z at e5
 generalize pickC (pickC (ctxX c 8).2 30) 2=v2 at e5 h5
 generalize pickC (ctxX c 8).2 30=v1 at f4 h4 e5
 have h81:(ctxX c 8).1.length=8:=hsl 8
 cases hb:(pickV (ctxX c 8).2 30 == 0)<;>rw [hb] at f4
 case false =>
  refine ctx_in (p:=(ctxX c 8).1) (v:=v1) ?_ h81 (fun m hm=>(h4 m hm).mono (by omega))
  refine fct_run spec_pl1Cur_ctx.ok rfl ?_
  simp only [go_sem]
  refine R_loop (α:=Nat) (fun k s' M'=>k≤8∧s' 4=aI k∧M'.m 0=some (.box 0 (curA (ctxX c k).2))∧∃ v,s' 3=.sl 832 v 0 k 1∧M'.m 832=some (.arr v true 1 ((ctxX c k).1.map Ii))) (fun k=>8 - k) 0
   ⟨Nat.zero_le _,by simp only [go_sem];try rfl,by simp only [go_sem];try rfl,_,by simp only [go_sem];try rfl,by simp only [go_sem];try rfl⟩ ?_
  rintro k s' M' ⟨hk,g5,gm,v,g3,gr⟩ ho
  unfold spec_pl1Cur_ctx.b0
  have j0:s' 0=.ptr 0 0 0 none:=by rw [ho 0 rfl];simp only [go_sem]
  clear ho
  by_cases hlt:k < 8
  · have hi':(k:Int) < 8:=by omega
    have hw:IntKind.i64.wrap (k+1)=((k+1:Nat):Int):=wrap_k hlt (by omega)
    have ok:=(h3 0 h k hk).mono (m:=4) (by omega)
    have e1:=spec_pl1Cur_pick.fc (ctxX c k).2 256 (m:=2) ok
    have hsu:=ctxX_succ c k
    have o1:CurOk (pickC (ctxX c k).2 256) 2:=pickC_ok ok
    generalize pickV (ctxX c k).2 256=x at e1 hsu
    generalize pickC (ctxX c k).2 256=c1 at e1 hsu o1
    have e2:=spec_pl1Cur_among.fc c1 [0,1,7,8,255,x] (by simp) (by simp) (m:=0) o1
    rw [l6] at e2
    generalize amongV c1 [0,1,7,8,255,x]=y at e2 hsu
    generalize pickC c1 6=c2 at e2 hsu
    have lk:=hsl k
    have hbb:(k+1) * 8≤70368744177664:=by omega
    have tk:((ctxX c k).1.map Ii).take k=(ctxX c k).1.map Ii:=List.take_of_length_le (by simp [lk])
    have sn:(ctxX c k).1.map Ii++[Ii y]=(ctxX c (k+1)).1.map Ii:=by rw [hsu];simp
    have s2:c2=(ctxX c (k+1)).2:=by rw [hsu]
    simp only [go_sem,hi',j0,g5,gm,g3,gr]
    refine coW_c e1 ?_
    simp only [go_sem,j0,g5,gm,g3,gr]
    refine coW_c e2 ?_
    simp only [go_sem,hw,hbb,tk,lk,j0,g5,gm,g3,gr]
    exact ⟨k+1,by dsimp only;omega,by omega,by simp only [go_sem,j0,g5,gm,g3,gr],by simp only [go_sem,j0,g5,gm,g3,gr];rw [← s2],_,by simp only [go_sem,j0,g5,gm,g3,gr];try rfl,by simp only [go_sem,j0,g5,gm,g3,gr];rw [← sn]⟩
  · obtain rfl:k=8:=by omega
    have c8:((8:Nat):Int)=8:=rfl
    have tk:((ctxX c 8).1.map Ii).take 8=(ctxX c 8).1.map Ii:=List.take_of_length_le (by simp [h81])
    simp only [go_sem,Int.lt_irrefl,c8,j0,g5,gm,g3,gr]
    refine coW_c f4 ?_
    simp only [go_sem,h81,tk,Nat.le_refl,j0,g5,gm,g3,gr];try rfl
 case true =>
  refine ctx_in (p:=(ctxX c 8).1.set 0 z) (v:=v2) ?_ (by simp [h81]) (fun m hm=>(h5 m hm).mono (by omega))
  refine fct_run spec_pl1Cur_ctx.ok rfl ?_
  simp only [go_sem]
  refine R_loop (α:=Nat) (fun k s' M'=>k≤8∧s' 4=aI k∧M'.m 0=some (.box 0 (curA (ctxX c k).2))∧∃ v,s' 3=.sl 832 v 0 k 1∧M'.m 832=some (.arr v true 1 ((ctxX c k).1.map Ii))) (fun k=>8 - k) 0
   ⟨Nat.zero_le _,by simp only [go_sem];try rfl,by simp only [go_sem];try rfl,_,by simp only [go_sem];try rfl,by simp only [go_sem];try rfl⟩ ?_
  rintro k s' M' ⟨hk,g5,gm,v,g3,gr⟩ ho
  unfold spec_pl1Cur_ctx.b0
  have j0:s' 0=.ptr 0 0 0 none:=by rw [ho 0 rfl];simp only [go_sem]
  clear ho
  by_cases hlt:k < 8
  · have hi':(k:Int) < 8:=by omega
    have hw:IntKind.i64.wrap (k+1)=((k+1:Nat):Int):=wrap_k hlt (by omega)
    have ok:=(h3 0 h k hk).mono (m:=4) (by omega)
    have e1:=spec_pl1Cur_pick.fc (ctxX c k).2 256 (m:=2) ok
    have hsu:=ctxX_succ c k
    have o1:CurOk (pickC (ctxX c k).2 256) 2:=pickC_ok ok
    generalize pickV (ctxX c k).2 256=x at e1 hsu
    generalize pickC (ctxX c k).2 256=c1 at e1 hsu o1
    have e2:=spec_pl1Cur_among.fc c1 [0,1,7,8,255,x] (by simp) (by simp) (m:=0) o1
    rw [l6] at e2
    generalize amongV c1 [0,1,7,8,255,x]=y at e2 hsu
    generalize pickC c1 6=c2 at e2 hsu
    have lk:=hsl k
    have hbb:(k+1) * 8≤70368744177664:=by omega
    have tk:((ctxX c k).1.map Ii).take k=(ctxX c k).1.map Ii:=List.take_of_length_le (by simp [lk])
    have sn:(ctxX c k).1.map Ii++[Ii y]=(ctxX c (k+1)).1.map Ii:=by rw [hsu];simp
    have s2:c2=(ctxX c (k+1)).2:=by rw [hsu]
    simp only [go_sem,hi',j0,g5,gm,g3,gr]
    refine coW_c e1 ?_
    simp only [go_sem,j0,g5,gm,g3,gr]
    refine coW_c e2 ?_
    simp only [go_sem,hw,hbb,tk,lk,j0,g5,gm,g3,gr]
    exact ⟨k+1,by dsimp only;omega,by omega,by simp only [go_sem,j0,g5,gm,g3,gr],by simp only [go_sem,j0,g5,gm,g3,gr];rw [← s2],_,by simp only [go_sem,j0,g5,gm,g3,gr];try rfl,by simp only [go_sem,j0,g5,gm,g3,gr];rw [← sn]⟩
  · obtain rfl:k=8:=by omega
    have c8:((8:Nat):Int)=8:=rfl
    have tk:((ctxX c 8).1.map Ii).take 8=(ctxX c 8).1.map Ii:=List.take_of_length_le (by simp [h81])
    simp only [go_sem,Int.lt_irrefl,c8,j0,g5,gm,g3,gr]
    refine coW_c f4 ?_
    simp only [go_sem,j0,g5,gm,g3,gr]
    refine coW_c e5 ?_
    have g0:(ctxX c 8).1[0]? = some ((ctxX c 8).1.getD 0 0):=getD_some (by omega)
    have ss:((ctxX c 8).1.map Ii).set 0 (.int .i64 z)=((ctxX c 8).1.set 0 z).map Ii:=by rw [List.map_set]
    have tk2:(((ctxX c 8).1.set 0 z).map Ii).take 8=((ctxX c 8).1.set 0 z).map Ii:=List.take_of_length_le (by simp [h81])
    have l3:((ctxX c 8).1.set 0 z).length=8:=by simp [h81]
    simp only [go_sem,c8,h81,g0,ss,tk2,l3,Nat.le_refl,j0,g5,gm,g3,gr];try rfl
theorem tr_ex (code:List Int) (hl:code.length≤9223372036854775807) (h8:∀ b∈code,0≤b∧b≤255) :
 ∃ (p:List StepD) (ctx:List Int),p.length≤20∧ctx.length=8∧FCt prog F_spec_DrawTraceOf [.ro] [.sl 1 (code.map Ub)] (.tup [steps p,ints ctx]) []:=by
 obtain ⟨p,c1,pl,ok1,f1⟩:=prog_ex (curS code) (curS_ok hl h8 (by omega))
 have o1:CurOk c1 40:=ok1 40 (curS_ok hl h8 (by omega))
 obtain ⟨l,c2,ll,ok2,f2⟩:=ctx_ex c1 o1
 refine ⟨p,l,pl,ll,?_⟩
 refine fct_run spec_DrawTraceOf.ok rfl ?_
 simp only [go_sem]
 refine coW_c f1 ?_
 simp only [go_sem,take_map_len]
 refine coW_c f2 ?_
 simp only [go_sem,take_map_len]
theorem same_end {α:Type} {a b:List α} {k:Nat} (hl:a.length=b.length) (hk:a.length≤k) (h:∀ i,i < k→a[i]? = b[i]?):a=b:=by
 apply List.ext_getElem?
 intro i
 by_cases hi:i < k
 · exact h i hi
 · rw [List.getElem?_eq_none (by omega),List.getElem?_eq_none (by omega)]
theorem same_not {α:Type} {a b:List α} {i:Nat} (h1:i < a.length) (h2:i < b.length) (h:a[i]≠b[i]):a≠b:=fun e=>by subst e;exact h rfl
theorem laws_sameInts.fc (a b:List Int) (ha:a.length≤4294967296) (hb:b.length≤4294967296):FCt prog F_laws_sameInts [.ro,.ro] [ints a,ints b] (Bb (decide (a=b))) []:=by
 refine fct_run laws_sameInts.ok rfl ?_
 by_cases hl:a.length=b.length
 · have e1:((a.length:Int) != b.length)=false:=by rw [hl];simp
   simp only [go_sem,e1]
   refine R_loop (α:=Nat) (fun k s' M'=>k≤a.length∧s' 13=aI k∧∀ i,i < k→a[i]? = b[i]?) (fun k=>a.length - k) 0 ⟨Nat.zero_le _,by simp only [go_sem];try rfl,fun i hi=>absurd hi (Nat.not_lt_zero i)⟩ ?_
   rintro k s' M' ⟨hk,h13,hr⟩ ho
   unfold laws_sameInts.b0
   have j0:s' 0=.dat none (ints a):=by rw [ho 0 rfl];simp only [go_sem]
   have j1:s' 1=.dat none (ints b):=by rw [ho 1 rfl];simp only [go_sem]
   have j12:s' 12=aI a.length:=by rw [ho 12 rfl];simp only [go_sem]
   clear ho
   by_cases hlt:k < a.length
   · have hi':(k:Int) < a.length:=by omega
     have ga:a[k]? = some a[k]:=List.getElem?_eq_getElem hlt
     have hw:IntKind.i64.wrap (k+1)=((k+1:Nat):Int):=wrap_k hlt (by omega)
     have gb:b[k]? = some b[k]:=List.getElem?_eq_getElem (by omega)
     have hb':(k:Int) < b.length:=by omega
     by_cases hx:a[k]=b[k]
     · have hx':(a[k] != b[k])=false:=by simp [hx]
       simp only [go_sem,hi',hb',ga,gb,hx',hw,j0,j1,j12,h13]
       refine ⟨k+1,by dsimp only;omega,by omega,by simp only [go_sem,j0,j1,j12,h13],fun i hi=>?_⟩
       by_cases c:i < k
       · exact hr i c
       · obtain rfl:i=k:=by omega
         rw [ga,gb,hx]
     · have hne:=same_not hlt (by omega) hx
       have hd:decide (a=b)=false:=by simp [hne]
       have hx':(a[k] != b[k])=true:=by simp [hx]
       generalize a[k]=x at *
       simp only [go_sem,hi',hb',ga,gb,hx',hd,j0,j1,j12,h13];try rfl
   · have hi':¬ (k:Int) < a.length:=by omega
     obtain rfl:k=a.length:=by omega
     have e:=same_end hl hk hr
     have hd:decide (a=b)=true:=by simp [e]
     simp only [go_sem,Int.lt_irrefl,hd,j0,j1,j12,h13];try rfl
 · have e1:((a.length:Int) != b.length)=true:=by simp;omega
   have hd:decide (a=b)=false:=by simp;intro e;exact hl (by rw [e])
   simp only [go_sem,e1,hd];try rfl
set_option maxHeartbeats 4000000
theorem laws_sameBools.fc (a b:List Bool) (ha:a.length≤4294967296) (hb:b.length≤4294967296):FCt prog F_laws_sameBools [.ro,.ro] [bools a,bools b] (Bb (decide (a=b))) []:=by
 refine fct_run laws_sameBools.ok rfl ?_
 by_cases hl:a.length=b.length
 · have e1:((a.length:Int) != b.length)=false:=by rw [hl];simp
   simp only [go_sem,e1]
   refine R_loop (α:=Nat) (fun k s' M'=>k≤a.length∧s' 13=aI k∧∀ i,i < k→a[i]? = b[i]?) (fun k=>a.length - k) 0 ⟨Nat.zero_le _,by simp only [go_sem];try rfl,fun i hi=>absurd hi (Nat.not_lt_zero i)⟩ ?_
   rintro k s' M' ⟨hk,h13,hr⟩ ho
   unfold laws_sameBools.b0
   have j0:s' 0=.dat none (bools a):=by rw [ho 0 rfl];simp only [go_sem]
   have j1:s' 1=.dat none (bools b):=by rw [ho 1 rfl];simp only [go_sem]
   have j12:s' 12=aI a.length:=by rw [ho 12 rfl];simp only [go_sem]
   clear ho
   by_cases hlt:k < a.length
   · have hi':(k:Int) < a.length:=by omega
     have ga:a[k]? = some a[k]:=List.getElem?_eq_getElem hlt
     have hw:IntKind.i64.wrap (k+1)=((k+1:Nat):Int):=wrap_k hlt (by omega)
     have gb:b[k]? = some b[k]:=List.getElem?_eq_getElem (by omega)
     have hb':(k:Int) < b.length:=by omega
     by_cases hx:a[k]=b[k]
     · have hx':(a[k] == b[k])=true:=by simp [hx]
       simp only [go_sem,hi',hb',ga,gb,hx',hw,j0,j1,j12,h13]
       refine ⟨k+1,by dsimp only;omega,by omega,by simp only [go_sem,j0,j1,j12,h13],fun i hi=>?_⟩
       by_cases c:i < k
       · exact hr i c
       · obtain rfl:i=k:=by omega
         rw [ga,gb,hx]
     · have hne:=same_not hlt (by omega) hx
       have hd:decide (a=b)=false:=by simp [hne]
       have hx':(a[k] == b[k])=false:=by simp [hx]
       have n7:(false != true)=true:=rfl
       generalize a[k]=x at *
       simp only [go_sem,hi',hb',ga,gb,hx',hd,n7,j0,j1,j12,h13];try rfl
   · have hi':¬ (k:Int) < a.length:=by omega
     obtain rfl:k=a.length:=by omega
     have e:=same_end hl hk hr
     have hd:decide (a=b)=true:=by simp [e]
     simp only [go_sem,Int.lt_irrefl,hd,j0,j1,j12,h13];try rfl
 · have e1:((a.length:Int) != b.length)=true:=by simp;omega
   have hd:decide (a=b)=false:=by simp;intro e;exact hl (by rw [e])
   simp only [go_sem,e1,hd];try rfl
set_option maxHeartbeats 16000000
theorem spec_l14Own.fc (st:List Int) (tu:List Bool) (h1:st.length≤4194304) (h2:tu.length≤4194304):FCt prog F_spec_l14Own [.ro] [WayD.d ⟨st,tu⟩] (WayD.d ⟨st,tu⟩) []:=by
 refine fct_run spec_l14Own.ok rfl ?_
 have b1:st.length * 8≤70368744177664:=by omega
 have b2:tu.length * 1≤70368744177664:=by omega
 have k1:(st.map Ii).take st.length=st.map Ii:=take_map_len
 have k2:(tu.map Bb).take tu.length=tu.map Bb:=take_map_len
 cases st with
 | nil =>
  cases tu with
  | nil=>simp only [go_sem,List.length_nil,List.map_nil,List.all_nil];try rfl
  | cons t tu =>
   have hsc:((t::tu).map Bb).all isSc=true:=allScB
   simp only [List.length_cons,List.map_cons,List.all_cons,Bool.and_eq_true,List.take_succ_cons,List.cons.injEq,true_and] at b2 k2 hsc
   have s1:=hsc.1
   have s2:=hsc.2
   simp only [go_sem,List.length_nil,List.map_nil,List.all_nil,s1,s2,b2,k2,Nat.zero_le];try rfl
 | cons a st =>
  have hsa:((a::st).map Ii).all isSc=true:=allSc
  simp only [List.length_cons,List.map_cons,List.all_cons,Bool.and_eq_true,List.take_succ_cons,List.cons.injEq,true_and] at b1 k1 hsa
  have s3:=hsa.1
  have s4:=hsa.2
  cases tu with
  | nil=>simp only [go_sem,List.length_nil,List.map_nil,List.all_nil,s3,s4,b1,k1,Nat.zero_le];try rfl
  | cons t tu =>
   have hsc:((t::tu).map Bb).all isSc=true:=allScB
   simp only [List.length_cons,List.map_cons,List.all_cons,Bool.and_eq_true,List.take_succ_cons,List.cons.injEq,true_and] at b2 k2 hsc
   have s1:=hsc.1
   have s2:=hsc.2
   simp only [go_sem,s1,s2,s3,s4,b1,b2,k1,k2,Nat.zero_le];try rfl
theorem spec_l14All.fc (p:List StepD) (hp:ProgOk p):∀ (n:Nat) (w:WayD) (out:List WayD),OnWay p w n→out.length≤65 →
 FCt prog F_spec_l14All [.ro,.ro,.co] [steps p,w.d,ways out] (ways (allF p n w out)) []
 | 0,w,out,h,ho=>by have:=h.a1;have:=h.a2;omega
 | n+1,w,out,h,hout=>by
  refine fct_run spec_l14All.ok rfl ?_
  have ih:=fun (w:WayD) (out:List WayD)=>spec_l14All.fc p hp n w out
  obtain ⟨l0,l1,l2,a0,a1,a2⟩:=h
  have hi:(lastA w).toNat < p.length:=by omega
  have gs:p[(lastA w).toNat]? = some p[(lastA w).toNat]:=List.getElem?_eq_getElem hi
  have hv:=(hp.all _ hi).1
  have hnx:=fun i x (hx:x∈nextsL p[(lastA w).toNat] (lastA w))=>on_next (i:=i) hp ⟨l0,l1,l2,a0,a1,a2⟩ gs hx
  generalize p[(lastA w).toNat]=s at gs hv hnx
  have cn:=spec_l2Nexts.fc p (lastA w) s a0 a1 hp.len.2 gs hv
  have cb:=spec_l14Branch.fc s
  have hmany:=allF_many (p:=p) (n:=n+1) (w:=w) (out:=out)
  have hend:=fun h=>allF_end (n:=n) (w:=w) (out:=out) (p:=p) (s:=s) h gs
  have hstep:=fun h=>allF_step (n:=n) (w:=w) (out:=out) (p:=p) (s:=s) h gs
  have hlast:w.steps[w.steps.length - 1]? = some (lastA w):=by
   unfold lastA
   rw [List.getD_eq_getElem?_getD,List.getElem?_eq_getElem (by omega)];rfl
  have wl1:IntKind.i64.wrap ((w.steps.length:Int) - 1)=((w.steps.length - 1:Nat):Int):=by rw [wrap_in (by omega) (by omega)];omega
  have wl2:((w.steps.length - 1:Nat):Int) < w.steps.length:=by omega
  obtain ⟨st,tu⟩:=w
  dsimp only at l0 l1 l2 hlast wl1 wl2
  generalize hA:lastA ⟨st,tu⟩=at' at *
  have p1:=hp.len.2
  have q1:at' < p.length:=a1
  have hbb:(out.length+1) * 48≤70368744177664:=by omega
  by_cases h64:out.length > 64
  · have h64':(out.length:Int) > 64:=by omega
    rw [hmany h64]
    simp only [go_sem,h64',take_map_len]
  · have h64':¬ (out.length:Int) > 64:=by omega
    simp only [go_sem,h64',wl1,wl2,hlast,a0,q1,gs]
    have cown:=spec_l14Own.fc st tu (by omega) (by omega)
    cases hk:(s.kind == 11) with
    | true =>
     rw [hend (by omega) hk]
     simp only [go_sem,hk]
     refine fcW_bd cown noRs_Way ?_
     have el:(out++[WayD.mk st tu]).length=out.length+1:=by simp
     have hsn:out.map WayD.d++[WayD.d ⟨st,tu⟩]=(out++[WayD.mk st tu]).map WayD.d:=by simp
     have tk:((out++[WayD.mk st tu]).map WayD.d).take (out.length+1)=(out++[WayD.mk st tu]).map WayD.d:=List.take_of_length_le (by simp)
     simp only [go_sem,hbb,take_map_len,hsn,el,tk,Nat.le_refl]
    | false =>
     rw [hstep (by omega) hk]
     have hlen:(nextsL s at').length≤2:=by
      unfold nextsL
      repeat' split
      all_goals simp
     simp only [go_sem,hk]
     refine fcW_bd cn noRs_ints ?_
     generalize hN:nextsL s at'=N at hlen hnx ⊢
     generalize hf:(fun i x o=>allF p n (extW ⟨st,tu⟩ s i x) o)=f
     have hf':∀ i x o,f i x o=allF p n (extW ⟨st,tu⟩ s i x) o:=fun i x o=>by rw [← hf]
     simp only [go_sem]
     refine R_loop (α:=Nat×List WayD) (fun a s' M'=>a.1≤N.length∧s' 38=aI a.1∧a.2.length≤65∧foldW f 0 N out=foldW f a.1 (N.drop a.1) a.2 ∧
      (∃ u,s' 36=.sl 1984 u 0 N.length 1∧M'.m 1984=some (.arr u true 1 (N.map Ii))) ∧
      (∃ v,M'.m 64=some (.box v (.dat none (WayD.d ⟨st,tu⟩)))∧s' 4=.ptr 64 v 0 none) ∧
      (∃ nm w,s' 2=.sl nm w 0 a.2.length 2∧M'.m nm=some (.arr w true 2 (a.2.map WayD.d))∧(nm=0∨nm=4288))) (fun a=>N.length - a.1) (0,out)
      ⟨by simp,by simp only [go_sem];rfl,hout,rfl,⟨_,by simp only [go_sem];try rfl,by simp only [go_sem];try rfl⟩,⟨_,by simp only [go_sem];try rfl,by simp only [go_sem];try rfl⟩,⟨0,_,by simp only [go_sem];try rfl,by simp only [go_sem];try rfl,.inl rfl⟩⟩ ?_
     rintro ⟨k,o⟩ s' M' ⟨hk',h38,ho65,hfold,⟨u,h36,hmN⟩,⟨v,hb64,h4⟩,⟨nm,vw,h2,hmo,hnm⟩⟩ ho
     dsimp only at hk' h38 ho65 hfold h2 hmo
     unfold spec_l14All.b0
     have j0:s' 0=.dat none (steps p):=by rw [ho 0 rfl];simp only [go_sem]
     have j7:s' 7=aI at':=by rw [ho 7 rfl];simp only [go_sem]
     have j37:s' 37=aI N.length:=by rw [ho 37 rfl];simp only [go_sem]
     clear ho
     by_cases hlt:k < N.length
     · have hi':(k:Int) < N.length:=by omega
       have ga:N[k]? = some N[k]:=List.getElem?_eq_getElem hlt
       have hw:IntKind.i64.wrap (k+1)=((k+1:Nat):Int):=wrap_k hlt (by omega)
       have hd:N.drop k=N[k]::N.drop (k+1):=List.drop_eq_getElem_cons hlt
       have hx:=hnx k N[k] (List.getElem_mem hlt)
       rw [hd] at hfold
       generalize N[k]=x at ga hx hfold
       have b1:(st.length+1) * 8≤70368744177664:=by omega
       have b2:(tu.length+1) * 1≤70368744177664:=by omega
       have sn:st.map Ii++[Ii x]=(st++[x]).map Ii:=by simp
       have el1:(st++[x]).length=st.length+1:=by simp
       have tk1:((st++[x]).map Ii).take (st.length+1)=(st++[x]).map Ii:=List.take_of_length_le (by simp)
       have sn2:tu.map Bb++[Bb ((k:Int) == 1)]=(tu++[((k:Int) == 1)]).map Bb:=by simp
       have el2:(tu++[((k:Int) == 1)]).length=tu.length+1:=by simp
       have tk2:((tu++[((k:Int) == 1)]).map Bb).take (tu.length+1)=(tu++[((k:Int) == 1)]).map Bb:=List.take_of_length_le (by simp)
       have ihc:=ih (extW ⟨st,tu⟩ s k x) o hx ho65
       have hO65:=allF_le (p:=p) n (extW ⟨st,tu⟩ s k x) o ho65
       have hfk:f k x o=allF p n (extW ⟨st,tu⟩ s k x) o:=hf' k x o
       have hfold2:foldW f 0 N out=foldW f (k+1) (N.drop (k+1)) (allF p n (extW ⟨st,tu⟩ s k x) o):=by rw [hfold,← hfk];rfl
       simp only [go_sem,hi',ga,j0,j7,j37,h38,h36,hmN,hb64,h4,h2,hmo]
       refine fcW_bd cown noRs_Way ?_
       simp only [go_sem,b1,take_map_len,sn,a0,q1,gs,j0,j7,j37,h38,h36,hmN,hb64,h4,h2,hmo]
       refine fcW_bool cb ?_
       cases hbr:brB s with
       | true =>
        have eW:extW ⟨st,tu⟩ s k x=⟨st++[x],tu++[((k:Int) == 1)]⟩:=by unfold extW;rw [hbr];rfl
        rw [eW] at ihc hO65 hfold2
        generalize hOq:allF p n ⟨st++[x],tu++[((k:Int) == 1)]⟩ o=O at ihc hO65 hfold2
        rcases hnm with rfl|rfl <;>
        · simp only [go_sem,b2,take_map_len,sn2,el1,el2,tk1,tk2,Nat.le_refl,j0,j7,j37,h38,h36,hmN,hb64,h4,h2,hmo]
          refine coW_of ihc noRs_ways rfl ?_
          simp only [go_sem,hw,j0,j7,j37,h38,h36,hmN,hb64,h4,h2,hmo]
          exact ⟨(k+1,O),by dsimp only;omega,by dsimp only;omega,by simp only [go_sem,j0,j7,j37,h38,h36,hmN,hb64,h4,h2,hmo],hO65,hfold2,⟨u,by simp only [go_sem,j0,j7,j37,h38,h36,hmN,hb64,h4,h2,hmo],by simp only [go_sem,j0,j7,j37,h38,h36,hmN,hb64,h4,h2,hmo]⟩,⟨v,by simp only [go_sem,j0,j7,j37,h38,h36,hmN,hb64,h4,h2,hmo],by simp only [go_sem,j0,j7,j37,h38,h36,hmN,hb64,h4,h2,hmo]⟩,⟨4288,_,by simp only [go_sem,j0,j7,j37,h38,h36,hmN,hb64,h4,h2,hmo];try rfl,by simp only [go_sem,j0,j7,j37,h38,h36,hmN,hb64,h4,h2,hmo];try rfl,.inr rfl⟩⟩
       | false =>
        have eW:extW ⟨st,tu⟩ s k x=⟨st++[x],tu⟩:=by unfold extW;rw [hbr];rfl
        rw [eW] at ihc hO65 hfold2
        generalize hOq:allF p n ⟨st++[x],tu⟩ o=O at ihc hO65 hfold2
        rcases hnm with rfl|rfl <;>
        · simp only [go_sem,b2,take_map_len,el1,tk1,Nat.le_refl,j0,j7,j37,h38,h36,hmN,hb64,h4,h2,hmo]
          refine coW_of ihc noRs_ways rfl ?_
          simp only [go_sem,hw,j0,j7,j37,h38,h36,hmN,hb64,h4,h2,hmo]
          exact ⟨(k+1,O),by dsimp only;omega,by dsimp only;omega,by simp only [go_sem,j0,j7,j37,h38,h36,hmN,hb64,h4,h2,hmo],hO65,hfold2,⟨u,by simp only [go_sem,j0,j7,j37,h38,h36,hmN,hb64,h4,h2,hmo],by simp only [go_sem,j0,j7,j37,h38,h36,hmN,hb64,h4,h2,hmo]⟩,⟨v,by simp only [go_sem,j0,j7,j37,h38,h36,hmN,hb64,h4,h2,hmo],by simp only [go_sem,j0,j7,j37,h38,h36,hmN,hb64,h4,h2,hmo]⟩,⟨4288,_,by simp only [go_sem,j0,j7,j37,h38,h36,hmN,hb64,h4,h2,hmo];try rfl,by simp only [go_sem,j0,j7,j37,h38,h36,hmN,hb64,h4,h2,hmo];try rfl,.inr rfl⟩⟩
     · have hi':¬ (k:Int) < N.length:=by omega
       obtain rfl:k=N.length:=by omega
       have hd0:N.drop N.length=[]:=List.drop_eq_nil_of_le (Nat.le_refl _)
       rw [hd0] at hfold
       have hfin:foldW f 0 N out=o:=hfold
       rw [hfin]
       rcases hnm with rfl|rfl<;>simp only [go_sem,Int.lt_irrefl,take_map_len,j0,j7,j37,h38,h36,hmN,hb64,h4,h2,hmo]
theorem spec_WaysThrough.fc (p:List StepD) (hpl:p.length≤4194304):FCt prog F_spec_WaysThrough [.ro] [steps p] (.tup [ways (waysV p).1,Bb (waysV p).2]) []:=by
 refine fct_run spec_WaysThrough.ok rfl ?_
 unfold waysV
 simp only [go_sem]
 refine fcW_bool (spec_GoodProgram.fc p hpl) ?_
 cases hg:goodP p with
 | false=>simp only [go_sem];try rfl
 | true =>
  have hp:=prog_ok hg
  have c:=spec_l14All.fc p hp p.length w0 [] (w0_on hp) (by simp)
  generalize allF p p.length w0 []=O at c ⊢
  simp only [go_sem]
  refine coW_of c noRs_ways rfl ?_
  by_cases hq:O.length≤64
  · have h1:¬ (O.length:Int) > 64:=by omega
    have h2:decide (O.length≤64)=true:=by simpa using hq
    simp only [go_sem,h1,h2,take_map_len];try rfl
  · have h1:(O.length:Int) > 64:=by omega
    have h2:decide (O.length≤64)=false:=by simpa using hq
    simp only [go_sem,h1,h2];try rfl
theorem waysV_few (p:List StepD):(waysV p).1.length≤65:=by
 unfold waysV
 split
 · rename_i h
   simp only [Bool.and_eq_true,decide_eq_true_eq] at h
   have:=h.2
   dsimp only
   omega
 · simp
theorem foldW_all {q:WayD→Prop} {f:Nat→Int→List WayD→List WayD}:∀ (l:List Int) (i:Nat) (o:List WayD),(∀ i x o,x∈l→(∀ w∈o,q w)→∀ w∈f i x o,q w)→(∀ w∈o,q w)→∀ w∈foldW f i l o,q w
 | [],_,_,_,h=>h
 | x::l,i,o,hf,h=>foldW_all l _ _ (fun i y o hy=>hf i y o (List.mem_cons_of_mem _ hy)) (hf i x o List.mem_cons_self h)
theorem allF_all {p:List StepD} (hp:ProgOk p):∀ (n:Nat) (w:WayD) (out:List WayD),OnWay p w n→(∀ y∈out,wWay y≤42)→∀ y∈allF p n w out,wWay y≤42
 | 0,w,out,_,h=>h
 | n+1,w,out,hw,h=>by
  by_cases h2:out.length > 64
  · rw [allF_many h2];exact h
  · have hi:(lastA w).toNat < p.length:=by have:=hw.a0;have:=hw.a1;omega
    have gs:p[(lastA w).toNat]? = some p[(lastA w).toNat]:=List.getElem?_eq_getElem hi
    cases hk:(p[(lastA w).toNat].kind == 11) with
    | true =>
     rw [allF_end (by omega) gs hk]
     intro x hx
     rcases List.mem_append.1 hx with hx|hx
     · exact h x hx
     · rw [List.mem_singleton] at hx
       subst hx
       have h3:=hw.l1
       have h4:=hw.l2
       show x.steps.length+x.turns.length≤42
       omega
    | false =>
     rw [allF_step (by omega) gs hk]
     exact foldW_all _ _ _ (fun i x o hx ho=>allF_all hp n _ o (on_next hp hw gs hx) ho) h
theorem dw_ex (code:List Int) (hl:code.length≤9223372036854775807) (h8:∀ b∈code,0≤b∧b≤255) :
 ∃ (p:List StepD) (ctx:List Int),p.length≤20∧ctx.length=8∧FCt prog F_spec_DrawWayOf [.ro] [.sl 1 (code.map Ub)] (.tup [steps p,ints ctx]) []:=by
 obtain ⟨p,l,pl,ll,f1⟩:=tr_ex code hl h8
 refine ⟨p,l,pl,ll,?_⟩
 refine fct_run spec_DrawWayOf.ok rfl ?_
 simp only [go_sem]
 refine fcW_bd f1 (noRs_t2 noRs_steps noRs_ints) ?_
 simp only [go_sem,take_map_len]
theorem wt_ex (code:List Int) (hl:code.length≤9223372036854775807) (h8:∀ b∈code,0≤b∧b≤255) :
 ∃ (p:List StepD),p.length≤20∧FCt prog F_spec_DrawWaysThrough [.ro] [.sl 1 (code.map Ub)] (steps p) []:=by
 obtain ⟨p,c1,pl,ok1,f1⟩:=prog_ex (curS code) (curS_ok hl h8 (by omega))
 refine ⟨p,pl,?_⟩
 have d1:FCt prog F_spec_DrawGoodProgram [.ro] [.sl 1 (code.map Ub)] (steps p) []:=by
  refine fct_run spec_DrawGoodProgram.ok rfl ?_
  simp only [go_sem]
  refine coW_c f1 ?_
  simp only [go_sem,take_map_len]
 refine fct_run spec_DrawWaysThrough.ok rfl ?_
 simp only [go_sem]
 refine fcW_bd d1 noRs_steps ?_
 simp only [go_sem,take_map_len]
theorem laws_sameWay.fc (w:WayD) (l1:w.steps.length≤4294967296) (l2:w.turns.length≤4294967296):FCt prog F_laws_sameWay [.ro,.ro] [w.d,w.d] (Bb true) []:=by
 have s1:=laws_sameInts.fc w.steps w.steps l1 l1
 rw [show decide (w.steps=w.steps)=true by simp] at s1
 have s2:=laws_sameBools.fc w.turns w.turns l2 l2
 rw [show decide (w.turns=w.turns)=true by simp] at s2
 refine fct_run laws_sameWay.ok rfl ?_
 simp only [go_sem]
 refine fcW_bool s1 ?_
 simp only [go_sem]
 refine fcW_bool s2 ?_
 simp only [go_sem]
theorem waysV_each {p:List StepD}:∀ x∈(waysV p).1,wWay x≤42:=by
 unfold waysV
 split
 · rename_i h
   simp only [Bool.and_eq_true] at h
   exact allF_all (prog_ok h.1) _ _ _ (w0_on (prog_ok h.1)) (fun w h=>by cases h)
 · intro x h;cases h
theorem exit_kind {p:List StepD} {i:Nat} {s:StepD} (gs:p[i]? = some s):exitB p i=(s.kind == 11):=by unfold exitB;rw [gs]
theorem filt_step {α:Type} {f:α→Bool} {l:List α} {k:Nat} (h:k < l.length):(((l.take (k+1)).filter f).length:Int)=((l.take k).filter f).length+if f l[k] then 1 else 0:=by
 rw [take_succ' h,List.filter_append,List.length_append]
 simp only [List.filter_cons,List.filter_nil]
 split<;>simp
def BoxWd (M:Mem) (w:WayD):Prop:=M.m 1408=some (.box 1280 (.agg [.sl 1152 1024 0 w.steps.length 1,.sl 1153 1025 0 w.turns.length 1]))∧M.m 1152=some (.arr 1024 true 1 (w.steps.map Ii))∧M.m 1153=some (.arr 1025 true 1 (w.turns.map Bb))
theorem laws_FnWays.fc (code more:List Int) (wc:code.length≤9223372036854775807) (wm:more.length≤9223372036854775807) (bc:∀ b∈code,0≤b∧b≤255) (bm:∀ b∈more,0≤b∧b≤255) :
 FCt prog F_laws_FnWays [.ro,.ro] [.sl 1 (code.map Ub),.sl 1 (more.map Ub)] (Bb true) []:=by
 obtain ⟨p,ctx,pl,cl,d1⟩:=dw_ex code wc bc
 obtain ⟨q,ql,d2⟩:=wt_ex more wm bm
 have c1:=impl_WayOf.fc p ctx (by omega) (by omega)
 have c2:=spec_WayOf.fc p ctx (by omega) (by omega)
 have c3:=impl_WaysThrough.fc p (by omega)
 have q1:=impl_WaysThrough.fc q (by omega)
 have q2:=spec_WaysThrough.fc q (by omega)
 have pe:=waysV_each (p:=p)
 have qe:=waysV_each (p:=q)
 have pf:=waysV_few p
 have qf:=waysV_few q
 have ww:=wayV_w p ctx
 have pa:=ways_all (p:=p)
 have fo:=full_one (p:=p) ctx
 have rw':=fun (w:WayD)=>run_way (p:=p) (ctx:=ctx) (w:=w)
 generalize wayV p ctx=wo at *
 obtain ⟨w,ok⟩:=wo
 generalize waysV p=lo at *
 obtain ⟨l,one⟩:=lo
 generalize waysV q=qo at *
 obtain ⟨a,three⟩:=qo
 dsimp only at c1 c2 c3 q1 q2 pe qe pf qf ww pa fo rw'
 unfold wWay at ww
 have s1:=laws_sameWay.fc w (by omega) (by omega)
 have x1:(ok != ok)=false:=by simp
 have x2:(three != three)=false:=by simp
 have x3:((a.length:Int) != (a.length:Int))=false:=by simp
 refine fct_run laws_FnWays.ok rfl ?_
 simp only [go_sem]
 refine cdW_any (fun hlen=>?_) (fun hlen=>?_)
 · simp only [go_sem];try rfl
 simp only [go_sem,take_map_len]
 refine fcW_bd d1 (noRs_t2 noRs_steps noRs_ints) ?_
 simp only [go_sem,take_map_len]
 refine fcW_bd c1 (noRs_t2 noRs_Way rfl) ?_
 simp only [go_sem,take_map_len]
 refine fcW_bd c2 (noRs_t2 noRs_Way rfl) ?_
 simp only [go_sem,take_map_len,x1]
 refine fcW_bool s1 ?_
 simp only [go_sem,take_map_len]
 refine fcW_bd c3 (noRs_t2 noRs_ways rfl) ?_
 simp only [go_sem,take_map_len]
 refine cdW_cut (fun e _ _=>e=.n) ?_ ?_
 · cases one
   · simp only [go_sem]
   · obtain ⟨hg,rfl,h64⟩:=pa rfl
     have hp:=prog_ok hg
     have w1:IntKind.i64.wrap ((p.length:Int) - 1)=(p.length:Int) - 1:=wrap_in (by omega) (by omega)
     simp only [go_sem,w1]
     have pl2:=hp.len
     have ea:=ends_all hp
     have wb:∀ k,0≤(wayN p p.length).getD k 0∧(wayN p p.length).getD k 0≤1048576:=fun k=>by
      have h1:=wayN_in hp p.length (Nat.le_refl _) k
      have h2:=pow_20 (i:=p.length) (by omega)
      omega
     have eb:=endN_in (p:=p) wb (by decide)
     have kc:=fun (k:Nat) (h:k < p.length)=>impl_WayCount.fc p k hg h
     generalize wayN p p.length=W at ea wb eb kc
     have fo2:=fo hg
     have wg:=fun x (h:x∈allW p)=>(way_good hg x).1 h
     generalize allW p=l at *
     refine R_loop (α:=Nat) (fun k s' M'=>k≤p.length∧s' 15=aI k∧s' 14=aI (endN p W k)∧BoxWd M' w) (fun k=>p.length - k) 0 ⟨Nat.zero_le _,by simp only [go_sem];try rfl,by simp only [go_sem];try rfl,by simp only [go_sem];try rfl,by simp only [go_sem];try rfl,by simp only [go_sem];try rfl⟩ ?_
     rintro k s' M' ⟨hk,g15,g14,b1,b2,b3⟩ ho
     unfold laws_FnWays.b0
     have j5:s' 5=.dat none (steps p):=by rw [ho 5 rfl];simp only [go_sem]
     have j6:s' 6=.dat none (ints ctx):=by rw [ho 6 rfl];simp only [go_sem]
     have j7:s' 7=.ptr 1408 1280 0 none:=by rw [ho 7 rfl];simp only [go_sem]
     have j8:s' 8=aB ok:=by rw [ho 8 rfl];simp only [go_sem]
     have j11:s' 11=.dat none (ways l):=by rw [ho 11 rfl];simp only [go_sem]
     have j13:s' 13=aI ((p.length:Int) - 1):=by rw [ho 13 rfl];simp only [go_sem]
     clear ho
     by_cases hlt:k < p.length
     · have hi':(k:Int)≤(p.length:Int) - 1:=by omega
       have hi2:(k:Int) < p.length:=by omega
       have hw:IntKind.i64.wrap ((k:Int)+1)=((k+1:Nat):Int):=wrap_k hlt (by omega)
       have gs:p[k]? = some p[k]:=List.getElem?_eq_getElem hlt
       have ek:=exit_kind gs
       have es:endN p W (k+1)=endN p W k+if exitB p k then W.getD k 0 else 0:=rfl
       generalize p[k]=s at gs ek
       have f1:=kc k hlt
       have e1:=eb k
       have e2:=wb k
       generalize W.getD k 0=z at f1 es e2
       have wz:IntKind.i64.wrap (endN p W k+z)=endN p W k+z:=wrap_in (by omega) (by omega)
       rw [ek] at es
       simp only [go_sem,hi',hi2,gs,j5,j6,j7,j8,j11,j13,g15,g14,b1,b2,b3]
       refine fcW_bd f1 rfl ?_
       simp only [go_sem,hi',hi2,gs,j5,j6,j7,j8,j11,j13,g15,g14,b1,b2,b3]
       cases h11:(s.kind == 11) with
       | true =>
        rw [h11,if_pos rfl] at es
        simp only [go_sem,wz,hw,j5,j6,j7,j8,j11,j13,g15,g14,b1,b2,b3]
        exact ⟨k+1,by dsimp only;omega,by omega,by simp only [go_sem,j5,j6,j7,j8,j11,j13,g15,g14,b1,b2,b3],by simp only [go_sem,es,j5,j6,j7,j8,j11,j13,g15,g14,b1,b2,b3],by simp only [go_sem,j5,j6,j7,j8,j11,j13,g15,g14,b1,b2,b3],by simp only [go_sem,j5,j6,j7,j8,j11,j13,g15,g14,b1,b2,b3],by simp only [go_sem,j5,j6,j7,j8,j11,j13,g15,g14,b1,b2,b3]⟩
       | false =>
        rw [h11] at es
        simp only [Bool.false_eq_true,if_false,Int.add_zero] at es
        simp only [go_sem,hw,j5,j6,j7,j8,j11,j13,g15,g14,b1,b2,b3]
        exact ⟨k+1,by dsimp only;omega,by omega,by simp only [go_sem,j5,j6,j7,j8,j11,j13,g15,g14,b1,b2,b3],by simp only [go_sem,es,j5,j6,j7,j8,j11,j13,g15,g14,b1,b2,b3],by simp only [go_sem,j5,j6,j7,j8,j11,j13,g15,g14,b1,b2,b3],by simp only [go_sem,j5,j6,j7,j8,j11,j13,g15,g14,b1,b2,b3],by simp only [go_sem,j5,j6,j7,j8,j11,j13,g15,g14,b1,b2,b3]⟩
     · obtain rfl:k=p.length:=by omega
       have hi':¬ ((p.length:Nat):Int)≤(p.length:Int) - 1:=by omega
       have xl:((l.length:Int) != (l.length:Int))=false:=by simp
       simp only [go_sem,hi',ea,xl,j5,j6,j7,j8,j11,j13,g15,g14,b1,b2,b3]
       refine R_loop (α:=Nat) (fun k s' M'=>k≤l.length∧s' 99=aI k∧s' 18=aI (((l.take k).filter (fullB p ctx)).length:Int)∧BoxWd M' w) (fun k=>l.length - k) 0 ⟨Nat.zero_le _,by simp only [go_sem,j5,j6,j7,j8,j11,j13,g15,g14,b1,b2,b3];try rfl,by simp only [go_sem,j5,j6,j7,j8,j11,j13,g15,g14,b1,b2,b3];try rfl,by simp only [go_sem,j5,j6,j7,j8,j11,j13,g15,g14,b1,b2,b3];try rfl,by simp only [go_sem,j5,j6,j7,j8,j11,j13,g15,g14,b1,b2,b3];try rfl,by simp only [go_sem,j5,j6,j7,j8,j11,j13,g15,g14,b1,b2,b3];try rfl⟩ ?_
       rintro k s2 M2 ⟨hk,g99,g18,b4,b5,b6⟩ ho
       unfold laws_FnWays.b1
       have t5:s2 5=.dat none (steps p):=by rw [ho 5 rfl];simp only [go_sem,j5,j6,j7,j8,j11,j13,g15,g14,b1,b2,b3]
       have t6:s2 6=.dat none (ints ctx):=by rw [ho 6 rfl];simp only [go_sem,j5,j6,j7,j8,j11,j13,g15,g14,b1,b2,b3]
       have t7:s2 7=.ptr 1408 1280 0 none:=by rw [ho 7 rfl];simp only [go_sem,j5,j6,j7,j8,j11,j13,g15,g14,b1,b2,b3]
       have t8:s2 8=aB ok:=by rw [ho 8 rfl];simp only [go_sem,j5,j6,j7,j8,j11,j13,g15,g14,b1,b2,b3]
       have t97:s2 97=.dat none (ways l):=by rw [ho 97 rfl];simp only [go_sem,j5,j6,j7,j8,j11,j13,g15,g14,b1,b2,b3]
       have t98:s2 98=aI l.length:=by rw [ho 98 rfl];simp only [go_sem,j5,j6,j7,j8,j11,j13,g15,g14,b1,b2,b3]
       clear ho
       by_cases hlt:k < l.length
       · have hi':(k:Int) < l.length:=by omega
         have hw:IntKind.i64.wrap ((k:Int)+1)=((k+1:Nat):Int):=wrap_k hlt (by omega)
         have ga:l[k]? = some l[k]:=List.getElem?_eq_getElem hlt
         have he:=pe l[k] (List.getElem_mem hlt)
         have hgw:=wg l[k] (List.getElem_mem hlt)
         have fst:=filt_step (f:=fullB p ctx) hlt
         have ff:((l.take k).filter (fullB p ctx)).length≤k:=Nat.le_trans (List.length_filter_le _ _) (by rw [List.length_take];omega)
         generalize l[k]=x at ga he hgw fst
         have f1:=impl_FollowWay.fc p ctx x (by omega) (by omega) (by omega)
         have f2:=impl_GoodWay.fc p x (by omega) (by omega)
         rw [hgw] at f2
         have hfull:fullB p ctx x=((followV p ctx x).2&&((followV p ctx x).1.2 == 0)&&((followV p ctx x).1.1 == (x.steps.length:Int))):=rfl
         have hrw:=rw' x hgw
         rw [hfull] at fst hrw
         generalize followV p ctx x=F at *
         obtain ⟨⟨F1,F2⟩,F3⟩:=F
         dsimp only at f1 fst hrw hfull
         generalize ((l.take k).filter (fullB p ctx)).length=N at *
         have wn:IntKind.i64.wrap ((N:Int)+1)=(N:Int)+1:=wrap_in (by omega) (by omega)
         simp only [go_sem,hi',ga,j5,j6,j7,j8,j11,j13,g15,g14,b1,b2,b3,t5,t6,t7,t8,t97,t98,g99,g18,b4,b5,b6]
         refine fcW_bd f1 rfl ?_
         simp only [go_sem,j5,j6,j7,j8,j11,j13,g15,g14,b1,b2,b3,t5,t6,t7,t8,t97,t98,g99,g18,b4,b5,b6]
         refine fcW_bool f2 ?_
         simp only [go_sem,j5,j6,j7,j8,j11,j13,g15,g14,b1,b2,b3,t5,t6,t7,t8,t97,t98,g99,g18,b4,b5,b6]
         cases F3 with
         | false =>
          simp only [Bool.false_and,Bool.false_eq_true,if_false,Int.add_zero] at fst
          simp only [go_sem,hw,j5,j6,j7,j8,j11,j13,g15,g14,b1,b2,b3,t5,t6,t7,t8,t97,t98,g99,g18,b4,b5,b6]
          exact ⟨k+1,by dsimp only;omega,by omega,by simp only [go_sem,j5,j6,j7,j8,j11,j13,g15,g14,b1,b2,b3,t5,t6,t7,t8,t97,t98,g99,g18,b4,b5,b6],by simp only [go_sem,fst,j5,j6,j7,j8,j11,j13,g15,g14,b1,b2,b3,t5,t6,t7,t8,t97,t98,g99,g18,b4,b5,b6],by simp only [go_sem,j5,j6,j7,j8,j11,j13,g15,g14,b1,b2,b3,t5,t6,t7,t8,t97,t98,g99,g18,b4,b5,b6],by simp only [go_sem,j5,j6,j7,j8,j11,j13,g15,g14,b1,b2,b3,t5,t6,t7,t8,t97,t98,g99,g18,b4,b5,b6],by simp only [go_sem,j5,j6,j7,j8,j11,j13,g15,g14,b1,b2,b3,t5,t6,t7,t8,t97,t98,g99,g18,b4,b5,b6]⟩
         | true =>
          cases h2:(F2 == 0) with
          | false =>
           rw [h2] at fst
           simp only [Bool.true_and,Bool.false_and,Bool.false_eq_true,if_false,Int.add_zero] at fst
           simp only [go_sem,hw,h2,j5,j6,j7,j8,j11,j13,g15,g14,b1,b2,b3,t5,t6,t7,t8,t97,t98,g99,g18,b4,b5,b6]
           exact ⟨k+1,by dsimp only;omega,by omega,by simp only [go_sem,j5,j6,j7,j8,j11,j13,g15,g14,b1,b2,b3,t5,t6,t7,t8,t97,t98,g99,g18,b4,b5,b6],by simp only [go_sem,fst,j5,j6,j7,j8,j11,j13,g15,g14,b1,b2,b3,t5,t6,t7,t8,t97,t98,g99,g18,b4,b5,b6],by simp only [go_sem,j5,j6,j7,j8,j11,j13,g15,g14,b1,b2,b3,t5,t6,t7,t8,t97,t98,g99,g18,b4,b5,b6],by simp only [go_sem,j5,j6,j7,j8,j11,j13,g15,g14,b1,b2,b3,t5,t6,t7,t8,t97,t98,g99,g18,b4,b5,b6],by simp only [go_sem,j5,j6,j7,j8,j11,j13,g15,g14,b1,b2,b3,t5,t6,t7,t8,t97,t98,g99,g18,b4,b5,b6]⟩
          | true =>
           cases h1:(F1 == (x.steps.length:Int)) with
           | false =>
            rw [h2,h1] at fst
            simp only [Bool.and_false,Bool.false_eq_true,if_false,Int.add_zero] at fst
            simp only [go_sem,hw,h2,h1,j5,j6,j7,j8,j11,j13,g15,g14,b1,b2,b3,t5,t6,t7,t8,t97,t98,g99,g18,b4,b5,b6]
            exact ⟨k+1,by dsimp only;omega,by omega,by simp only [go_sem,j5,j6,j7,j8,j11,j13,g15,g14,b1,b2,b3,t5,t6,t7,t8,t97,t98,g99,g18,b4,b5,b6],by simp only [go_sem,fst,j5,j6,j7,j8,j11,j13,g15,g14,b1,b2,b3,t5,t6,t7,t8,t97,t98,g99,g18,b4,b5,b6],by simp only [go_sem,j5,j6,j7,j8,j11,j13,g15,g14,b1,b2,b3,t5,t6,t7,t8,t97,t98,g99,g18,b4,b5,b6],by simp only [go_sem,j5,j6,j7,j8,j11,j13,g15,g14,b1,b2,b3,t5,t6,t7,t8,t97,t98,g99,g18,b4,b5,b6],by simp only [go_sem,j5,j6,j7,j8,j11,j13,g15,g14,b1,b2,b3,t5,t6,t7,t8,t97,t98,g99,g18,b4,b5,b6]⟩
           | true =>
            rw [h2,h1] at fst hrw
            simp only [Bool.and_self,if_true] at fst
            cases hrw rfl
            simp only [go_sem,hw,h2,h1,wn,take_map_len,j5,j6,j7,j8,j11,j13,g15,g14,b1,b2,b3,t5,t6,t7,t8,t97,t98,g99,g18,b4,b5,b6]
            refine fcW_bool s1 ?_
            simp only [go_sem,hw,j5,j6,j7,j8,j11,j13,g15,g14,b1,b2,b3,t5,t6,t7,t8,t97,t98,g99,g18,b4,b5,b6]
            exact ⟨k+1,by dsimp only;omega,by omega,by simp only [go_sem,j5,j6,j7,j8,j11,j13,g15,g14,b1,b2,b3,t5,t6,t7,t8,t97,t98,g99,g18,b4,b5,b6],by simp only [go_sem,fst,j5,j6,j7,j8,j11,j13,g15,g14,b1,b2,b3,t5,t6,t7,t8,t97,t98,g99,g18,b4,b5,b6],by simp only [go_sem,j5,j6,j7,j8,j11,j13,g15,g14,b1,b2,b3,t5,t6,t7,t8,t97,t98,g99,g18,b4,b5,b6],by simp only [go_sem,j5,j6,j7,j8,j11,j13,g15,g14,b1,b2,b3,t5,t6,t7,t8,t97,t98,g99,g18,b4,b5,b6],by simp only [go_sem,j5,j6,j7,j8,j11,j13,g15,g14,b1,b2,b3,t5,t6,t7,t8,t97,t98,g99,g18,b4,b5,b6]⟩
       · obtain rfl:k=l.length:=by omega
         rw [List.take_length] at g18
         have fe:(((l.filter (fullB p ctx)).length:Int) == 1)=ok:=by rw [fo2];cases ok<;>rfl
         simp only [go_sem,Int.lt_irrefl,g18,fe,x1,j5,j6,j7,j8,j11,j13,g15,g14,b1,b2,b3,t5,t6,t7,t8,t97,t98,g99,g18,b4,b5,b6]
 rintro e2 s' M' rfl ho
 have j1:s' 1=.dat none (.sl 1 (more.map Ub)):=by rw [ho 1 rfl];simp only [go_sem]
 clear ho
 simp only [go_sem,take_map_len,j1]
 refine fcW_bd d2 noRs_steps ?_
 simp only [go_sem,take_map_len,j1]
 refine fcW_bd q1 (noRs_t2 noRs_ways rfl) ?_
 simp only [go_sem,take_map_len,j1]
 refine fcW_bd q2 (noRs_t2 noRs_ways rfl) ?_
 simp only [go_sem,take_map_len,x2,x3,j1]
 refine R_loop (α:=Nat) (fun k s' M'=>k≤a.length∧s' 166=aI k) (fun k=>a.length - k) 0 ⟨Nat.zero_le _,by simp only [go_sem,j1];try rfl⟩ ?_
 rintro k s2 M2 ⟨hk,g166⟩ ho
 unfold laws_FnWays.b2
 have t25:s2 25=.dat none (ways a):=by rw [ho 25 rfl];simp only [go_sem,j1]
 have t27:s2 27=.dat none (ways a):=by rw [ho 27 rfl];simp only [go_sem,j1]
 have t165:s2 165=aI a.length:=by rw [ho 165 rfl];simp only [go_sem,j1]
 clear ho
 by_cases hlt:k < a.length
 · have hi':(k:Int) < a.length:=by omega
   have hw:IntKind.i64.wrap ((k:Int)+1)=((k+1:Nat):Int):=wrap_k hlt (by omega)
   have ga:a[k]? = some a[k]:=List.getElem?_eq_getElem hlt
   have he:=qe a[k] (List.getElem_mem hlt)
   generalize a[k]=x at ga he
   unfold wWay at he
   have f1:=laws_sameWay.fc x (by omega) (by omega)
   simp only [go_sem,hi',ga,j1,t25,t27,t165,g166]
   refine fcW_bool f1 ?_
   simp only [go_sem,hw,j1,t25,t27,t165,g166]
   exact ⟨k+1,by dsimp only;omega,by omega,by simp only [go_sem,j1,t25,t27,t165,g166]⟩
 · obtain rfl:k=a.length:=by omega
   simp only [go_sem,Int.lt_irrefl,j1,t25,t27,t165,g166]
theorem hasByte {d:D} (h:HasTy (.int .u8) d):∃ n:Int,d=.int .u8 n∧(0≤n∧n≤255):=by
 simp only [HasTy] at h
 obtain ⟨n,rfl,h⟩:=h
 refine ⟨n,rfl,?_⟩
 simp [Lit.wf,IntKind.has,IntKind.min,IntKind.max,IntKind.signed,IntKind.bits] at h
 exact ⟨by omega,by omega⟩
theorem hasBytes {d:D} (h:HasTy (.sl (.int .u8)) d):∃ l:List Int,d=.sl 1 (l.map (fun n=>(.int .u8 n:D)))∧l.length≤9223372036854775807∧∀ b∈l,0≤b∧b≤255 :=
 hasSl (f:=fun n=>(.int .u8 n:D)) (p:=fun b=>0≤b∧b≤255) (fun _ h=>hasByte h) h
end Go.Vm.Ytljjgfmappionaa
