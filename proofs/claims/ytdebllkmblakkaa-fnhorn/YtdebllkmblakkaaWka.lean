/- What the functions that the law reaches return: part 1 (the conditions stand at each). -/
import Derived.Test.YtdebllkmblakkaaIr
open Int renaming reduceEq → iQ, reduceBEq → iB, reduceBNe → iX, reduceNeg → iN, reduceAdd → iA, reduceSub → iS, reduceMul → iM
attribute [go_sem_proc] Nat.reduceEqDiff Nat.reduceAdd Nat.reduceMul Nat.reduceBEq Int.reduceToNat Nat.reduceSub Nat.reduceLT Nat.reduceLeDiff Int.reduceLE Int.reduceLT reduceCtorEq
attribute [go_sem_proc ↓] reduceIte
attribute [go_sem] Option.getD_none
namespace Go.Vm
open Go
set_option linter.unusedSimpArgs false
set_option linter.unusedVariables false
abbrev Ii (n:Int):D:=.int .i64 n
abbrev Bb (b:Bool):D:=.bool b
abbrev ints (l:List Int):D:=.sl 1 (l.map Ii)
abbrev aI (n:Int):AV:=.dat none (.int .i64 n)
abbrev aB (b:Bool):AV:=.dat none (.bool b)
def i64 (n:Int):Prop:=-9223372036854775808≤n∧n≤9223372036854775807
theorem wrap_k {k m:Nat} (h:k < m) (hm:m≤9223372036854775807):IntKind.i64.wrap ((k:Int)+1)=((k+1:Nat):Int):=by
 rw [wrap_in (by omega) (by omega)];rfl
theorem take_succ' {α:Type} {l:List α} {k:Nat} (h:k < l.length):l.take (k+1)=l.take k++[l[k]]:=by
 rw [List.take_succ_eq_append_getElem h]
theorem all_take {α:Type} {p:α→Bool} {l:List α} {k:Nat} (h:k < l.length) (h1:(l.take k).all p=true) (h2:p l[k]=true):(l.take (k+1)).all p=true:=by
 rw [take_succ' h,List.all_append,h1];simpa using h2
theorem not_all {α:Type} {p:α→Bool} {l:List α} {k:Nat} (h:k < l.length) (h2:p l[k]=false):l.all p=false:=by
 rw [← Bool.not_eq_true,List.all_eq_true]
 intro hh
 have:=hh _ (List.getElem_mem h)
 rw [h2] at this;cases this
section
variable {α:Type} {f:α→D} {z:D} {l:List α} {k:Nat}
theorem take_map_len:(l.map f).take l.length=l.map f:=by rw [List.take_of_length_le (by simp)]
end
section
variable {α:Type} {A B:List α} {k:Nat}
end
def RowAt (x:AV) (M:Mem) (nm sz:Nat) (ds:List D):Prop:=(ds=[]∧x=.nil sz)∨∃ v,x=.sl nm v 0 ds.length sz∧M.m nm=some (.arr v true sz ds)
theorem RowAt.nil {M:Mem} {nm sz:Nat}:RowAt (.nil sz) M nm sz []:=.inl ⟨rfl,rfl⟩
theorem RowAt.sl {x:AV} {M:Mem} {nm sz v n:Nat} {ds:List D} (hx:x=.sl nm v 0 n sz) (hn:n=ds.length) (hm:M.m nm=some (.arr v true sz ds)):RowAt x M nm sz ds:=.inr ⟨v,by rw [hx,hn],hm⟩
section
variable {α:Type} {f:Int→α→α} {c:α→Nat}
end
theorem noRsL_all:∀ {ds:List D},(∀ d∈ds,noRs d=true)→noRsL ds=true
 | [],_=>rfl
 | d::ds,h=>by simp only [noRsL,Bool.and_eq_true];exact ⟨h d List.mem_cons_self,noRsL_all fun x hx=>h x (List.mem_cons_of_mem _ hx)⟩
theorem noRs_sl {sz:Nat} {ds:List D} (h:∀ d∈ds,noRs d=true):noRs (.sl sz ds)=true:=by simp only [noRs];exact noRsL_all h
theorem noRs_ints {l:List Int}:noRs (ints l)=true:=noRs_sl (by simp [noRs])
section
variable {P:Program} {s:Nat→AV} {M:Mem} {nb ib:Nat}
theorem frzR_caps:∀ (caps:List D),frzR s M ((caps.map bindC).map X.k)=some caps
 | []=>rfl
 | c::caps=>by simp only [List.map_cons,frzR,ev_k,frz_bindC,frzR_caps caps]
theorem frzR_app:∀ (xs ys:List X),frzR s M (xs++ys)=match frzR s M xs,frzR s M ys with|some a,some b=>some (a++b)|_,_=>none
 | [],ys=>by simp only [List.nil_append,frzR];cases frzR s M ys<;>rfl
 | x::xs,ys=>by
  simp only [List.cons_append,frzR,frzR_app xs ys]
  cases frz M 8 (x.ev s)<;>cases frzR s M xs<;>cases frzR s M ys<;>rfl
theorem ccl_ro {f:FuncId} {caps:List D} {args:List X} {ds:List D} {K:AV→Mem→(Nat→Bool)→Prop} (ha:frzR s M args=some ds)
 (h:@fcW P f (args.map (fun _=>Md.ro)++caps.map fun _=>Md.ro) (ds++caps) false ((args++(caps.map bindC).map X.k).all fun x=>coldA (x.ev s)) nb ib M ⟨K⟩):@cW P (.clo f (caps.map bindC)) s M nb ib false args ⟨K⟩:=by
 rw [cW_clo,CR_ro,frzR_app,ha,frzR_caps]
 have e:((args++(caps.map bindC).map X.k).map fun _=>Md.ro)=(args.map (fun _=>Md.ro)++caps.map fun _=>Md.ro):=by simp [List.map_map,Function.comp_def]
 rw [e]
 exact h
end
def idxB {α:Type} (p:α→Bool) (l:List α):Int:=match l.findIdx? p with
 | some i=>i
 | none=>-1
theorem idxB_none {α:Type} {p:α→Bool} {l:List α} (h:l.all (fun x=>!p x)=true):idxB p l = -1:=by
 unfold idxB
 rw [List.findIdx?_eq_none_iff.2 (fun x hx=>by simpa using List.all_eq_true.1 h x hx)]
theorem idxB_some {α:Type} {p:α→Bool} {l:List α} {k:Nat} (hk:k < l.length) (h:(l.take k).all (fun x=>!p x)=true) (hp:p l[k]=true):idxB p l=k:=by
 unfold idxB
 rw [List.findIdx?_eq_some_iff_getElem.2 ⟨hk,hp,fun j hj=>by
  have:=List.all_eq_true.1 h l[j] (by rw [List.mem_take_iff_getElem];exact ⟨j,by omega,rfl⟩)
  simpa using this⟩]
theorem idxB_any {α:Type} {p:α→Bool} {l:List α}:decide (0≤idxB p l)=l.any p:=by
 unfold idxB
 cases h:l.findIdx? p with
 | none =>
  rw [List.findIdx?_eq_none_iff] at h
  rw [List.any_eq_false.2 (fun x hx=>by simp [h x hx])];rfl
 | some i =>
  rw [List.findIdx?_eq_some_iff_getElem] at h
  obtain ⟨hi,hp,_⟩:=h
  rw [List.any_eq_true.2 ⟨l[i],List.getElem_mem hi,hp⟩]
  simp
end Go.Vm
namespace Go.Vm.Ytdebllkmblakkaa
open Go Go.Vm
set_option maxRecDepth 10000
set_option maxHeartbeats 4000000
set_option linter.unusedSimpArgs false
set_option linter.unusedVariables false
def inB (n lo hi:Int):Bool:=decide (lo≤n)&&decide (n≤hi)
theorem impl_in.fc (n lo hi:Int):FCt prog F_impl_in [.ro,.ro,.ro] [Ii n,Ii lo,Ii hi] (Bb (inB n lo hi)) []:=by
 refine fct_run impl_in.ok rfl ?_
 unfold inB
 by_cases h:lo≤n
 · simp only [go_sem,ge_iff_le,h]
 · simp only [go_sem,ge_iff_le,h]
theorem spec_l1In.fc (n lo hi:Int):FCt prog F_spec_l1In [.ro,.ro,.ro] [Ii n,Ii lo,Ii hi] (Bb (inB n lo hi)) []:=by
 refine fct_run spec_l1In.ok rfl ?_
 unfold inB
 by_cases h:lo≤n
 · simp only [go_sem,ge_iff_le,h]
 · simp only [go_sem,ge_iff_le,h]
structure RuleD where
 ifs:List Int
 thn:Int
 deriving DecidableEq
abbrev RuleD.d (r:RuleD):D:=.agg [ints r.ifs,Ii r.thn]
abbrev rules (l:List RuleD):D:=.sl 2 (l.map RuleD.d)
theorem noRs_rule {r:RuleD}:noRs r.d=true:=by simp [noRs,noRsL,noRsL_all]
theorem noRs_rules {l:List RuleD}:noRs (rules l)=true:=noRs_sl (by
 intro d hd
 obtain ⟨r,_,rfl⟩:=List.mem_map.1 hd
 exact noRs_rule)
def risAt (lo hi:Int) (l:List Int) (k:Nat):Bool:=inB (l.getD k 0) lo hi&&!(decide (0 < k)&&decide (l.getD k 0≤l.getD (k - 1) 0))
def rising (lo hi:Int) (l:List Int):Bool:=(List.range l.length).all (risAt lo hi l)
theorem ris_step {lo hi:Int} {l:List Int} {k:Nat} (h:(List.range k).all (risAt lo hi l)=true) (h2:risAt lo hi l k=true):(List.range (k+1)).all (risAt lo hi l)=true:=by
 rw [List.range_succ,List.all_append,h];simpa using h2
theorem ris_not {lo hi:Int} {l:List Int} {k:Nat} (hk:k < l.length) (h2:risAt lo hi l k=false):rising lo hi l=false:=by
 unfold rising
 rw [← Bool.not_eq_true,List.all_eq_true]
 intro h
 have:=h k (by simpa using hk)
 rw [h2] at this;cases this
theorem spec_l1Rising.fc (l:List Int) (lo hi:Int) (hl:l.length≤4294967296):FCt prog F_spec_l1Rising [.ro,.ro,.ro] [ints l,Ii lo,Ii hi] (Bb (rising lo hi l)) []:=by
 refine fct_run spec_l1Rising.ok rfl ?_
 simp only [go_sem]
 refine R_loop (α:=Nat) (fun k s' M'=>k≤l.length∧s' 11=aI k∧(List.range k).all (risAt lo hi l)=true) (fun k=>l.length - k) 0 ⟨by omega,by simp only [go_sem];rfl,by simp⟩ ?_
 rintro k s' M' ⟨hk,h11,hr⟩ ho
 have h0:s' 0=.dat none (ints l):=by rw [ho 0 rfl];simp only [go_sem]
 have h1:s' 1=aI lo:=by rw [ho 1 rfl];simp only [go_sem]
 have h2:s' 2=aI hi:=by rw [ho 2 rfl];simp only [go_sem]
 have h9:s' 9=.dat none (ints l):=by rw [ho 9 rfl];simp only [go_sem]
 have h10:s' 10=aI l.length:=by rw [ho 10 rfl];simp only [go_sem]
 clear ho
 unfold spec_l1Rising.b0
 by_cases hlt:k < l.length
 · have hi':(k:Int) < l.length:=by omega
   have ga:l[k]? = some l[k]:=List.getElem?_eq_getElem hlt
   have gd:l.getD k 0=l[k]:=by simp [hlt]
   have hw:IntKind.i64.wrap (k+1)=((k+1:Nat):Int):=wrap_k hlt (by omega)
   simp only [go_sem,h0,h1,h2,h9,h10,h11,hi',ga]
   refine fcW_bool (spec_l1In.fc _ _ _) ?_
   cases hin:inB l[k] lo hi with
   | false =>
    have hn:rising lo hi l=false:=ris_not hlt (by simp only [risAt,gd,hin,Bool.false_and])
    simp only [go_sem,hn]
   | true =>
    by_cases hk0:0 < k
    · have hk0':(k:Int) > 0:=by omega
      have gb:l[k - 1]? = some l[k - 1]:=List.getElem?_eq_getElem (by omega)
      have gd1:l.getD (k - 1) 0=l[k - 1]:=by rw [List.getD_eq_getElem?_getD,gb];rfl
      have hw1:IntKind.i64.wrap (k - 1)=((k - 1:Nat):Int):=by rw [wrap_in (by omega) (by omega)];omega
      have hi1:((k - 1:Nat):Int) < l.length:=by omega
      have hr2:risAt lo hi l k = !decide (l[k - 1] ≥ l[k]):=by simp only [risAt,gd,gd1,hin,hk0,decide_true,Bool.true_and,ge_iff_le]
      simp only [go_sem,h0,h1,h2,h9,h10,h11,hk0',gb,hw1,hi1,hw]
      refine cdW_dec (fun e=>?_) (fun e=>?_)
      · have hn:rising lo hi l=false:=ris_not hlt (by rw [hr2,decide_eq_true e];rfl)
        simp only [go_sem,hn]
      · simp only [go_sem,h11,hw]
        exact ⟨k+1,by dsimp only;omega,by omega,by simp only [go_sem],ris_step hr (by rw [hr2,decide_eq_false e];rfl)⟩
    · have hk0':¬ (k:Int) > 0:=by omega
      simp only [go_sem,h0,h1,h2,h9,h10,h11,hk0',hw]
      exact ⟨k+1,by dsimp only;omega,by omega,by simp only [go_sem],ris_step hr (by simp only [risAt,gd,hin,hk0,decide_false,Bool.false_and,Bool.not_false,Bool.and_true])⟩
 · have hi':¬ (k:Int) < l.length:=by omega
   have hkl:k=l.length:=by omega
   subst hkl
   simp only [go_sem,h0,h1,h2,h9,h10,h11,hi']
   exact congrArg D.bool hr.symm
theorem spec_l16Facts.fc (l:List Int) (n:Int) (hl:l.length≤4294967296):FCt prog F_spec_l16Facts [.ro,.ro] [Ii n,ints l] (Bb (rising 1 n l)) []:=by
 refine fct_run spec_l16Facts.ok rfl ?_
 simp only [go_sem]
 refine fcW_bool (spec_l1Rising.fc _ _ _ hl) ?_
 simp only [go_sem]
theorem impl_areFacts.fc (l:List Int) (hi:Int) (hl:l.length≤4294967296):FCt prog F_impl_areFacts [.ro,.ro] [ints l,Ii hi] (Bb (rising 1 hi l)) []:=by
 refine fct_run impl_areFacts.ok rfl ?_
 simp only [go_sem]
 refine R_loop (α:=Nat) (fun k s' M'=>k≤l.length∧s' 9=aI k∧(List.range k).all (risAt 1 hi l)=true) (fun k=>l.length - k) 0 ⟨by omega,by simp only [go_sem];rfl,by simp⟩ ?_
 rintro k s' M' ⟨hk,h9,hr⟩ ho
 have h0:s' 0=.dat none (ints l):=by rw [ho 0 rfl];simp only [go_sem]
 have h1:s' 1=aI hi:=by rw [ho 1 rfl];simp only [go_sem]
 have h7:s' 7=.dat none (ints l):=by rw [ho 7 rfl];simp only [go_sem]
 have h8:s' 8=aI l.length:=by rw [ho 8 rfl];simp only [go_sem]
 clear ho
 unfold impl_areFacts.b0
 by_cases hlt:k < l.length
 · have hi':(k:Int) < l.length:=by omega
   have ga:l[k]? = some l[k]:=List.getElem?_eq_getElem hlt
   have gd:l.getD k 0=l[k]:=by simp [hlt]
   have hw:IntKind.i64.wrap (k+1)=((k+1:Nat):Int):=wrap_k hlt (by omega)
   simp only [go_sem,h0,h1,h7,h8,h9,hi',ga]
   refine fcW_bool (impl_in.fc _ _ _) ?_
   cases hin:inB l[k] 1 hi with
   | false =>
    have hn:rising 1 hi l=false:=ris_not hlt (by simp only [risAt,gd,hin,Bool.false_and])
    simp only [go_sem,hn]
   | true =>
    by_cases hk0:0 < k
    · have hk0':(k:Int) > 0:=by omega
      have gb:l[k - 1]? = some l[k - 1]:=List.getElem?_eq_getElem (by omega)
      have gd1:l.getD (k - 1) 0=l[k - 1]:=by rw [List.getD_eq_getElem?_getD,gb];rfl
      have hw1:IntKind.i64.wrap (k - 1)=((k - 1:Nat):Int):=by rw [wrap_in (by omega) (by omega)];omega
      have hi1:((k - 1:Nat):Int) < l.length:=by omega
      have hr2:risAt 1 hi l k = !decide (l[k - 1] ≥ l[k]):=by simp only [risAt,gd,gd1,hin,hk0,decide_true,Bool.true_and,ge_iff_le]
      simp only [go_sem,h0,h1,h7,h8,h9,hk0',gb,hw1,hi1]
      refine cdW_dec (fun e=>?_) (fun e=>?_)
      · have hn:rising 1 hi l=false:=ris_not hlt (by rw [hr2,decide_eq_true e];rfl)
        simp only [go_sem,hn]
      · simp only [go_sem,h9,hw]
        exact ⟨k+1,by dsimp only;omega,by omega,by simp only [go_sem],ris_step hr (by rw [hr2,decide_eq_false e];rfl)⟩
    · have hk0':¬ (k:Int) > 0:=by omega
      simp only [go_sem,h0,h1,h7,h8,h9,hk0',hw]
      exact ⟨k+1,by dsimp only;omega,by omega,by simp only [go_sem],ris_step hr (by simp only [risAt,gd,hin,hk0,decide_false,Bool.false_and,Bool.not_false,Bool.and_true])⟩
 · have hi':¬ (k:Int) < l.length:=by omega
   have hkl:k=l.length:=by omega
   subst hkl
   simp only [go_sem,h0,h1,h7,h8,h9,hi']
   exact congrArg D.bool hr.symm
def goodRule (n:Int) (r:RuleD):Bool:=rising 1 n r.ifs&&inB r.thn 0 n
theorem impl_GoodRules_c1.fc (r:RuleD) (n:Int) (hl:r.ifs.length≤4294967296):FCt prog F_impl_GoodRules_c1 [.ro,.ro] [r.d,.ptr (Ii n)] (Bb (!goodRule n r)) []:=by
 refine fct_run impl_GoodRules_c1.ok rfl ?_
 simp only [go_sem]
 refine fcW_bool (impl_areFacts.fc _ _ hl) ?_
 unfold goodRule
 cases h:rising 1 n r.ifs with
 | false=>simp only [go_sem]
 | true =>
  simp only [go_sem]
  refine fcW_bool (impl_in.fc _ _ _) ?_
  simp only [go_sem]
theorem slices_IndexFunc__sRule_Rule.fc (l:List RuleD) (f:FuncId) (caps:List D) (p:RuleD→Bool) (hl:l.length≤4294967296)
 (h:∀ x∈l,FCt prog f (.ro::caps.map fun _=>.ro) (x.d::caps) (Bb (p x)) []):FCt prog F_slices_IndexFunc__sRule_Rule [.ro,.ro] [rules l,.clo f caps] (Ii (idxB p l)) []:=by
 refine fct_run slices_IndexFunc__sRule_Rule.ok rfl ?_
 simp only [go_sem]
 refine R_loop (α:=Nat) (fun k s' M'=>k≤l.length∧s' 8=aI k∧(l.take k).all (fun x=>!p x)=true) (fun k=>l.length - k) 0 ⟨by omega,by simp only [go_sem];rfl,by simp⟩ ?_
 rintro k s' M' ⟨hk,h8,hr⟩ ho
 have h0:s' 0=.dat none (rules l):=by rw [ho 0 rfl];simp only [go_sem]
 have h1:s' 1=.clo f (caps.map bindC):=by rw [ho 1 rfl];simp only [go_sem]
 have h7:s' 7=aI l.length:=by rw [ho 7 rfl];simp only [go_sem]
 clear ho
 unfold slices_IndexFunc__sRule_Rule.b0
 by_cases hlt:k < l.length
 · have hi':(k:Int) < l.length:=by omega
   have ga:l[k]? = some l[k]:=List.getElem?_eq_getElem hlt
   have hw:IntKind.i64.wrap (k+1)=((k+1:Nat):Int):=wrap_k hlt (by omega)
   simp only [go_sem,h0,h1,h7,h8,hi',ga]
   refine ccl_ro (ds:=[l[k].d]) (by simp only [go_sem]) ?_
   refine fcW_bool (h _ (List.getElem_mem hlt)) ?_
   cases hp:p l[k] with
   | true=>simp only [go_sem,idxB_some hlt hr hp]
   | false =>
    simp only [go_sem,h8,hw]
    exact ⟨k+1,by dsimp only;omega,by omega,by simp only [go_sem],all_take hlt hr (by simp [hp])⟩
 · have hi':¬ (k:Int) < l.length:=by omega
   rw [List.take_of_length_le (by omega)] at hr
   simp only [go_sem,h0,h1,h7,h8,hi',idxB_none hr]
theorem slices_ContainsFunc__sRule_Rule.fc (l:List RuleD) (f:FuncId) (caps:List D) (p:RuleD→Bool) (hl:l.length≤4294967296)
 (h:∀ x∈l,FCt prog f (.ro::caps.map fun _=>.ro) (x.d::caps) (Bb (p x)) []):FCt prog F_slices_ContainsFunc__sRule_Rule [.ro,.ro] [rules l,.clo f caps] (Bb (l.any p)) []:=by
 refine fct_run slices_ContainsFunc__sRule_Rule.ok rfl ?_
 simp only [go_sem]
 refine fcW_int (slices_IndexFunc__sRule_Rule.fc l f caps p hl h) ?_
 simp only [go_sem,ge_iff_le,idxB_any]
theorem any_not {α:Type} {p:α→Bool} {l:List α}:(!l.any fun x=>!p x)=l.all p:=by
 induction l with
 | nil=>rfl
 | cons x l ih=>simp only [List.any_cons,List.all_cons,← ih];cases p x<;>simp
def goodRules (n:Int) (l:List RuleD):Bool:=inB n 1 12&&decide (l.length≤30)&&l.all (goodRule n)
theorem impl_GoodRules.fc (l:List RuleD) (n:Int) (hl:l.length≤4294967296) (hr:∀ r∈l,r.ifs.length≤4294967296):FCt prog F_impl_GoodRules [.ro,.ro] [Ii n,rules l] (Bb (goodRules n l)) []:=by
 refine fct_run impl_GoodRules.ok rfl ?_
 simp only [go_sem]
 refine fcW_bool (impl_in.fc _ _ _) ?_
 unfold goodRules
 cases h1:inB n 1 12 with
 | false=>simp only [go_sem]
 | true =>
  by_cases h2:l.length≤30
  · have h2':(l.length:Int)≤30:=by omega
    simp only [go_sem,h2',h2]
    refine fcW_bool (slices_ContainsFunc__sRule_Rule.fc l _ [.ptr (Ii n)] (fun r=>!goodRule n r) hl fun r hm=>impl_GoodRules_c1.fc r n (hr r hm)) ?_
    simp only [go_sem,any_not,h2]
  · have h2':¬ (l.length:Int)≤30:=by omega
    simp only [go_sem,h2',h2]
theorem spec_GoodRules.fc (l:List RuleD) (n:Int) (hl:l.length≤4294967296) (hr:∀ r∈l,r.ifs.length≤4294967296):FCt prog F_spec_GoodRules [.ro,.ro] [Ii n,rules l] (Bb (goodRules n l)) []:=by
 refine fct_run spec_GoodRules.ok rfl ?_
 simp only [go_sem]
 refine R_loop (α:=Nat) (fun k s' M'=>k≤l.length∧s' 9=aI k∧(l.take k).all (goodRule n)=true) (fun k=>l.length - k) 0 ⟨by omega,by simp only [go_sem];rfl,by simp⟩ ?_
 rintro k s' M' ⟨hk,h9,hp⟩ ho
 have h0:s' 0=aI n:=by rw [ho 0 rfl];simp only [go_sem]
 have h1:s' 1=.dat none (rules l):=by rw [ho 1 rfl];simp only [go_sem]
 have h7:s' 7=.dat none (rules l):=by rw [ho 7 rfl];simp only [go_sem]
 have h8:s' 8=aI l.length:=by rw [ho 8 rfl];simp only [go_sem]
 clear ho
 unfold spec_GoodRules.b0
 by_cases hlt:k < l.length
 · have hi':(k:Int) < l.length:=by omega
   have ga:l[k]? = some l[k]:=List.getElem?_eq_getElem hlt
   have hw:IntKind.i64.wrap (k+1)=((k+1:Nat):Int):=wrap_k hlt (by omega)
   have bad:goodRule n l[k]=false→goodRules n l=false:=fun h=>by simp only [goodRules,not_all hlt h,Bool.and_false]
   simp only [go_sem,h0,h1,h7,h8,h9,hi',ga]
   refine fcW_bool (spec_l16Facts.fc _ _ (hr _ (List.getElem_mem hlt))) ?_
   cases h2:rising 1 n l[k].ifs with
   | false=>simp only [go_sem,bad (by simp only [goodRule,h2,Bool.false_and])]
   | true =>
    simp only [go_sem,h0]
    refine fcW_bool (spec_l1In.fc _ _ _) ?_
    cases h3:inB l[k].thn 0 n with
    | false=>simp only [go_sem,bad (by simp only [goodRule,h3,Bool.and_false])]
    | true =>
     simp only [go_sem,h9,hw]
     exact ⟨k+1,by dsimp only;omega,by omega,by simp only [go_sem],all_take hlt hp (by simp only [goodRule,h2,h3,Bool.and_self])⟩
 · have hi':¬ (k:Int) < l.length:=by omega
   rw [List.take_of_length_le (by omega)] at hp
   simp only [go_sem,h0,h1,h7,h8,h9,hi']
   refine fcW_bool (spec_l1In.fc _ _ _) ?_
   unfold goodRules
   rw [hp]
   cases h1':inB n 1 12 with
   | false=>simp only [go_sem]
   | true =>
    by_cases h2:l.length≤30
    · have h2':(l.length:Int)≤30:=by omega
      simp only [go_sem,h1,h2',h2]
    · have h2':¬ (l.length:Int)≤30:=by omega
      simp only [go_sem,h1,h2',h2]
abbrev pr (a b:Int):D:=.agg [Ii a,Ii b]
theorem spec_l1Least.fc (a b:Int):FCt prog F_spec_l1Least [.ro,.ro] [Ii a,Ii b] (Ii (if b < a then b else a)) []:=by
 refine fct_run spec_l1Least.ok rfl ?_
 by_cases h:a < b
 · have e:(if b < a then b else a)=a:=by split<;>omega
   simp only [go_sem,h,e]
 · have e:(if b < a then b else a)=b:=by split<;>omega
   simp only [go_sem,h,e]
abbrev arcD (a:Int×Int):D:=pr a.1 a.2
abbrev arcs (l:List (Int×Int)):D:=.sl 2 (l.map arcD)
abbrev intss (l:List (List Int)):D:=.sl 1 (l.map ints)
theorem noRs_intss {l:List (List Int)}:noRs (intss l)=true:=noRs_sl (by
 intro d hd
 obtain ⟨r,_,rfl⟩:=List.mem_map.1 hd
 exact noRs_ints)
theorem slices_IndexFunc__sint_int.fc (l:List Int) (f:FuncId) (caps:List D) (p:Int→Bool) (hl:l.length≤4294967296)
 (h:∀ x∈l,FCt prog f (.ro::caps.map fun _=>.ro) (Ii x::caps) (Bb (p x)) []):FCt prog F_slices_IndexFunc__sint_int [.ro,.ro] [ints l,.clo f caps] (Ii (idxB p l)) []:=by
 refine fct_run slices_IndexFunc__sint_int.ok rfl ?_
 simp only [go_sem]
 refine R_loop (α:=Nat) (fun k s' M'=>k≤l.length∧s' 8=aI k∧(l.take k).all (fun x=>!p x)=true) (fun k=>l.length - k) 0 ⟨by omega,by simp only [go_sem];rfl,by simp⟩ ?_
 rintro k s' M' ⟨hk,h8,hr⟩ ho
 have h0:s' 0=.dat none (ints l):=by rw [ho 0 rfl];simp only [go_sem]
 have h1:s' 1=.clo f (caps.map bindC):=by rw [ho 1 rfl];simp only [go_sem]
 have h7:s' 7=aI l.length:=by rw [ho 7 rfl];simp only [go_sem]
 clear ho
 unfold slices_IndexFunc__sint_int.b0
 by_cases hlt:k < l.length
 · have hi':(k:Int) < l.length:=by omega
   have ga:l[k]? = some l[k]:=List.getElem?_eq_getElem hlt
   have hw:IntKind.i64.wrap (k+1)=((k+1:Nat):Int):=wrap_k hlt (by omega)
   simp only [go_sem,h0,h1,h7,h8,hi',ga]
   refine ccl_ro (ds:=[Ii l[k]]) (by simp only [go_sem]) ?_
   refine fcW_bool (h _ (List.getElem_mem hlt)) ?_
   cases hp:p l[k] with
   | true=>simp only [go_sem,idxB_some hlt hr hp]
   | false =>
    simp only [go_sem,h8,hw]
    exact ⟨k+1,by dsimp only;omega,by omega,by simp only [go_sem],all_take hlt hr (by simp [hp])⟩
 · have hi':¬ (k:Int) < l.length:=by omega
   rw [List.take_of_length_le (by omega)] at hr
   simp only [go_sem,h0,h1,h7,h8,hi',idxB_none hr]
theorem slices_ContainsFunc__sint_int.fc (l:List Int) (f:FuncId) (caps:List D) (p:Int→Bool) (hl:l.length≤4294967296)
 (h:∀ x∈l,FCt prog f (.ro::caps.map fun _=>.ro) (Ii x::caps) (Bb (p x)) []):FCt prog F_slices_ContainsFunc__sint_int [.ro,.ro] [ints l,.clo f caps] (Bb (l.any p)) []:=by
 refine fct_run slices_ContainsFunc__sint_int.ok rfl ?_
 simp only [go_sem]
 refine fcW_int (slices_IndexFunc__sint_int.fc l f caps p hl h) ?_
 simp only [go_sem,ge_iff_le,idxB_any]
theorem slices_IndexFunc__ssint_sint.fc (l:List (List Int)) (f:FuncId) (caps:List D) (p:(List Int)→Bool) (hl:l.length≤4294967296)
 (h:∀ x∈l,FCt prog f (.ro::caps.map fun _=>.ro) (ints x::caps) (Bb (p x)) []):FCt prog F_slices_IndexFunc__ssint_sint [.ro,.ro] [intss l,.clo f caps] (Ii (idxB p l)) []:=by
 refine fct_run slices_IndexFunc__ssint_sint.ok rfl ?_
 simp only [go_sem]
 refine R_loop (α:=Nat) (fun k s' M'=>k≤l.length∧s' 8=aI k∧(l.take k).all (fun x=>!p x)=true) (fun k=>l.length - k) 0 ⟨by omega,by simp only [go_sem];rfl,by simp⟩ ?_
 rintro k s' M' ⟨hk,h8,hr⟩ ho
 have h0:s' 0=.dat none (intss l):=by rw [ho 0 rfl];simp only [go_sem]
 have h1:s' 1=.clo f (caps.map bindC):=by rw [ho 1 rfl];simp only [go_sem]
 have h7:s' 7=aI l.length:=by rw [ho 7 rfl];simp only [go_sem]
 clear ho
 unfold slices_IndexFunc__ssint_sint.b0
 by_cases hlt:k < l.length
 · have hi':(k:Int) < l.length:=by omega
   have ga:l[k]? = some l[k]:=List.getElem?_eq_getElem hlt
   have hw:IntKind.i64.wrap (k+1)=((k+1:Nat):Int):=wrap_k hlt (by omega)
   simp only [go_sem,h0,h1,h7,h8,hi',ga]
   refine ccl_ro (ds:=[ints l[k]]) (by simp only [go_sem]) ?_
   refine fcW_bool (h _ (List.getElem_mem hlt)) ?_
   cases hp:p l[k] with
   | true=>simp only [go_sem,idxB_some hlt hr hp]
   | false =>
    simp only [go_sem,h8,hw]
    exact ⟨k+1,by dsimp only;omega,by omega,by simp only [go_sem],all_take hlt hr (by simp [hp])⟩
 · have hi':¬ (k:Int) < l.length:=by omega
   rw [List.take_of_length_le (by omega)] at hr
   simp only [go_sem,h0,h1,h7,h8,hi',idxB_none hr]
theorem slices_ContainsFunc__ssint_sint.fc (l:List (List Int)) (f:FuncId) (caps:List D) (p:(List Int)→Bool) (hl:l.length≤4294967296)
 (h:∀ x∈l,FCt prog f (.ro::caps.map fun _=>.ro) (ints x::caps) (Bb (p x)) []):FCt prog F_slices_ContainsFunc__ssint_sint [.ro,.ro] [intss l,.clo f caps] (Bb (l.any p)) []:=by
 refine fct_run slices_ContainsFunc__ssint_sint.ok rfl ?_
 simp only [go_sem]
 refine fcW_int (slices_IndexFunc__ssint_sint.fc l f caps p hl h) ?_
 simp only [go_sem,ge_iff_le,idxB_any]
theorem spec_l1Has.fc (l:List Int) (n:Int) (hl:l.length≤4294967296):FCt prog F_spec_l1Has [.ro,.ro] [ints l,Ii n] (Bb (l.any (· == n))) []:=by
 refine fct_run spec_l1Has.ok rfl ?_
 simp only [go_sem]
 refine R_loop (α:=Nat) (fun k s' M'=>k≤l.length∧s' 9=aI k∧(l.take k).all (fun x=>!(x == n))=true) (fun k=>l.length - k) 0 ⟨by omega,by simp only [go_sem];rfl,by simp⟩ ?_
 rintro k s' M' ⟨hk,h9,hr⟩ ho
 have h1:s' 1=aI n:=by rw [ho 1 rfl];simp only [go_sem]
 have h7:s' 7=.dat none (ints l):=by rw [ho 7 rfl];simp only [go_sem]
 have h8:s' 8=aI l.length:=by rw [ho 8 rfl];simp only [go_sem]
 clear ho
 unfold spec_l1Has.b0
 by_cases hlt:k < l.length
 · have hi':(k:Int) < l.length:=by omega
   have ga:l[k]? = some l[k]:=List.getElem?_eq_getElem hlt
   have hw:IntKind.i64.wrap (k+1)=((k+1:Nat):Int):=wrap_k hlt (by omega)
   simp only [go_sem,h1,h7,h8,h9,hi',ga]
   refine cdW_any (fun e=>?_) (fun e=>?_)
   · have:l.any (· == n)=true:=List.any_eq_true.2 ⟨l[k],List.getElem_mem hlt,e⟩
     simp only [go_sem,this]
   · simp only [go_sem,h9,hw]
     exact ⟨k+1,by dsimp only;omega,by omega,by simp only [go_sem],all_take hlt hr (by simp [e])⟩
 · have hi':¬ (k:Int) < l.length:=by omega
   rw [List.take_of_length_le (by omega)] at hr
   have:l.any (· == n)=false:=by
    rw [List.any_eq_false];intro x hx;have:=List.all_eq_true.1 hr x hx;simpa using this
   simp only [go_sem,h1,h7,h8,h9,hi',this]
def putK (l:List Int) (x:Int):Nat:=l.findIdx (fun y=>!decide (y < x))
def putI (l:List Int) (x:Int):List Int:=if l[putK l x]? = some x then l else l.take (putK l x)++x::l.drop (putK l x)
theorem putK_at {l:List Int} {x:Int} {k:Nat} (hk:k < l.length) (h:(l.take k).all (fun y=>decide (y < x))=true) (h2:¬ l[k] < x):putK l x=k:=by
 unfold putK
 rw [List.findIdx_eq hk]
 refine ⟨by simp [h2],fun j hj=>?_⟩
 have:=List.all_eq_true.1 h l[j] (by rw [List.mem_take_iff_getElem];exact ⟨j,by omega,rfl⟩)
 simpa using this
theorem putK_end {l:List Int} {x:Int} (h:l.all (fun y=>decide (y < x))=true):putK l x=l.length:=by
 unfold putK
 rw [List.findIdx_eq_length]
 intro y hy
 have:=List.all_eq_true.1 h y hy
 simpa using this
theorem allSc {l:List Int}:(l.map Ii).all isSc=true:=by
 rw [List.all_eq_true];intro d hd;obtain ⟨x,_,rfl⟩:=List.mem_map.1 hd;rfl
theorem putL_len {l:List Int} {k:Nat} (hk:k≤l.length):(l.take k).length=k:=by rw [List.length_take];omega
theorem putI_len (l:List Int) (x:Int):(putI l x).length≤l.length+1:=by
 unfold putI
 split
 · omega
 · simp;omega
abbrev bools (l:List Bool):D:=.sl 1 (l.map Bb)
def hasI (so:List Int) (x:Int):Bool:=so.any (· == x)
theorem spec_l16All.fc (so l:List Int) (hs:so.length≤4294967296) (hl:l.length≤4294967296):FCt prog F_spec_l16All [.ro,.ro] [ints so,ints l] (Bb (l.all (hasI so))) []:=by
 refine fct_run spec_l16All.ok rfl ?_
 simp only [go_sem]
 refine R_loop (α:=Nat) (fun k s' M'=>k≤l.length∧s' 9=aI k∧(l.take k).all (hasI so)=true) (fun k=>l.length - k) 0 ⟨by omega,by simp only [go_sem];rfl,by simp⟩ ?_
 rintro k s' M' ⟨hk,h9,hr⟩ ho
 have h0:s' 0=.dat none (ints so):=by rw [ho 0 rfl];simp only [go_sem]
 have h7:s' 7=.dat none (ints l):=by rw [ho 7 rfl];simp only [go_sem]
 have h8:s' 8=aI l.length:=by rw [ho 8 rfl];simp only [go_sem]
 clear ho
 unfold spec_l16All.b0
 by_cases hlt:k < l.length
 · have hi':(k:Int) < l.length:=by omega
   have ga:l[k]? = some l[k]:=List.getElem?_eq_getElem hlt
   have hw:IntKind.i64.wrap (k+1)=((k+1:Nat):Int):=wrap_k hlt (by omega)
   simp only [go_sem,hi',ga,h0,h7,h8,h9]
   refine fcW_bool (spec_l1Has.fc so l[k] hs) ?_
   cases hc:so.any (· == l[k]) with
   | false=>simp only [go_sem,not_all (p:=hasI so) hlt hc,h0,h7,h8,h9]
   | true =>
    simp only [go_sem,hw,h0,h7,h8,h9]
    exact ⟨k+1,by dsimp only;omega,by omega,by simp only [go_sem,h0,h7,h8,h9],all_take hlt hr hc⟩
 · have hi':¬ (k:Int) < l.length:=by omega
   rw [List.take_of_length_le (by omega)] at hr
   simp only [go_sem,hi',hr,h0,h7,h8,h9]
def isRow (n:Nat) (so:List Int):List Bool:=(List.range (n+1)).map fun (i:Nat)=>hasI so (i:Int)
theorem isRow_len {n:Nat} {so:List Int}:(isRow n so).length=n+1:=by simp [isRow]
theorem isRow_get {n:Nat} {so:List Int} {x:Int} (h:0≤x∧x≤n):(isRow n so)[x.toNat]? = some (hasI so x):=by
 have h1:x.toNat < n+1:=by omega
 have e:((x.toNat:Nat):Int)=x:=by omega
 simp only [isRow,List.getElem?_map,List.getElem?_range h1,Option.map_some,e]
theorem impl_Rule_met_c1.fc (x:Int) (n:Nat) (so:List Int) (h:0≤x∧x≤n):FCt prog F_impl_Rule_met_c1 [.ro,.ro] [Ii x,.ptr (bools (isRow n so))] (Bb (!hasI so x)) []:=by
 refine fct_run impl_Rule_met_c1.ok rfl ?_
 have hg:=isRow_get (so:=so) h
 have h0:=h.1
 have h1:x < ((n+1:Nat):Int):=by omega
 simp only [go_sem,isRow_len,hg,h0,h1]
theorem ris_mem {lo hi:Int} {l:List Int} (h:rising lo hi l=true):∀ x∈l,lo≤x∧x≤hi:=by
 intro x hx
 obtain ⟨i,hi',rfl⟩:=List.getElem_of_mem hx
 have:=List.all_eq_true.1 h i (by simpa using hi')
 simp only [risAt,inB,Bool.and_eq_true,decide_eq_true_eq] at this
 have e:l.getD i 0=l[i]:=by rw [List.getD_eq_getElem?_getD,List.getElem?_eq_getElem hi'];rfl
 rw [e] at this
 exact this.1
theorem impl_Rule_met.fc (r:RuleD) (n:Nat) (so:List Int) (hl:r.ifs.length≤4294967296) (h:∀ x∈r.ifs,0≤x∧x≤n):FCt prog F_impl_Rule_met [.ro,.ro] [r.d,bools (isRow n so)] (Bb (r.ifs.all (hasI so))) []:=by
 refine fct_run impl_Rule_met.ok rfl ?_
 simp only [go_sem]
 refine fcW_bool (slices_ContainsFunc__sint_int.fc r.ifs F_impl_Rule_met_c1 [.ptr (bools (isRow n so))] (fun x=>!hasI so x) hl (fun x hx=>impl_Rule_met_c1.fc x n so (h x hx))) ?_
 have e:r.ifs.any (fun x=>!hasI so x) = !r.ifs.all (hasI so):=by rw [List.not_all_eq_any_not]
 simp only [go_sem,e,Bool.not_not]
def okR (so:List Int) (r:RuleD):Bool:=!(r.ifs.all (hasI so)&&!hasI so r.thn)
theorem impl_HoldsIn_c1.fc (r:RuleD) (n:Nat) (so:List Int) (hl:r.ifs.length≤4294967296) (h:goodRule n r=true):FCt prog F_impl_HoldsIn_c1 [.ro,.ro] [r.d,.ptr (bools (isRow n so))] (Bb (!okR so r)) []:=by
 refine fct_run impl_HoldsIn_c1.ok rfl ?_
 simp only [goodRule,inB,Bool.and_eq_true,decide_eq_true_eq] at h
 have hm:∀ x∈r.ifs,0≤x∧x≤n:=fun x hx=>by have:=ris_mem h.1 x hx;omega
 have hg:=isRow_get (so:=so) h.2
 have h0:=h.2.1
 have h1:r.thn < ((n+1:Nat):Int):=by omega
 unfold okR
 simp only [go_sem]
 refine fcW_bool (impl_Rule_met.fc r n so hl hm) ?_
 cases hmet:r.ifs.all (hasI so)
 · simp only [go_sem]
 · simp only [go_sem,isRow_len,hg,h0,h1,Bool.not_not]
def listI (n:Nat) (p:Nat→Bool):List Int:=((List.range n).filter p).map fun (i:Nat)=>(i:Int)
theorem listI_step {n:Nat} {p:Nat→Bool}:listI (n+1) p=listI n p++(if p n then [(n:Int)] else []):=by
 simp only [listI,List.range_succ,List.filter_append,List.map_append]
 cases h:p n<;>simp [h]
theorem listI_len (n:Nat) (p:Nat→Bool):(listI n p).length≤n:=by
 simp only [listI,List.length_map]
 exact Nat.le_trans (List.length_filter_le _ _) (by simp)
theorem impl_list.fc (n:Nat) (f:FuncId) (caps:List D) (p:Nat→Bool) (hn:n≤4294967296)
 (h:∀ i,i < n→FCt prog f (.ro::caps.map fun _=>.ro) (Ii i::caps) (Bb (p i)) []):FCt prog F_impl_list [.ro,.ro] [Ii n,.clo f caps] (ints (listI n p)) []:=by
 refine fct_run impl_list.ok rfl ?_
 simp only [go_sem]
 refine R_loop (α:=Nat) (fun k s' M'=>k≤n∧s' 8=aI k∧∃ v,s' 5=.sl 896 v 0 (listI k p).length 1∧M'.m 896=some (.arr v true 1 ((listI k p).map Ii))) (fun k=>n - k) 0
  ⟨by omega,by simp only [go_sem];rfl,_,by simp only [go_sem];rfl,by simp only [go_sem];rfl⟩ ?_
 rintro k s' M' ⟨hk,h8,v,h5,hm⟩ ho
 have h1:s' 1=.clo f (caps.map bindC):=by rw [ho 1 rfl];simp only [go_sem]
 have h7:s' 7=aI n:=by rw [ho 7 rfl];simp only [go_sem]
 clear ho
 unfold impl_list.b0
 by_cases hlt:k < n
 · have hi':(k:Int) < n:=by omega
   have hw:IntKind.i64.wrap (k+1)=((k+1:Nat):Int):=wrap_k hlt (by omega)
   simp only [go_sem,hi',h1,h7,h8,h5,hm]
   refine ccl_ro (ds:=[Ii k]) (by simp only [go_sem,h1,h7,h8,h5,hm]) ?_
   refine fcW_bool (h k hlt) ?_
   have hll:=listI_len k p
   cases hp:p k with
   | false =>
    simp only [go_sem,hw,h1,h7,h8,h5,hm]
    refine ⟨k+1,by dsimp only;omega,by omega,by simp only [go_sem,h1,h7,h8,h5,hm],v,by simp only [go_sem,h1,h7,h8,h5,hm];rw [listI_step,hp];simp,by simp only [go_sem,h1,h7,h8,h5,hm];rw [listI_step,hp];simp⟩
   | true =>
    have hb:((listI k p).length+1) * 8≤70368744177664:=by omega
    simp only [go_sem,hw,hb,take_map_len,h1,h7,h8,h5,hm]
    refine ⟨k+1,by dsimp only;omega,by omega,by simp only [go_sem,h1,h7,h8,h5,hm],_,by simp only [go_sem,h1,h7,h8,h5,hm];rw [listI_step,hp];simp;rfl,by simp only [go_sem,h1,h7,h8,h5,hm];rw [listI_step,hp];simp⟩
 · have hi':¬ (k:Int) < n:=by omega
   obtain rfl:k=n:=by omega
   simp only [go_sem,hi',take_map_len,h1,h7,h8,h5,hm]
theorem noRs_bools {l:List Bool}:noRs (bools l)=true:=noRs_sl (by
 intro d hd;obtain ⟨x,_,rfl⟩:=List.mem_map.1 hd;rfl)
def segI (a b:Nat) (p:Nat→Bool):List Int:=((List.range' a b).filter p).map fun (i:Nat)=>(i:Int)
theorem listI_seg (n:Nat) (p:Nat→Bool):listI n p=segI 0 n p:=by simp only [listI,segI,List.range_eq_range']
theorem segI_split {a b c:Nat} {p:Nat→Bool}:segI a (b+c) p=segI a b p++segI (a+b) c p:=by
 simp only [segI]
 rw [← List.range'_append_1,List.filter_append,List.map_append]
theorem segI_mem {a b:Nat} {p:Nat→Bool} {x:Int} (h:x∈segI a b p):∃ i:Nat,x=i∧a≤i∧i < a+b∧p i=true:=by
 simp only [segI,List.mem_map,List.mem_filter,List.mem_range'_1] at h
 obtain ⟨i,⟨hi,hp⟩,rfl⟩:=h
 exact ⟨i,rfl,hi.1,hi.2,hp⟩
theorem segI_congr {a b:Nat} {p q:Nat→Bool} (h:∀ i,a≤i→i < a+b→p i=q i):segI a b p=segI a b q:=by
 simp only [segI]
 congr 1
 exact List.filter_congr fun i hi=>by rw [List.mem_range'_1] at hi;exact h i hi.1 hi.2
theorem putK_app {A C:List Int} {x:Int} (hA:∀ y∈A,y < x) (hC:∀ y∈C,¬ y < x):putK (A++C) x=A.length:=by
 unfold putK
 have h1:A.findIdx (fun y=>!decide (y < x))=A.length:=by
  rw [List.findIdx_eq_length];intro y hy;simp [hA y hy]
 rw [List.findIdx_append,h1,if_neg (by omega)]
 cases C with
 | nil=>simp
 | cons c C =>
  have:=hC c List.mem_cons_self
  simp only [List.findIdx_cons,this,decide_false,Bool.not_false,cond_true,Nat.zero_add]
theorem putI_app {A C:List Int} {x:Int} (hA:∀ y∈A,y < x) (hC:∀ y∈C,x < y):putI (A++C) x=A++x::C∧putI (A++x::C) x=A++x::C:=by
 constructor
 · unfold putI
   rw [putK_app hA (fun y hy=>by have:=hC y hy;omega)]
   have:(A++C)[A.length]?≠some x:=by
    rw [List.getElem?_append_right (Nat.le_refl _),Nat.sub_self]
    cases C with
    | nil=>simp
    | cons c C=>have:=hC c List.mem_cons_self;simp;omega
   rw [if_neg this]
   simp
 · unfold putI
   rw [putK_app hA (fun y hy=>by
    rcases List.mem_cons.1 hy with rfl|hy
    · omega
    · have:=hC y hy;omega)]
   simp
theorem putI_list {n:Nat} {p:Nat→Bool} {x:Nat} (hx:x < n):putI (listI n p) x=listI n (fun i=>if i=x then true else p i):=by
 obtain ⟨m,rfl⟩:∃ m,n=x+(1+m):=⟨n - x - 1,by omega⟩
 rw [listI_seg,listI_seg,segI_split (p:=p),segI_split (p:=p) (b:=1),segI_split (p:=fun i=>if i=x then true else p i),segI_split (p:=fun i=>if i=x then true else p i) (b:=1)]
 simp only [Nat.zero_add]
 have hA:∀ q,∀ y∈segI 0 x q,y < (x:Int):=fun q y hy=>by obtain ⟨i,rfl,_,h,_⟩:=segI_mem hy;omega
 have hC:∀ q,∀ y∈segI (x+1) m q,(x:Int) < y:=fun q y hy=>by obtain ⟨i,rfl,h,_,_⟩:=segI_mem hy;omega
 have e1:segI 0 x (fun i=>if i=x then true else p i)=segI 0 x p:=segI_congr fun i _ h=>by rw [if_neg (by omega)]
 have e2:segI (x+1) m (fun i=>if i=x then true else p i)=segI (x+1) m p:=segI_congr fun i h _=>by rw [if_neg (by omega)]
 have e3:segI x 1 (fun i=>if i=x then true else p i)=[(x:Int)]:=by simp [segI]
 rw [e1,e2,e3]
 cases hp:p x with
 | true =>
  have e4:segI x 1 p=[(x:Int)]:=by simp [segI,hp]
  rw [e4]
  exact (putI_app (hA p) (hC p)).2
 | false =>
  have e4:segI x 1 p=[]:=by simp [segI,hp]
  rw [e4,List.nil_append]
  exact (putI_app (hA p) (hC p)).1
theorem listI_congr {n:Nat} {p q:Nat→Bool} (h:∀ i,i < n→p i=q i):listI n p=listI n q:=by
 rw [listI_seg,listI_seg];exact segI_congr fun i _ hi=>h i (by omega)
theorem hasSl {α:Type} {f:α→D} {p:α→Prop} {T:Ty} (one:∀ x,HasTy T x→∃ a,x=f a∧p a) {d:D} (h:HasTy (.sl T) d):∃ l:List α,d=.sl T.cells (l.map f)∧l.length≤9223372036854775807∧∀ a∈l,p a:=by
 simp only [HasTy] at h
 obtain ⟨xs,rfl,hl,h⟩:=h
 have:∀ xs:List D,(∀ x∈xs,HasTy T x)→∃ l:List α,xs=l.map f∧∀ a∈l,p a:=by
  intro xs
  induction xs with
  | nil=>intro _;exact ⟨[],rfl,by simp⟩
  | cons x xs ih =>
   intro h
   obtain ⟨a,rfl,hp⟩:=one x (h x List.mem_cons_self)
   obtain ⟨l,rfl,hl⟩:=ih fun y hy=>h y (List.mem_cons_of_mem _ hy)
   exact ⟨a::l,rfl,fun b hb=>by
    rcases List.mem_cons.1 hb with rfl|hb
    · exact hp
    · exact hl b hb⟩
 obtain ⟨l,rfl,hp⟩:=this xs h
 exact ⟨l,rfl,by simpa [maxLen] using hl,hp⟩
theorem noRs_t2 {a b:D} (h1:noRs a=true) (h2:noRs b=true):noRs (.tup [a,b])=true:=by simp only [noRs,noRsL,h1,h2,Bool.and_self]
theorem noRs_t3 {a b c:D} (h1:noRs a=true) (h2:noRs b=true) (h3:noRs c=true):noRs (.tup [a,b,c])=true:=by simp only [noRs,noRsL,h1,h2,h3,Bool.and_self]
theorem spec_l1Put.fco (l:List Int) (x:Int) (hl:l.length≤4294967296):FCt prog F_spec_l1Put [.co,.ro] [ints l,Ii x] (ints (putI l x)) []:=by
 refine fct_run spec_l1Put_co.ok rfl ?_
 simp only [go_sem]
 refine R_cut (fun e s' M'=>e=.ex 0∧s' 5=aI (putK l x)∧M'.m 0=some (.arr 0 true 1 (l.map Ii))∧putK l x≤l.length) ?_ ?_
 · refine R_loop (α:=Nat) (fun k s' M'=>k≤l.length∧s' 5=aI k∧M'.m 0=some (.arr 0 true 1 (l.map Ii))∧(l.take k).all (fun y=>decide (y < x))=true) (fun k=>l.length - k) 0 ⟨by omega,by simp only [go_sem];rfl,by simp only [go_sem],by simp⟩ ?_
   rintro k s' M' ⟨hk,h5,hm,hr⟩ ho
   unfold spec_l1Put_co.b0
   have k0:s' 0=.sl 0 0 0 l.length 1:=by rw [ho 0 rfl];simp only [go_sem]
   have k1:s' 1=aI x:=by rw [ho 1 rfl];simp only [go_sem]
   clear ho
   by_cases hlt:k < l.length
   · have hi':(k:Int) < l.length:=by omega
     have ga:l[k]? = some l[k]:=List.getElem?_eq_getElem hlt
     have hw:IntKind.i64.wrap (k+1)=((k+1:Nat):Int):=wrap_k hlt (by omega)
     by_cases hc:l[k] < x
     · simp only [go_sem,hi',ga,hc,hw,k0,k1,h5,hm]
       exact ⟨k+1,by dsimp only;omega,by omega,by simp only [go_sem,k0,k1,h5,hm],by simp only [go_sem,k0,k1,h5,hm],all_take hlt hr (by simpa using hc)⟩
     · have hp:=putK_at hlt hr hc
       simp only [go_sem,hi',ga,hc,hp,k0,k1,h5,hm]
       exact hk
   · have hi':¬ (k:Int) < l.length:=by omega
     rw [List.take_of_length_le (by omega)] at hr
     have hp:=putK_end hr
     obtain rfl:k=l.length:=by omega
     simp only [go_sem,hi',hp,k0,k1,h5,hm]
 · rintro e s' M' ⟨rfl,h5,hm,hk⟩ ho
   have k0:s' 0=.sl 0 0 0 l.length 1:=by rw [ho 0 rfl];simp only [go_sem]
   have k1:s' 1=aI x:=by rw [ho 1 rfl];simp only [go_sem]
   clear ho
   have hle:(putK l x:Int)≤l.length:=by omega
   have hlt2:=putL_len hk
   have hb1:putK l x * 8≤70368744177664:=by omega
   have hb2:(putK l x+1) * 8≤70368744177664:=by omega
   have hb3:(putK l x+1+(l.length - putK l x)) * 8≤70368744177664:=by omega
   have ht1:(l.take (putK l x)).take (putK l x)=l.take (putK l x):=by rw [List.take_take,Nat.min_self]
   have hl1:((l.take (putK l x)).map Ii++[D.int IntKind.i64 x]).length=putK l x+1:=by rw [List.length_append,List.length_map,hlt2];rfl
   have ht2:((l.take (putK l x)).map Ii++[D.int IntKind.i64 x]).take (putK l x+1)=(l.take (putK l x)).map Ii++[D.int IntKind.i64 x]:=List.take_of_length_le (by omega)
   have hl2:((l.take (putK l x)).map Ii++[D.int IntKind.i64 x]++(l.drop (putK l x)).map Ii).length=putK l x+1+(l.length - putK l x):=by rw [List.length_append,hl1,List.length_map,List.length_drop]
   have ht3:((l.take (putK l x)).map Ii++[D.int IntKind.i64 x]++(l.drop (putK l x)).map Ii).take (putK l x+1+(l.length - putK l x))=(l.take (putK l x)).map Ii++[D.int IntKind.i64 x]++(l.drop (putK l x)).map Ii:=List.take_of_length_le (by omega)
   have ht4:(l.drop (putK l x)).take (l.length - putK l x)=l.drop (putK l x):=List.take_of_length_le (by simp)
   have hsm:putK l x+(l.length - putK l x)=l.length:=by omega
   have hsi:((l.length:Int) - (putK l x:Int)).toNat=l.length - putK l x:=by omega
   by_cases hlt:putK l x < l.length
   · have hi':(putK l x:Int) < l.length:=by omega
     have ga:l[putK l x]? = some l[putK l x]:=List.getElem?_eq_getElem hlt
     simp only [go_sem,hi',ga,k0,k1,h5,hm,hle,hlt2,hb1,hb2,hb3,ht1,hl1,ht2,hl2,ht3,ht4,hsm,hsi,hk,take_map_len,Int.sub_zero,List.drop_zero]
     cases hc:(l[putK l x] == x) with
     | true =>
      have e:putI l x=l:=by unfold putI;rw [ga,if_pos (by simpa using hc)]
      simp only [go_sem,e,k0,k1,h5,hm,hle,hlt2,hb1,hb2,hb3,ht1,hl1,ht2,hl2,ht3,ht4,hsm,hsi,hk,take_map_len,Int.sub_zero,List.drop_zero]
     | false =>
      have e:putI l x=l.take (putK l x)++x::l.drop (putK l x):=by unfold putI;rw [ga,if_neg (by simpa using hc)]
      simp only [go_sem,← List.map_take,← List.map_drop,allSc,Nat.zero_le,List.take_length,List.length_drop,Int.le_refl,k0,k1,h5,hm,hle,hlt2,hb1,hb2,hb3,ht1,hl1,ht2,hl2,ht3,ht4,hsm,hsi,hk,take_map_len,Int.sub_zero,List.drop_zero]
      rw [e]
      simp
   · have hi':¬ (putK l x:Int) < l.length:=by omega
     have e:putI l x=l.take (putK l x)++x::l.drop (putK l x):=by
      unfold putI
      rw [List.getElem?_eq_none (by omega),if_neg (by simp)]
     simp only [go_sem,hi',← List.map_take,← List.map_drop,allSc,Nat.zero_le,List.take_length,List.length_drop,Int.le_refl,k0,k1,h5,hm,hle,hlt2,hb1,hb2,hb3,ht1,hl1,ht2,hl2,ht3,ht4,hsm,hsi,hk,take_map_len,Int.sub_zero,List.drop_zero]
     rw [e]
     simp
theorem isRow_set {n:Nat} {so:List Int} {k:Nat} (hk:k < so.length) (h:0≤so[k]∧so[k]≤n):((isRow n (so.take k)).map Bb).set so[k].toNat (.bool true)=(isRow n (so.take (k+1))).map Bb:=by
 refine List.ext_getElem? fun i=>?_
 rw [List.getElem?_set,take_succ' hk]
 by_cases hi:i < n+1
 · simp only [isRow,List.length_map,List.length_range,List.getElem?_map,List.getElem?_range hi,Option.map_some,hasI,List.any_append,List.any_cons,List.any_nil,Bool.or_false]
   by_cases e:so[k].toNat=i
   · have e':(so[k] == (i:Int))=true:=by simp;omega
     rw [if_pos e,if_pos (by omega),e',Bool.or_true]
   · have e':(so[k] == (i:Int))=false:=by simp;omega
     rw [if_neg e,e',Bool.or_false]
 · have hn:∀ l,((isRow n l).map Bb)[i]? = none:=fun l=>by rw [List.getElem?_eq_none];simp [isRow];omega
   rw [hn,hn]
   split
   · rw [if_neg (by simp [isRow];omega)]
   · rfl
theorem isRow_zero {n:Nat}:List.replicate (n+1) (D.bool false)=(isRow n []).map Bb:=by
 refine List.ext_getElem? fun i=>?_
 by_cases hi:i < n+1
 · simp [isRow,hi,hasI]
 · simp [isRow,hi]
def holdsI (n:Int) (l:List RuleD) (so:List Int):D:=if goodRules n l&&rising 1 n so then .tup [Bb (l.all (okR so)),Bb true] else .tup [Bb false,Bb false]
theorem impl_HoldsIn.fc (n:Int) (l:List RuleD) (so:List Int) (hl:l.length≤4294967296) (hr:∀ r∈l,r.ifs.length≤4294967296) (hs:so.length≤4294967296) :
 FCt prog F_impl_HoldsIn [.ro,.ro,.ro] [Ii n,rules l,ints so] (holdsI n l so) []:=by
 refine fct_run impl_HoldsIn.ok rfl ?_
 unfold holdsI
 simp only [go_sem]
 refine fcW_bool (impl_GoodRules.fc l n hl hr) ?_
 cases hg:goodRules n l with
 | false=>simp only [go_sem]
 | true =>
  simp only [go_sem]
  refine fcW_bool (impl_areFacts.fc so n hs) ?_
  cases hf:rising 1 n so with
  | false=>simp only [go_sem]
  | true =>
   have hgg:=hg
   simp only [goodRules,Bool.and_eq_true,List.all_eq_true] at hgg
   obtain ⟨⟨hn,_⟩,hrl⟩:=hgg
   simp only [inB,Bool.and_eq_true,decide_eq_true_eq] at hn
   obtain ⟨N,rfl⟩:∃ N:Nat,n=N:=⟨n.toNat,by omega⟩
   have hw1:IntKind.i64.wrap ((N:Int)+1)=((N+1:Nat):Int):=by rw [wrap_in (by omega) (by omega)];omega
   have hb:((N+1:Nat):Int) * (1:Nat)≤70368744177664:=by omega
   have hm:=ris_mem hf
   simp only [go_sem,hw1,hb,Int.le_refl,isRow_zero]
   refine R_loop (α:=Nat) (fun k s' M'=>k≤so.length∧s' 26=aI k∧∃ w v,M'.m 1152=some (.box w (.sl 1088 v 0 (N+1) 1))∧s' 8=.ptr 1152 w 0 none∧M'.m 1088=some (.arr v true 1 ((isRow N (so.take k)).map Bb))) (fun k=>so.length - k) 0
    ⟨by omega,by simp only [go_sem];rfl,_,_,by simp only [go_sem];rfl,by simp only [go_sem],by simp only [go_sem]⟩ ?_
   rintro k s' M' ⟨hk,h26,w,v,hbx,h8,hmr⟩ ho
   have h1:s' 1=.dat none (rules l):=by rw [ho 1 rfl];simp only [go_sem]
   have h24:s' 24=.dat none (ints so):=by rw [ho 24 rfl];simp only [go_sem]
   have h25:s' 25=aI so.length:=by rw [ho 25 rfl];simp only [go_sem]
   clear ho
   unfold impl_HoldsIn.b0
   by_cases hlt:k < so.length
   · have hi':(k:Int) < so.length:=by omega
     have ga:so[k]? = some so[k]:=List.getElem?_eq_getElem hlt
     have hw:IntKind.i64.wrap (k+1)=((k+1:Nat):Int):=wrap_k hlt (by omega)
     have hx:=hm _ (List.getElem_mem hlt)
     have hx0:0≤so[k]:=by omega
     have hx1:so[k] < ((N+1:Nat):Int):=by omega
     have hgt:((isRow N (so.take k)).map Bb)[so[k].toNat]? = some (Bb (hasI (so.take k) so[k])):=by rw [List.getElem?_map,isRow_get (by omega)];rfl
     have hset:=isRow_set hlt (n:=N) (by omega)
     simp only [go_sem,hi',ga,hx0,hx1,hgt,hset,hw,h1,h24,h25,h26,h8,hbx,hmr]
     exact ⟨k+1,by dsimp only;omega,by omega,by simp only [go_sem,h1,h24,h25,h26,h8,hbx,hmr],w,v,by simp only [go_sem,h1,h24,h25,h26,h8,hbx,hmr],by simp only [go_sem,h1,h24,h25,h26,h8,hbx,hmr],by simp only [go_sem,h1,h24,h25,h26,h8,hbx,hmr]⟩
   · have hi':¬ (k:Int) < so.length:=by omega
     have hkl:k=so.length:=by omega
     subst hkl
     rw [List.take_length] at hmr
     have hlen:((isRow N so).map Bb).length=N+1:=by simp [isRow]
     have hlen2:(isRow N so).length=N+1:=by simp [isRow]
     have htk:((isRow N so).map Bb).take (N+1)=(isRow N so).map Bb:=List.take_of_length_le (by omega)
     simp only [go_sem,hi',hlen,hlen2,htk,h1,h24,h25,h26,h8,hbx,hmr]
     refine fcW_bool (slices_ContainsFunc__sRule_Rule.fc l F_impl_HoldsIn_c1 [.ptr (bools (isRow N so))] (fun r=>!okR so r) hl (fun r hm=>impl_HoldsIn_c1.fc r N so (hr r hm) (hrl r hm))) ?_
     have e:l.any (fun r=>!okR so r) = !l.all (okR so):=by rw [List.not_all_eq_any_not]
     simp only [go_sem,e,Bool.not_not,h1,h24,h25,h26,h8,hbx,hmr]
theorem mem_putI {l:List Int} {x y:Int}:y∈putI l x↔y=x∨y∈l:=by
 unfold putI
 split
 · rename_i h
   have:=List.mem_of_getElem? h
   constructor
   · exact .inr
   · rintro (rfl|h)
     · exact this
     · exact h
 · rw [List.mem_append,List.mem_cons]
   have:y∈l↔y∈l.take (putK l x)∨y∈l.drop (putK l x):=by rw [← List.mem_append,List.take_append_drop]
   rw [this]
   constructor
   · rintro (h|rfl|h)
     · exact .inr (.inl h)
     · exact .inl rfl
     · exact .inr (.inr h)
   · rintro (rfl|h|h)
     · exact .inr (.inl rfl)
     · exact .inl h
     · exact .inr (.inr h)
theorem hasI_iff {l:List Int} {x:Int}:hasI l x=true↔x∈l:=by
 unfold hasI
 rw [List.any_eq_true]
 exact ⟨fun ⟨y,h,e⟩=>by rw [← (by simpa using e:y=x)];exact h,fun h=>⟨x,h,by simp⟩⟩
theorem hasI_put {l:List Int} {x y:Int}:hasI (putI l x) y=(decide (y=x)||hasI l y):=by
 rw [Bool.eq_iff_iff,hasI_iff,mem_putI,Bool.or_eq_true,decide_eq_true_eq,hasI_iff]
def lackN (n:Nat) (so:List Int):Nat:=((List.range (n+1)).filter fun (i:Nat)=>!hasI so (i:Int)).length
theorem filter_lt {α:Type} {p q:α→Bool} {l:List α} {z:α} (hz:z∈l) (hp:p z=true) (hq:q z=false) (h:∀ y,q y=true→p y=true):(l.filter q).length < (l.filter p).length:=by
 have e:l.filter q=(l.filter p).filter q:=by
  rw [List.filter_filter]
  refine List.filter_congr fun y _=>?_
  cases hh:q y with
  | false=>simp
  | true=>simp [h y hh]
 rw [e]
 exact List.length_filter_lt_length_iff_exists.2 ⟨z,List.mem_filter.2 ⟨hz,hp⟩,by simp [hq]⟩
theorem lack_put {n:Nat} {so:List Int} {x:Int} (hx:0≤x∧x≤n) (h:hasI so x=false):lackN n (putI so x)+1≤lackN n so:=by
 unfold lackN
 have e:((x.toNat:Nat):Int)=x:=by omega
 refine Nat.succ_le_of_lt (filter_lt (z:=x.toNat) (by simp;omega) ?_ ?_ fun y hy=>?_)
 · rw [e,h];rfl
 · rw [e,hasI_put];simp
 · rw [hasI_put] at hy;simp at hy;simp [hy.2]
theorem lack_le {n:Nat} {so:List Int}:lackN n so≤n+1:=by
 unfold lackN
 exact Nat.le_trans (List.length_filter_le _ _) (by simp)
def readyR (so:List Int) (r:RuleD):Bool:=decide (r.thn > 0)&&!hasI so r.thn&&r.ifs.all (hasI so)
def ruleAt (l:List RuleD) (i:Nat):RuleD:=l.getD i ⟨[],0⟩
def leastI (l:List RuleD):Nat→List Int→List Int→List Int×List Int
 | 0,so,ap=>(so,ap)
 | f+1,so,ap=>match l.findIdx? (readyR so) with
  | none=>(so,ap)
  | some i=>leastI l f (putI so (ruleAt l i).thn) (ap++[(i:Int)])
theorem ruleAt_get {l:List RuleD} {i:Nat} (h:i < l.length):ruleAt l i=l[i]:=by
 unfold ruleAt;rw [List.getD_eq_getElem?_getD,List.getElem?_eq_getElem h];rfl
theorem ready_at {l:List RuleD} {so:List Int} {i:Nat} (h:l.findIdx? (readyR so)=some i):i < l.length∧readyR so (ruleAt l i)=true:=by
 rw [List.findIdx?_eq_some_iff_getElem] at h
 obtain ⟨hi,h,_⟩:=h
 exact ⟨hi,by rw [ruleAt_get hi];exact h⟩
theorem ready_thn {so:List Int} {r:RuleD} (h:readyR so r=true):0 < r.thn∧hasI so r.thn=false:=by
 simp only [readyR,Bool.and_eq_true,decide_eq_true_eq,Bool.not_eq_true'] at h
 exact ⟨h.1.1,h.1.2⟩
theorem ready_lack {n:Nat} {l:List RuleD} {so:List Int} {i:Nat} (hr:∀ r∈l,r.thn≤n) (h:l.findIdx? (readyR so)=some i):lackN n (putI so (ruleAt l i).thn)+1≤lackN n so:=by
 obtain ⟨hi,h⟩:=ready_at h
 have:=ready_thn h
 exact lack_put ⟨by omega,hr _ (by rw [ruleAt_get hi];exact List.getElem_mem hi)⟩ this.2
theorem least_fuel {n:Nat} {l:List RuleD} (hr:∀ r∈l,r.thn≤n):∀ (f g:Nat) (so ap:List Int),lackN n so≤f→lackN n so≤g→leastI l f so ap=leastI l g so ap:=by
 intro f
 induction f with
 | zero =>
  intro g so ap hf hg
  cases g with
  | zero=>rfl
  | succ g =>
   simp only [leastI]
   cases h:l.findIdx? (readyR so) with
   | none=>rfl
   | some i=>have:=ready_lack hr h;omega
 | succ f ih =>
  intro g so ap hf hg
  cases g with
  | zero =>
   simp only [leastI]
   cases h:l.findIdx? (readyR so) with
   | none=>rfl
   | some i=>have:=ready_lack hr h;omega
  | succ g =>
   simp only [leastI]
   cases h:l.findIdx? (readyR so) with
   | none=>rfl
   | some i =>
    have:=ready_lack hr h
    exact ih g _ _ (by omega) (by omega)
def leastP (l:List RuleD):List Int×List Int:=leastI l 14 [] []
theorem least_step {n:Nat} {l:List RuleD} (hn:n≤12) (hr:∀ r∈l,r.thn≤n) {so ap:List Int} {i:Nat} (h:l.findIdx? (readyR so)=some i):leastI l 14 (putI so (ruleAt l i).thn) (ap++[(i:Int)])=leastI l 14 so ap:=by
 have h1:leastI l 15 so ap=leastI l 14 (putI so (ruleAt l i).thn) (ap++[(i:Int)]):=by simp only [leastI,h]
 have hl:=lack_le (n:=n) (so:=so)
 rw [← h1]
 exact least_fuel hr _ _ _ _ (by omega) (by omega)
theorem least_end {l:List RuleD} {so ap:List Int} (h:l.findIdx? (readyR so)=none):leastI l 14 so ap=(so,ap):=by simp only [leastI,h]
structure LeastOk (n:Nat) (l:List RuleD) (so ap:List Int):Prop where
 same:leastI l 14 so ap=leastP l
 sort:so=listI (n+1) fun i=>hasI so (i:Int)
 few:so.length≤ap.length
 left:ap.length+lackN n so≤n+1
 apl:∀ i∈ap,0≤i∧i < l.length∧0 < (ruleAt l i.toNat).thn
theorem LeastOk.start {n:Nat} {l:List RuleD}:LeastOk n l [] [] where
 same:=rfl
 sort:=by
  have:listI (n+1) (fun i=>hasI [] (i:Int))=[]:=by
   unfold listI;rw [List.filter_eq_nil_iff.2 (by intro i _;simp [hasI])];rfl
  rw [this]
 few:=by simp
 left:=by have:=lack_le (n:=n) (so:=[]);simpa using this
 apl:=by simp
theorem LeastOk.next {n:Nat} {l:List RuleD} {so ap:List Int} (hn:n≤12) (hr:∀ r∈l,r.thn≤n) (h:LeastOk n l so ap) {i:Nat} (hi:l.findIdx? (readyR so)=some i):LeastOk n l (putI so (ruleAt l i).thn) (ap++[(i:Int)]) where
 same:=by rw [least_step hn hr hi];exact h.same
 sort:=by
  obtain ⟨h1,h2⟩:=ready_at hi
  have h3:=ready_thn h2
  have h4:(ruleAt l i).thn≤n:=hr _ (by rw [ruleAt_get h1];exact List.getElem_mem h1)
  have hp:=putI_list (n:=n+1) (p:=fun i=>hasI so (i:Int)) (x:=(ruleAt l i).thn.toNat) (by omega)
  rw [← h.sort,show (((ruleAt l i).thn.toNat:Nat):Int)=(ruleAt l i).thn by omega] at hp
  rw [hp]
  refine listI_congr fun j hj=>?_
  rw [← hp,hasI_put]
  by_cases e:j=(ruleAt l i).thn.toNat
  · rw [if_pos e];simp;omega
  · rw [if_neg e]
    have:¬ ((j:Int)=(ruleAt l i).thn):=by omega
    simp [this]
 few:=by have:=putI_len so (ruleAt l i).thn;have:=h.few;simp;omega
 left:=by have:=ready_lack hr hi;have:=h.left;simp;omega
 apl:=fun j hj=>by
  rcases List.mem_append.1 hj with hj|hj
  · exact h.apl j hj
  · obtain ⟨h1,h2⟩:=ready_at hi
    have:j=i:=by simpa using hj
    subst this
    exact ⟨by omega,by omega,by rw [Int.toNat_natCast];exact (ready_thn h2).1⟩
theorem LeastOk.len {n:Nat} {l:List RuleD} {so ap:List Int} (h:LeastOk n l so ap) (hn:n≤12):so.length≤13∧ap.length≤13:=by
 have:=h.few;have:=h.left;omega
theorem least_ok {n:Nat} {l:List RuleD} (hn:n≤12) (hr:∀ r∈l,r.thn≤n):∀ (f:Nat) (so ap:List Int),LeastOk n l so ap→LeastOk n l (leastI l f so ap).1 (leastI l f so ap).2
 | 0,so,ap,h=>h
 | f+1,so,ap,h=>by
  simp only [leastI]
  cases hh:l.findIdx? (readyR so) with
  | none=>exact h
  | some i=>exact least_ok hn hr f _ _ (h.next hn hr hh)
theorem leastP_ok {n:Nat} {l:List RuleD} (hn:n≤12) (hr:∀ r∈l,r.thn≤n):LeastOk n l (leastP l).1 (leastP l).2:=least_ok hn hr 14 [] [] .start
def fineR (l:List RuleD) (so:List Int):Bool:=l.all fun r=>!(r.thn == 0&&r.ifs.all (hasI so))
theorem impl_least_c1.fc (r:RuleD) (n:Nat) (so:List Int) (hl:r.ifs.length≤4294967296) (h:goodRule n r=true):FCt prog F_impl_least_c1 [.ro,.ro] [r.d,.ptr (bools (isRow n so))] (Bb (readyR so r)) []:=by
 refine fct_run impl_least_c1.ok rfl ?_
 simp only [goodRule,inB,Bool.and_eq_true,decide_eq_true_eq] at h
 have hm:∀ x∈r.ifs,0≤x∧x≤n:=fun x hx=>by have:=ris_mem h.1 x hx;omega
 have hg:=isRow_get (so:=so) h.2
 have h0:=h.2.1
 have h1:r.thn < ((n+1:Nat):Int):=by omega
 unfold readyR
 by_cases hp:r.thn > 0
 · cases hs:hasI so r.thn with
   | true=>simp only [go_sem,hp,hs,isRow_len,hg,h0,h1]
   | false =>
    simp only [go_sem,hp,hs,isRow_len,hg,h0,h1]
    refine fcW_bool (impl_Rule_met.fc r n so hl hm) ?_
    simp only [go_sem,hp,isRow_len,hg,h0,h1]
 · simp only [go_sem,hp,isRow_len,hg,h0,h1]
theorem isRow_put {n:Nat} {so:List Int} {x:Int} (h:0≤x∧x≤n):((isRow n so).map Bb).set x.toNat (.bool true)=(isRow n (putI so x)).map Bb:=by
 refine List.ext_getElem? fun i=>?_
 rw [List.getElem?_set]
 by_cases hi:i < n+1
 · simp only [isRow,List.length_map,List.length_range,List.getElem?_map,List.getElem?_range hi,Option.map_some,hasI_put]
   by_cases e:x.toNat=i
   · rw [if_pos e,if_pos (by omega),show decide ((i:Int)=x)=true by simp;omega,Bool.true_or]
   · rw [if_neg e,show decide ((i:Int)=x)=false by simp;omega,Bool.false_or]
 · have hn:∀ l,((isRow n l).map Bb)[i]? = none:=fun l=>by rw [List.getElem?_eq_none];simp [isRow];omega
   rw [hn,hn]
   split
   · rw [if_neg (by simp [isRow];omega)]
   · rfl
theorem impl_least.fc (n:Nat) (l:List RuleD) (hn:n≤12) (hl:l.length≤30) (hi:∀ r∈l,r.ifs.length≤4294967296) (hr:∀ r∈l,goodRule n r=true) :
 FCt prog F_impl_least [.ro,.ro] [Ii n,rules l] (.tup [bools (isRow n (leastP l).1),ints (leastP l).2]) []:=by
 refine fct_run impl_least.ok rfl ?_
 have hthn:∀ r∈l,0≤r.thn∧r.thn≤n:=fun r h=>by have:=hr r h;simp only [goodRule,inB,Bool.and_eq_true,decide_eq_true_eq] at this;exact this.2
 have hthn':∀ r∈l,r.thn≤n:=fun r h=>(hthn r h).2
 have hw1:IntKind.i64.wrap ((n:Int)+1)=((n+1:Nat):Int):=by rw [wrap_in (by omega) (by omega)];omega
 have hb:((n+1:Nat):Int) * (1:Nat)≤70368744177664:=by omega
 simp only [go_sem,hw1,hb,Int.le_refl,isRow_zero]
 refine R_loop (α:=List Int×List Int) (fun a s' M'=>LeastOk n l a.1 a.2∧(∃ w v,M'.m 384=some (.box w (.sl 320 v 0 (n+1) 1))∧s' 6=.ptr 384 w 0 none∧M'.m 320=some (.arr v true 1 ((isRow n a.1).map Bb))) ∧
  ∃ v,s' 7=.sl 1920 v 0 a.2.length 1∧M'.m 1920=some (.arr v true 1 (a.2.map Ii))) (fun a=>lackN n a.1) ([],[])
  ⟨.start,⟨_,_,by simp only [go_sem];rfl,by simp only [go_sem],by simp only [go_sem]⟩,_,by simp only [go_sem];rfl,by simp only [go_sem]⟩ ?_
 rintro ⟨so,ap⟩ s' M' ⟨hok,⟨w,v,hbx,h6,hmr⟩,u,h7,hma⟩ ho
 unfold impl_least.b0
 have k1:s' 1=.dat none (rules l):=by rw [ho 1 rfl];simp only [go_sem]
 clear ho
 dsimp only at hok h6 hmr h7 hma
 have hlen:=hok.len hn
 have htr:((isRow n so).map Bb).take (n+1)=(isRow n so).map Bb:=List.take_of_length_le (by simp [isRow_len])
 simp only [go_sem,k1,hbx,h6,hmr,h7,hma,isRow_len,htr]
 refine fcW_int (slices_IndexFunc__sRule_Rule.fc l F_impl_least_c1 [.ptr (bools (isRow n so))] (readyR so) (by omega) (fun r h=>impl_least_c1.fc r n so (hi r h) (hr r h))) ?_
 cases hc:l.findIdx? (readyR so) with
 | none =>
  have e:idxB (readyR so) l = -1:=by unfold idxB;rw [hc]
  have hs:=hok.same
  rw [least_end hc] at hs
  simp only [go_sem,e,take_map_len,k1,hbx,h6,hmr,h7,hma,isRow_len,htr]
  rw [← hs]
 | some i =>
  have e:idxB (readyR so) l=(i:Int):=by unfold idxB;rw [hc]
  obtain ⟨hlt,hrd⟩:=ready_at hc
  have hth:=hthn l[i] (List.getElem_mem hlt)
  have hg:=isRow_get (n:=n) (so:=so) hth
  have hi':(i:Int) < l.length:=by omega
  have ga:l[i]? = some l[i]:=List.getElem?_eq_getElem hlt
  have hn0:¬ (i:Int) < 0:=by omega
  have h1:l[i].thn < ((n+1:Nat):Int):=by omega
  have hgm:((isRow n so).map Bb)[l[i].thn.toNat]? = some (Bb (hasI so l[i].thn)):=by rw [List.getElem?_map,hg];rfl
  have hset:=isRow_put (n:=n) (so:=so) hth
  have hbb:(ap.length+1) * 8≤70368744177664:=by omega
  have hnx:=hok.next hn hthn' hc
  rw [ruleAt_get hlt] at hnx
  have hlk:=ready_lack hthn' hc
  rw [ruleAt_get hlt] at hlk
  have h10:=hth.1
  simp only [go_sem,e,hi',ga,hn0,h1,h10,hgm,hset,hbb,take_map_len,k1,hbx,h6,hmr,h7,hma,isRow_len,htr]
  exact ⟨(putI so l[i].thn,ap++[(i:Int)]),by dsimp only;omega,hnx,⟨w,v,by simp only [go_sem,k1,hbx,h6,hmr,h7,hma,isRow_len,htr],by simp only [go_sem,k1,hbx,h6,hmr,h7,hma,isRow_len,htr],by simp only [go_sem,k1,hbx,h6,hmr,h7,hma,isRow_len,htr]⟩,_,by simp only [go_sem,k1,hbx,h6,hmr,h7,hma,isRow_len,htr];simp;rfl,by simp only [go_sem,k1,hbx,h6,hmr,h7,hma,isRow_len,htr];simp⟩
theorem impl_LeastOf_c1.fc (r:RuleD) (n:Nat) (so:List Int) (hl:r.ifs.length≤4294967296) (h:goodRule n r=true):FCt prog F_impl_LeastOf_c1 [.ro,.ro] [r.d,.ptr (bools (isRow n so))] (Bb (r.thn == 0&&r.ifs.all (hasI so))) []:=by
 refine fct_run impl_LeastOf_c1.ok rfl ?_
 simp only [goodRule,inB,Bool.and_eq_true,decide_eq_true_eq] at h
 have hm:∀ x∈r.ifs,0≤x∧x≤n:=fun x hx=>by have:=ris_mem h.1 x hx;omega
 cases hp:(r.thn == 0) with
 | true =>
  simp only [go_sem,hp]
  refine fcW_bool (impl_Rule_met.fc r n so hl hm) ?_
  simp only [go_sem,hp]
 | false=>simp only [go_sem,hp]
theorem impl_LeastOf_c2.fc (i:Nat) (b:List Bool) (h:i < b.length):FCt prog F_impl_LeastOf_c2 [.ro,.ro] [Ii i,.ptr (bools b)] (Bb (b.getD i false)) []:=by
 refine fct_run impl_LeastOf_c2.ok rfl ?_
 have hi:(i:Int) < b.length:=by omega
 have hg:b[i]? = some (b.getD i false):=by simp [h]
 simp only [go_sem,hi,hg]
def leastD (n:Int) (l:List RuleD):D:=if goodRules n l then .tup [ints (leastP l).1,Bb (fineR l (leastP l).1),Bb true] else .tup [.sl 1 [],Bb false,Bb false]
theorem good_rules {n:Int} {l:List RuleD} (h:goodRules n l=true):(1≤n∧n≤12)∧l.length≤30∧∀ r∈l,goodRule n r=true:=by
 simp only [goodRules,Bool.and_eq_true,List.all_eq_true,inB,decide_eq_true_eq] at h
 exact ⟨h.1.1,h.1.2,h.2⟩
theorem good_thn {n:Int} {r:RuleD} (h:goodRule n r=true):0≤r.thn∧r.thn≤n:=by
 simp only [goodRule,inB,Bool.and_eq_true,decide_eq_true_eq] at h;exact h.2
theorem isRow_list {n:Nat} {so:List Int}:listI (n+1) (fun i=>(isRow n so).getD i false)=listI (n+1) (fun i=>hasI so (i:Int)):=by
 refine listI_congr fun i hi=>?_
 have:=isRow_get (n:=n) (so:=so) (x:=(i:Int)) (by omega)
 rw [List.getD_eq_getElem?_getD,← Int.toNat_natCast i,this];rfl
theorem impl_LeastOf.fc (n:Int) (l:List RuleD) (hl:l.length≤4294967296) (hi:∀ r∈l,r.ifs.length≤4294967296):FCt prog F_impl_LeastOf [.ro,.ro] [Ii n,rules l] (leastD n l) []:=by
 refine fct_run impl_LeastOf.ok rfl ?_
 unfold leastD
 simp only [go_sem]
 refine fcW_bool (impl_GoodRules.fc l n hl hi) ?_
 cases hg:goodRules n l with
 | false=>simp only [go_sem]
 | true =>
  obtain ⟨hn,hl2,hr⟩:=good_rules hg
  obtain ⟨N,rfl⟩:∃ N:Nat,n=N:=⟨n.toNat,by omega⟩
  have hok:=leastP_ok (n:=N) (l:=l) (by omega) (fun r h=>(good_thn (hr r h)).2)
  have hlen:=hok.len (by omega)
  have hw1:IntKind.i64.wrap ((N:Int)+1)=((N+1:Nat):Int):=by rw [wrap_in (by omega) (by omega)];omega
  simp only [go_sem]
  refine fcW_bd (impl_least.fc N l (by omega) hl2 hi hr) (noRs_t2 noRs_bools noRs_ints) ?_
  generalize leastP l=P at hok hlen
  obtain ⟨so,ap⟩:=P
  dsimp only at hok hlen
  have htr:((isRow N so).map Bb).take (N+1)=(isRow N so).map Bb:=List.take_of_length_le (by simp [isRow_len])
  simp only [go_sem,isRow_len,htr,hw1]
  refine fcW_bool (slices_ContainsFunc__sRule_Rule.fc l F_impl_LeastOf_c1 [.ptr (bools (isRow N so))] (fun r=>r.thn == 0&&r.ifs.all (hasI so)) hl (fun r h=>impl_LeastOf_c1.fc r N so (hi r h) (hr r h))) ?_
  simp only [go_sem,isRow_len,htr,hw1]
  refine fcW_bd (impl_list.fc (N+1) F_impl_LeastOf_c2 [.ptr (bools (isRow N so))] (fun i=>(isRow N so).getD i false) (by omega) (fun i hi=>impl_LeastOf_c2.fc i _ (by rw [isRow_len];omega))) noRs_ints ?_
  simp only [go_sem,take_map_len,isRow_len,htr,hw1]
  rw [isRow_list,← hok.sort]
  unfold fineR
  rw [List.not_any_eq_all_not]
theorem findIdx_first {α:Type} {p:α→Bool} {l:List α} {k:Nat} (hk:k < l.length) (h:(l.take k).all (fun x=>!p x)=true) (hp:p l[k]=true):l.findIdx? p=some k:=by
 rw [List.findIdx?_eq_some_iff_getElem]
 exact ⟨hk,hp,fun j hj=>by
  have:=List.all_eq_true.1 h l[j] (by rw [List.mem_take_iff_getElem];exact ⟨j,by omega,rfl⟩)
  simpa using this⟩
theorem findIdx_none {α:Type} {p:α→Bool} {l:List α} (h:l.all (fun x=>!p x)=true):l.findIdx? p=none :=
 List.findIdx?_eq_none_iff.2 (fun x hx=>by simpa using List.all_eq_true.1 h x hx)
theorem spec_l16Least.fc (n:Nat) (l:List RuleD) (hn:n≤12) (hl:l.length≤30) (hi:∀ r∈l,r.ifs.length≤4294967296) (hr:∀ r∈l,goodRule n r=true) :
 FCt prog F_spec_l16Least [.ro] [rules l] (.tup [ints (leastP l).1,ints (leastP l).2,Bb (fineR l (leastP l).1)]) []:=by
 refine fct_run spec_l16Least.ok rfl ?_
 have hthn:∀ r∈l,r.thn≤n:=fun r h=>(good_thn (hr r h)).2
 simp only [go_sem]
 refine R_cut (fun e s' M'=>e=.ex 0∧(∃ v,s' 5=.sl 2432 v 0 (leastP l).1.length 1∧M'.m 2432=some (.arr v true 1 ((leastP l).1.map Ii)))∧∃ v,s' 6=.sl 2752 v 0 (leastP l).2.length 1∧M'.m 2752=some (.arr v true 1 ((leastP l).2.map Ii))) ?_ ?_
 · refine R_loop (α := List Int × List Int × Bool) (fun a s' M' => LeastOk n l a.1 a.2.1 ∧ s' 7 = aB a.2.2 ∧ (a.2.2 = false → l.findIdx? (readyR a.1) = none) ∧ (∃ v, s' 5 = .sl 2432 v 0 a.1.length 1 ∧ M'.m 2432 = some (.arr v true 1 (a.1.map Ii))) ∧
       ∃ v,s' 6=.sl 2752 v 0 a.2.1.length 1∧M'.m 2752=some (.arr v true 1 (a.2.1.map Ii))) (fun a=>2 * lackN n a.1+(if a.2.2 then 1 else 0)) ([],[],true)
    ⟨.start,by simp only [go_sem],by simp,⟨_,by simp only [go_sem];rfl,by simp only [go_sem]⟩,_,by simp only [go_sem];rfl,by simp only [go_sem]⟩ ?_
   rintro ⟨so,ap,ag⟩ s' M' ⟨hok,h7,hag,⟨v,h5,hm5⟩,u,h6,hm6⟩ ho
   unfold spec_l16Least.b1
   have k0:s' 0=.dat none (rules l):=by rw [ho 0 rfl];simp only [go_sem]
   clear ho
   dsimp only at hok h7 hag h5 hm5 h6 hm6
   have hlen:=hok.len hn
   cases ag with
   | false =>
    have hs:=hok.same
    rw [least_end (hag rfl)] at hs
    simp only [go_sem,k0,h7,h5,hm5,h6,hm6]
    rw [← hs]
    exact ⟨⟨v,rfl,rfl⟩,u,rfl,rfl⟩
   | true =>
    simp only [go_sem,k0,h7,h5,hm5,h6,hm6]
    refine R_cut (fun e s' M'=>e=.ex 2∧∃ so' ap' ag',LeastOk n l so' ap'∧(s' 7=aB ag'∧(ag'=false→l.findIdx? (readyR so')=none)∧2 * lackN n so'+(if ag' then 1 else 0) < 2 * lackN n so+1)∧(∃ v,s' 5=.sl 2432 v 0 so'.length 1∧M'.m 2432=some (.arr v true 1 (so'.map Ii))) ∧
     ∃ v,s' 6=.sl 2752 v 0 ap'.length 1∧M'.m 2752=some (.arr v true 1 (ap'.map Ii))) ?_ ?_
    · refine R_loop (α:=Nat) (fun k s' M'=>k≤l.length∧s' 15=aI k∧s' 7=aB false∧(l.take k).all (fun r=>!readyR so r)=true∧(s' 5=.sl 2432 v 0 so.length 1∧M'.m 2432=some (.arr v true 1 (so.map Ii))) ∧
       s' 6=.sl 2752 u 0 ap.length 1∧M'.m 2752=some (.arr u true 1 (ap.map Ii))) (fun k=>l.length - k) 0
       ⟨by omega,by simp only [go_sem,k0,h7,h5,hm5,h6,hm6];rfl,by simp only [go_sem,k0,h7,h5,hm5,h6,hm6],by simp,⟨by simp only [go_sem,k0,h7,h5,hm5,h6,hm6],by simp only [go_sem,k0,h7,h5,hm5,h6,hm6]⟩,by simp only [go_sem,k0,h7,h5,hm5,h6,hm6],by simp only [go_sem,k0,h7,h5,hm5,h6,hm6]⟩ ?_
      rintro k s2 M2 ⟨hk,h15,g7,hrd,⟨g5,gm5⟩,g6,gm6⟩ ho
      unfold spec_l16Least.b0
      have g13:s2 13=.dat none (rules l):=by rw [ho 13 rfl];simp only [go_sem,k0,h7,h5,hm5,h6,hm6]
      have g14:s2 14=aI l.length:=by rw [ho 14 rfl];simp only [go_sem,k0,h7,h5,hm5,h6,hm6]
      clear ho
      by_cases hlt:k < l.length
      · have hi':(k:Int) < l.length:=by omega
        have ga:l[k]? = some l[k]:=List.getElem?_eq_getElem hlt
        have hw:IntKind.i64.wrap (k+1)=((k+1:Nat):Int):=wrap_k hlt (by omega)
        have hthk:=good_thn (hr _ (List.getElem_mem hlt))
        have hts:(so.map Ii).take so.length=so.map Ii:=take_map_len
        simp only [go_sem,k0,h7,h5,hm5,h6,hm6,g13,g14,h15,g7,g5,gm5,g6,gm6,hi',ga,hts,take_map_len]
        by_cases hp:l[k].thn > 0
        · simp only [go_sem,hp,k0,h7,h5,hm5,h6,hm6,g13,g14,h15,g7,g5,gm5,g6,gm6,hi',ga,hts,take_map_len]
          refine fcW_bool (spec_l1Has.fc so l[k].thn (by omega)) ?_
          cases hc:so.any (· == l[k].thn) with
          | true =>
           have hnr:readyR so l[k]=false:=by simp only [readyR,hasI,hc,Bool.not_true,Bool.and_false,Bool.false_and]
           simp only [go_sem,hw,hp,k0,h7,h5,hm5,h6,hm6,g13,g14,h15,g7,g5,gm5,g6,gm6,hi',ga,hts,take_map_len]
           exact ⟨k+1,by dsimp only;omega,by omega,by simp only [go_sem,k0,h7,h5,hm5,h6,hm6,g13,g14,h15,g7,g5,gm5,g6,gm6,hi',ga,hts,take_map_len],by simp only [go_sem,k0,h7,h5,hm5,h6,hm6,g13,g14,h15,g7,g5,gm5,g6,gm6,hi',ga,hts,take_map_len],all_take hlt hrd (by rw [hnr];rfl),⟨by simp only [go_sem,k0,h7,h5,hm5,h6,hm6,g13,g14,h15,g7,g5,gm5,g6,gm6,hi',ga,hts,take_map_len],by simp only [go_sem,k0,h7,h5,hm5,h6,hm6,g13,g14,h15,g7,g5,gm5,g6,gm6,hi',ga,hts,take_map_len]⟩,by simp only [go_sem,k0,h7,h5,hm5,h6,hm6,g13,g14,h15,g7,g5,gm5,g6,gm6,hi',ga,hts,take_map_len],by simp only [go_sem,k0,h7,h5,hm5,h6,hm6,g13,g14,h15,g7,g5,gm5,g6,gm6,hi',ga,hts,take_map_len]⟩
          | false =>
           simp only [go_sem,hp,k0,h7,h5,hm5,h6,hm6,g13,g14,h15,g7,g5,gm5,g6,gm6,hi',ga,hts,take_map_len]
           refine fcW_bool (spec_l16All.fc so l[k].ifs (by omega) (hi _ (List.getElem_mem hlt))) ?_
           cases hca:l[k].ifs.all (hasI so) with
           | false =>
            have hnr:readyR so l[k]=false:=by simp only [readyR,hca,Bool.and_false]
            simp only [go_sem,hw,k0,h7,h5,hm5,h6,hm6,g13,g14,h15,g7,g5,gm5,g6,gm6,hi',ga,hts,take_map_len]
            exact ⟨k+1,by dsimp only;omega,by omega,by simp only [go_sem,k0,h7,h5,hm5,h6,hm6,g13,g14,h15,g7,g5,gm5,g6,gm6,hi',ga,hts,take_map_len],by simp only [go_sem,k0,h7,h5,hm5,h6,hm6,g13,g14,h15,g7,g5,gm5,g6,gm6,hi',ga,hts,take_map_len],all_take hlt hrd (by rw [hnr];rfl),⟨by simp only [go_sem,k0,h7,h5,hm5,h6,hm6,g13,g14,h15,g7,g5,gm5,g6,gm6,hi',ga,hts,take_map_len],by simp only [go_sem,k0,h7,h5,hm5,h6,hm6,g13,g14,h15,g7,g5,gm5,g6,gm6,hi',ga,hts,take_map_len]⟩,by simp only [go_sem,k0,h7,h5,hm5,h6,hm6,g13,g14,h15,g7,g5,gm5,g6,gm6,hi',ga,hts,take_map_len],by simp only [go_sem,k0,h7,h5,hm5,h6,hm6,g13,g14,h15,g7,g5,gm5,g6,gm6,hi',ga,hts,take_map_len]⟩
           | true =>
            have hry:readyR so l[k]=true:=by simp only [readyR,hca,hasI,hc,hp,decide_true,Bool.not_false,Bool.and_self]
            have hfi:=findIdx_first hlt hrd hry
            have hnx:=hok.next hn hthn hfi
            have hlk:=ready_lack hthn hfi
            rw [ruleAt_get hlt] at hnx hlk
            have hbb:(ap.length+1) * 8≤70368744177664:=by omega
            simp only [go_sem,k0,h7,h5,hm5,h6,hm6,g13,g14,h15,g7,g5,gm5,g6,gm6,hi',ga,hts,take_map_len]
            refine coW_of (spec_l1Put.fco so l[k].thn (by omega)) noRs_ints rfl ?_
            simp only [go_sem,hbb,k0,h7,h5,hm5,h6,hm6,g13,g14,h15,g7,g5,gm5,g6,gm6,hi',ga,hts,take_map_len]
            exact ⟨_,_,true,hnx,⟨rfl,by simp,by simp;omega⟩,⟨_,rfl,rfl⟩,_,by simp;rfl,by simp⟩
        · have hnr:readyR so l[k]=false:=by simp only [readyR,hp,decide_false,Bool.false_and]
          simp only [go_sem,hw,hp,k0,h7,h5,hm5,h6,hm6,g13,g14,h15,g7,g5,gm5,g6,gm6,hi',ga,hts,take_map_len]
          exact ⟨k+1,by dsimp only;omega,by omega,by simp only [go_sem,k0,h7,h5,hm5,h6,hm6,g13,g14,h15,g7,g5,gm5,g6,gm6,hi',ga,hts,take_map_len],by simp only [go_sem,k0,h7,h5,hm5,h6,hm6,g13,g14,h15,g7,g5,gm5,g6,gm6,hi',ga,hts,take_map_len],all_take hlt hrd (by rw [hnr];rfl),⟨by simp only [go_sem,k0,h7,h5,hm5,h6,hm6,g13,g14,h15,g7,g5,gm5,g6,gm6,hi',ga,hts,take_map_len],by simp only [go_sem,k0,h7,h5,hm5,h6,hm6,g13,g14,h15,g7,g5,gm5,g6,gm6,hi',ga,hts,take_map_len]⟩,by simp only [go_sem,k0,h7,h5,hm5,h6,hm6,g13,g14,h15,g7,g5,gm5,g6,gm6,hi',ga,hts,take_map_len],by simp only [go_sem,k0,h7,h5,hm5,h6,hm6,g13,g14,h15,g7,g5,gm5,g6,gm6,hi',ga,hts,take_map_len]⟩
      · have hi':¬ (k:Int) < l.length:=by omega
        obtain rfl:k=l.length:=by omega
        rw [List.take_length] at hrd
        simp only [go_sem,hi',k0,h7,h5,hm5,h6,hm6,g13,g14,h15,g7,g5,gm5,g6,gm6]
        exact ⟨so,ap,false,hok,⟨rfl,fun _=>findIdx_none hrd,by simp⟩,⟨v,rfl,rfl⟩,u,rfl,rfl⟩
    · rintro e s2 M2 ⟨rfl,so',ap',ag',hok',⟨g7,gag,glt⟩,⟨v',g5,gm5⟩,u',g6,gm6⟩ ho
      simp only [go_sem,k0,h7,h5,hm5,h6,hm6]
      exact ⟨(so',ap',ag'),by simpa using glt,hok',g7,gag,⟨v',g5,gm5⟩,u',g6,gm6⟩
 · rintro e s' M' ⟨rfl,⟨v,h5,hm5⟩,u,h6,hm6⟩ ho
   have k0:s' 0=.dat none (rules l):=by rw [ho 0 rfl];simp only [go_sem]
   clear ho
   have hlen:=(leastP_ok hn hthn).len hn
   have hf:∀ so,fineR l so=l.all (fun r=>!(r.thn == 0&&r.ifs.all (hasI so))):=fun so=>rfl
   generalize leastP l=P at *
   obtain ⟨so,ap⟩:=P
   dsimp only at h5 hm5 h6 hm6 hlen ⊢
   have hts:(so.map Ii).take so.length=so.map Ii:=take_map_len
   simp only [go_sem,k0,h5,hm5,h6,hm6,hts,take_map_len]
   refine R_loop (α := Nat) (fun k s' M' => k ≤ l.length ∧ s' 47 = aI k ∧ (l.take k).all (fun r => !(r.thn == 0 && r.ifs.all (hasI so))) = true ∧ (s' 5 = .sl 2432 v 0 so.length 1 ∧ M'.m 2432 = some (.arr v true 1 (so.map Ii))) ∧
         s' 6=.sl 2752 u 0 ap.length 1∧M'.m 2752=some (.arr u true 1 (ap.map Ii))) (fun k=>l.length - k) 0
    ⟨by omega,by simp only [go_sem,k0,h5,hm5,h6,hm6,hts,take_map_len];rfl,by simp,⟨by simp only [go_sem,k0,h5,hm5,h6,hm6,hts,take_map_len],by simp only [go_sem,k0,h5,hm5,h6,hm6,hts,take_map_len]⟩,by simp only [go_sem,k0,h5,hm5,h6,hm6,hts,take_map_len],by simp only [go_sem,k0,h5,hm5,h6,hm6,hts,take_map_len]⟩ ?_
   rintro k s2 M2 ⟨hk,h47,hrd,⟨g5,gm5⟩,g6,gm6⟩ ho
   unfold spec_l16Least.b2
   have g45:s2 45=.dat none (rules l):=by rw [ho 45 rfl];simp only [go_sem,k0,h5,hm5,h6,hm6,hts,take_map_len]
   have g46:s2 46=aI l.length:=by rw [ho 46 rfl];simp only [go_sem,k0,h5,hm5,h6,hm6,hts,take_map_len]
   clear ho
   by_cases hlt:k < l.length
   · have hi':(k:Int) < l.length:=by omega
     have ga:l[k]? = some l[k]:=List.getElem?_eq_getElem hlt
     have hw:IntKind.i64.wrap (k+1)=((k+1:Nat):Int):=wrap_k hlt (by omega)
     simp only [go_sem,hi',ga,k0,h5,hm5,h6,hm6,hts,take_map_len,g45,g46,h47,g5,gm5,g6,gm6]
     cases hp:(l[k].thn == 0) with
     | false =>
      simp only [go_sem,hw,hp,k0,h5,hm5,h6,hm6,hts,take_map_len,g45,g46,h47,g5,gm5,g6,gm6]
      exact ⟨k+1,by dsimp only;omega,by omega,by simp only [go_sem,k0,h5,hm5,h6,hm6,hts,take_map_len,g45,g46,h47,g5,gm5,g6,gm6],all_take hlt hrd (by rw [hp];rfl),⟨by simp only [go_sem,k0,h5,hm5,h6,hm6,hts,take_map_len,g45,g46,h47,g5,gm5,g6,gm6],by simp only [go_sem,k0,h5,hm5,h6,hm6,hts,take_map_len,g45,g46,h47,g5,gm5,g6,gm6]⟩,by simp only [go_sem,k0,h5,hm5,h6,hm6,hts,take_map_len,g45,g46,h47,g5,gm5,g6,gm6],by simp only [go_sem,k0,h5,hm5,h6,hm6,hts,take_map_len,g45,g46,h47,g5,gm5,g6,gm6]⟩
     | true =>
      simp only [go_sem,hp,k0,h5,hm5,h6,hm6,hts,take_map_len,g45,g46,h47,g5,gm5,g6,gm6]
      refine fcW_bool (spec_l16All.fc so l[k].ifs (by omega) (hi _ (List.getElem_mem hlt))) ?_
      cases hca:l[k].ifs.all (hasI so) with
      | false =>
       simp only [go_sem,hw,k0,h5,hm5,h6,hm6,hts,take_map_len,g45,g46,h47,g5,gm5,g6,gm6]
       exact ⟨k+1,by dsimp only;omega,by omega,by simp only [go_sem,k0,h5,hm5,h6,hm6,hts,take_map_len,g45,g46,h47,g5,gm5,g6,gm6],all_take hlt hrd (by rw [hca];simp),⟨by simp only [go_sem,k0,h5,hm5,h6,hm6,hts,take_map_len,g45,g46,h47,g5,gm5,g6,gm6],by simp only [go_sem,k0,h5,hm5,h6,hm6,hts,take_map_len,g45,g46,h47,g5,gm5,g6,gm6]⟩,by simp only [go_sem,k0,h5,hm5,h6,hm6,hts,take_map_len,g45,g46,h47,g5,gm5,g6,gm6],by simp only [go_sem,k0,h5,hm5,h6,hm6,hts,take_map_len,g45,g46,h47,g5,gm5,g6,gm6]⟩
      | true =>
       have hff:fineR l so=false:=not_all hlt (by rw [hp,hca];rfl)
       simp only [go_sem,hff,k0,h5,hm5,h6,hm6,hts,take_map_len,g45,g46,h47,g5,gm5,g6,gm6]
   · have hi':¬ (k:Int) < l.length:=by omega
     obtain rfl:k=l.length:=by omega
     rw [List.take_length] at hrd
     have hff:fineR l so=true:=hrd
     simp only [go_sem,hi',hff,k0,h5,hm5,h6,hm6,hts,take_map_len,g45,g46,h47,g5,gm5,g6,gm6]
theorem neg_in {n:Int} (h:-4611686018427387904≤n∧n≤4611686018427387904):IntKind.i64.wrap (0 - n) = -n:=by rw [wrap_in (by omega) (by omega)];omega
def litB (n v:Int):Bool:=(n != 0)&&inB n (-v) v
theorem litB_in {n v:Int} (hv:v≤4294967296) (h:litB n v=true):-4294967296≤n∧n≤4294967296:=by
 simp only [litB,inB,Bool.and_eq_true,decide_eq_true_eq] at h
 omega
theorem impl_isLiteral.fc (n v:Int) (hv:0≤v∧v≤4294967296):FCt prog F_impl_isLiteral [.ro,.ro] [Ii n,Ii v] (Bb (litB n v)) []:=by
 refine fct_run impl_isLiteral.ok rfl ?_
 have hw:=neg_in (n:=v) (by omega)
 unfold litB
 cases h:(n != 0)
 · simp only [go_sem,h]
 · simp only [go_sem,h,hw]
   refine fcW_bool (impl_in.fc ..) ?_
   simp only [go_sem]
def varI (n:Int):Int:=if IntKind.i64.wrap (0 - n) > n then IntKind.i64.wrap (0 - n) else n
theorem impl_variable.fc (n:Int):FCt prog F_impl_variable [.ro] [Ii n] (Ii (varI n)) []:=by
 refine fct_run impl_variable.ok rfl ?_
 unfold varI
 simp only [go_sem]
theorem impl_isClause_c1.fc (k n:Int):FCt prog F_impl_isClause_c1 [.ro,.ro] [Ii k,.ptr (Ii n)] (Bb (varI k == varI n)) []:=by
 refine fct_run impl_isClause_c1.ok rfl ?_
 simp only [go_sem]
 refine fcW_int (impl_variable.fc ..) ?_
 simp only [go_sem]
 refine fcW_int (impl_variable.fc ..) ?_
 simp only [go_sem]
theorem varI_in {n:Int} (h:-4294967296≤n∧n≤4294967296):varI n=if n < 0 then -n else n:=by
 unfold varI
 rw [neg_in (by omega)]
 split<;>split<;>omega
def clAt (v:Int) (c:List Int) (i:Nat):Bool:=litB (c.getD i 0) v&&!((c.take i).any (· == c.getD i 0))&&!((c.take i).any (· == -(c.getD i 0)))
def clauseB (v:Int) (c:List Int):Bool:=(List.range c.length).all (clAt v c)&&decide (c.length≤12)
theorem cl_step {v:Int} {c:List Int} {k:Nat} (h:(List.range k).all (clAt v c)=true) (h2:clAt v c k=true):(List.range (k+1)).all (clAt v c)=true:=by
 rw [List.range_succ,List.all_append,h];simpa using h2
theorem cl_not {v:Int} {c:List Int} {k:Nat} (hk:k < c.length) (h2:clAt v c k=false):clauseB v c=false:=by
 unfold clauseB
 rw [Bool.and_eq_false_iff]
 refine .inl ?_
 rw [← Bool.not_eq_true,List.all_eq_true]
 intro h
 have:=h k (by simpa using hk)
 rw [h2] at this;cases this
theorem cl_lit {v:Int} {c:List Int} {k:Nat} (hk:k≤c.length) (h:(List.range k).all (clAt v c)=true):∀ x∈c.take k,litB x v=true:=by
 intro x hx
 rw [List.mem_take_iff_getElem] at hx
 obtain ⟨i,hi,rfl⟩:=hx
 have:=List.all_eq_true.1 h i (by simp;omega)
 simp only [clAt,Bool.and_eq_true] at this
 have e:c.getD i 0=c[i]:=by rw [List.getD_eq_getElem?_getD,List.getElem?_eq_getElem (by omega)];rfl
 rw [← e];exact this.1.1
theorem cl_var {v x:Int} {l:List Int} (hv:v≤4294967296) (hl:∀ y∈l,litB y v=true) (hx:litB x v=true):l.any (fun y=>varI y == varI x)=(l.any (· == x)||l.any (· == -x)):=by
 have hxi:=litB_in hv hx
 rw [Bool.eq_iff_iff,Bool.or_eq_true,List.any_eq_true,List.any_eq_true,List.any_eq_true]
 constructor
 · rintro ⟨y,hy,e⟩
   have hyi:=litB_in hv (hl y hy)
   rw [varI_in hyi,varI_in hxi] at e
   have e:(if y < 0 then -y else y)=(if x < 0 then -x else x):=by simpa using e
   by_cases h:y=x
   · exact .inl ⟨y,hy,by simpa using h⟩
   · refine .inr ⟨y,hy,?_⟩
     have:y = -x:=by split at e<;>split at e<;>omega
     simpa using this
 · rintro (⟨y,hy,e⟩|⟨y,hy,e⟩)
   · have e:y=x:=by simpa using e
     subst e
     exact ⟨y,hy,by simp⟩
   · have e:y = -x:=by simpa using e
     subst e
     refine ⟨_,hy,?_⟩
     rw [varI_in (litB_in hv (hl _ hy)),varI_in hxi]
     simp
     split<;>split<;>omega
theorem spec_l4Clause.fc (v:Int) (c:List Int) (hv:0≤v∧v≤4294967296) (hl:c.length≤4294967296):FCt prog F_spec_l4Clause [.ro,.ro] [Ii v,ints c] (Bb (clauseB v c)) []:=by
 refine fct_run spec_l4Clause.ok rfl ?_
 simp only [go_sem]
 refine R_loop (α:=Nat) (fun k s' M'=>k≤c.length∧s' 9=aI k∧(List.range k).all (clAt v c)=true) (fun k=>c.length - k) 0 ⟨by omega,by simp only [go_sem];rfl,by simp⟩ ?_
 rintro k s' M' ⟨hk,h9,hr⟩ ho
 have h0:s' 0=aI v:=by rw [ho 0 rfl];simp only [go_sem]
 have h1:s' 1=.dat none (ints c):=by rw [ho 1 rfl];simp only [go_sem]
 have h7:s' 7=.dat none (ints c):=by rw [ho 7 rfl];simp only [go_sem]
 have h8:s' 8=aI c.length:=by rw [ho 8 rfl];simp only [go_sem]
 clear ho
 unfold spec_l4Clause.b0
 have hvw:=neg_in (n:=v) (by omega)
 by_cases hlt:k < c.length
 · have hi':(k:Int) < c.length:=by omega
   have ga:c[k]? = some c[k]:=List.getElem?_eq_getElem hlt
   have hw:IntKind.i64.wrap (k+1)=((k+1:Nat):Int):=wrap_k hlt (by omega)
   have gd:c.getD k 0=c[k]:=by rw [List.getD_eq_getElem?_getD,ga];rfl
   have hle:(k:Int)≤c.length:=by omega
   simp only [go_sem,hi',ga,h0,h1,h7,h8,h9,hvw]
   cases hz:(c[k] == 0) with
   | true =>
    have hf:clauseB v c=false:=cl_not hlt (by simp only [clAt,gd,litB,bne,hz,Bool.not_true,Bool.false_and])
    simp only [go_sem,hz,hf,h0,h1,h7,h8,h9,hvw]
   | false =>
    simp only [go_sem,hz,h0,h1,h7,h8,h9,hvw]
    refine fcW_bool (spec_l1In.fc ..) ?_
    cases hin:inB c[k] (-v) v with
    | false =>
     have hf:clauseB v c=false:=cl_not hlt (by simp only [clAt,gd,litB,hin,Bool.and_false,Bool.false_and])
     simp only [go_sem,hf,h0,h1,h7,h8,h9,hvw]
    | true =>
     have hlit:litB c[k] v=true:=by simp only [litB,hin,bne,hz];rfl
     have hxi:=litB_in hv.2 hlit
     have hxw:=neg_in (n:=c[k]) (by omega)
     simp only [go_sem,hle,← List.map_take,hxw,h0,h1,h7,h8,h9,hvw]
     refine fcW_bool (spec_l1Has.fc (c.take k) _ (by rw [List.length_take];omega)) ?_
     cases ha:(c.take k).any (· == c[k]) with
     | true =>
      have hf:clauseB v c=false:=cl_not hlt (by simp only [clAt,gd,ha,Bool.not_true,Bool.and_false,Bool.false_and])
      simp only [go_sem,hf,h0,h1,h7,h8,h9,hvw]
     | false =>
      simp only [go_sem,hle,← List.map_take,hxw,h0,h1,h7,h8,h9,hvw]
      refine fcW_bool (spec_l1Has.fc (c.take k) _ (by rw [List.length_take];omega)) ?_
      cases hb:(c.take k).any (· == -c[k]) with
      | true =>
       have hf:clauseB v c=false:=cl_not hlt (by simp only [clAt,gd,hb,Bool.not_true,Bool.and_false])
       simp only [go_sem,hf,h0,h1,h7,h8,h9,hvw]
      | false =>
       simp only [go_sem,hw,h0,h1,h7,h8,h9,hvw]
       exact ⟨k+1,by dsimp only;omega,by omega,by simp only [go_sem,h0,h1,h7,h8,h9,hvw],cl_step hr (by simp only [clAt,gd,hlit,ha,hb];rfl)⟩
 · have hi':¬ (k:Int) < c.length:=by omega
   have hkl:k=c.length:=by omega
   subst hkl
   have hf:clauseB v c=decide ((c.length:Int)≤12):=by
    simp only [clauseB,hr,Bool.true_and]
    exact decide_eq_decide.2 (by omega)
   simp only [go_sem,hi',hf,h0,h1,h7,h8,h9,hvw]
theorem impl_isClause.fc (c:List Int) (v:Int) (hv:0≤v∧v≤4294967296) (hl:c.length≤4294967296):FCt prog F_impl_isClause [.ro,.ro] [ints c,Ii v] (Bb (clauseB v c)) []:=by
 refine fct_run impl_isClause.ok rfl ?_
 simp only [go_sem]
 refine R_loop (α:=Nat) (fun k s' M'=>k≤c.length∧s' 9=aI k∧(List.range k).all (clAt v c)=true) (fun k=>c.length - k) 0 ⟨by omega,by simp only [go_sem];rfl,by simp⟩ ?_
 rintro k s' M' ⟨hk,h9,hr⟩ ho
 have h0:s' 0=.dat none (ints c):=by rw [ho 0 rfl];simp only [go_sem]
 have h1:s' 1=aI v:=by rw [ho 1 rfl];simp only [go_sem]
 have h7:s' 7=.dat none (ints c):=by rw [ho 7 rfl];simp only [go_sem]
 have h8:s' 8=aI c.length:=by rw [ho 8 rfl];simp only [go_sem]
 clear ho
 unfold impl_isClause.b0
 by_cases hlt:k < c.length
 · have hi':(k:Int) < c.length:=by omega
   have ga:c[k]? = some c[k]:=List.getElem?_eq_getElem hlt
   have hw:IntKind.i64.wrap (k+1)=((k+1:Nat):Int):=wrap_k hlt (by omega)
   have gd:c.getD k 0=c[k]:=by rw [List.getD_eq_getElem?_getD,ga];rfl
   have hle:(k:Int)≤c.length:=by omega
   simp only [go_sem,hi',ga,h0,h1,h7,h8,h9]
   refine fcW_bool (impl_isLiteral.fc _ _ hv) ?_
   cases hlit:litB c[k] v with
   | false =>
    have hf:clauseB v c=false:=cl_not hlt (by simp only [clAt,gd,hlit,Bool.false_and])
    simp only [go_sem,hf,h0,h1,h7,h8,h9]
   | true =>
    simp only [go_sem,hle,← List.map_take,h0,h1,h7,h8,h9]
    refine fcW_bool (slices_ContainsFunc__sint_int.fc (c.take k) F_impl_isClause_c1 [.ptr (Ii c[k])] (fun y=>varI y == varI c[k]) (by rw [List.length_take];omega) (fun x _=>impl_isClause_c1.fc x c[k])) ?_
    rw [cl_var hv.2 (cl_lit hk hr) hlit]
    cases ha:(c.take k).any (· == c[k]) with
    | true =>
     have hf:clauseB v c=false:=cl_not hlt (by simp only [clAt,gd,ha,Bool.not_true,Bool.and_false,Bool.false_and])
     simp only [go_sem,hf,h0,h1,h7,h8,h9]
    | false =>
     cases hb:(c.take k).any (· == -c[k]) with
     | true =>
      have hf:clauseB v c=false:=cl_not hlt (by simp only [clAt,gd,hb,Bool.not_true,Bool.and_false])
      simp only [go_sem,hf,h0,h1,h7,h8,h9]
     | false =>
      simp only [go_sem,hw,h0,h1,h7,h8,h9]
      exact ⟨k+1,by dsimp only;omega,by omega,by simp only [go_sem,h0,h1,h7,h8,h9],cl_step hr (by simp only [clAt,gd,hlit,ha,hb];rfl)⟩
 · have hi':¬ (k:Int) < c.length:=by omega
   have hkl:k=c.length:=by omega
   subst hkl
   have hf:clauseB v c=decide ((c.length:Int)≤12):=by
    simp only [clauseB,hr,Bool.true_and]
    exact decide_eq_decide.2 (by omega)
   simp only [go_sem,hi',hf,h0,h1,h7,h8,h9]
theorem impl_areClauses_c1.fc (c:List Int) (v:Int) (hv:0≤v∧v≤4294967296) (hl:c.length≤4294967296):FCt prog F_impl_areClauses_c1 [.ro,.ro] [ints c,.ptr (Ii v)] (Bb (!clauseB v c)) []:=by
 refine fct_run impl_areClauses_c1.ok rfl ?_
 simp only [go_sem]
 refine fcW_bool (impl_isClause.fc _ _ hv hl) ?_
 simp only [go_sem]
theorem any_not_all {α:Type} {p:α→Bool}:∀ {l:List α},l.any (fun x=>!p x) = !l.all p
 | []=>rfl
 | x::l=>by simp only [List.any_cons,List.all_cons,any_not_all (l:=l),Bool.not_and]
theorem impl_areClauses.fc (l:List (List Int)) (v:Int) (hv:0≤v∧v≤4294967296) (hl:l.length≤4294967296) (hr:∀ c∈l,c.length≤4294967296):FCt prog F_impl_areClauses [.ro,.ro] [intss l,Ii v] (Bb (l.all (clauseB v))) []:=by
 refine fct_run impl_areClauses.ok rfl ?_
 simp only [go_sem]
 refine fcW_bool (slices_ContainsFunc__ssint_sint.fc l F_impl_areClauses_c1 [.ptr (Ii v)] (fun c=>!clauseB v c) hl (fun c hc=>impl_areClauses_c1.fc c v hv (hr c hc))) ?_
 simp only [go_sem,any_not_all,Bool.not_not]
def goodC (v:Int) (l:List (List Int)):Bool:=inB v 0 12&&decide (l.length≤60)&&l.all (clauseB v)
theorem impl_GoodClauses.fc (v:Int) (l:List (List Int)) (hl:l.length≤4294967296) (hr:∀ c∈l,c.length≤4294967296):FCt prog F_impl_GoodClauses [.ro,.ro] [Ii v,intss l] (Bb (goodC v l)) []:=by
 refine fct_run impl_GoodClauses.ok rfl ?_
 unfold goodC
 simp only [go_sem]
 refine fcW_bool (impl_in.fc ..) ?_
 cases hin:inB v 0 12
 · simp only [go_sem]
 · have hv:0≤v∧v≤4294967296:=by simp only [inB,Bool.and_eq_true,decide_eq_true_eq] at hin;omega
   by_cases h2:l.length≤60
   · have h2':(l.length:Int)≤60:=by omega
     simp only [go_sem,h2,h2']
     refine fcW_bool (impl_areClauses.fc _ _ hv hl hr) ?_
     simp only [go_sem,h2]
   · have h2':¬ (l.length:Int)≤60:=by omega
     simp only [go_sem,h2,h2']
theorem spec_l4Good.fc (v:Int) (l:List (List Int)) (m:Int) (hl:l.length≤4294967296) (hr:∀ c∈l,c.length≤4294967296):FCt prog F_spec_l4Good [.ro,.ro,.ro] [Ii v,intss l,Ii m] (Bb (inB v 0 12&&decide ((l.length:Int)≤m)&&l.all (clauseB v))) []:=by
 refine fct_run spec_l4Good.ok rfl ?_
 simp only [go_sem]
 refine fcW_bool (spec_l1In.fc ..) ?_
 cases hin:inB v 0 12
 · simp only [go_sem]
 · have hv:0≤v∧v≤4294967296:=by simp only [inB,Bool.and_eq_true,decide_eq_true_eq] at hin;omega
   by_cases h2:(l.length:Int) > m
   · have h2':¬ (l.length:Int)≤m:=by omega
     simp only [go_sem,h2,h2']
   · have h2':(l.length:Int)≤m:=by omega
     simp only [go_sem,h2,h2']
     refine R_loop (α:=Nat) (fun k s' M'=>k≤l.length∧s' 20=aI k∧(l.take k).all (clauseB v)=true) (fun k=>l.length - k) 0 ⟨by omega,by simp only [go_sem];rfl,by simp⟩ ?_
     rintro k s' M' ⟨hk,h20,hrr⟩ ho
     have h0:s' 0=aI v:=by rw [ho 0 rfl];simp only [go_sem]
     have h18:s' 18=.dat none (intss l):=by rw [ho 18 rfl];simp only [go_sem]
     have h19:s' 19=aI l.length:=by rw [ho 19 rfl];simp only [go_sem]
     clear ho
     unfold spec_l4Good.b0
     by_cases hlt:k < l.length
     · have hi':(k:Int) < l.length:=by omega
       have ga:l[k]? = some l[k]:=List.getElem?_eq_getElem hlt
       have hw:IntKind.i64.wrap (k+1)=((k+1:Nat):Int):=wrap_k hlt (by omega)
       simp only [go_sem,hi',ga,h0,h18,h19,h20]
       refine fcW_bool (spec_l4Clause.fc _ _ hv (hr _ (List.getElem_mem hlt))) ?_
       cases hc:clauseB v l[k] with
       | false=>simp only [go_sem,not_all hlt hc,h0,h18,h19,h20]
       | true =>
        simp only [go_sem,hw,h0,h18,h19,h20]
        exact ⟨k+1,by dsimp only;omega,by omega,by simp only [go_sem,h0,h18,h19,h20],all_take hlt hrr hc⟩
     · have hi':¬ (k:Int) < l.length:=by omega
       rw [List.take_of_length_le (by omega)] at hrr
       simp only [go_sem,hi',hrr,h2',h0,h18,h19,h20]
theorem spec_GoodClauses.fc (v:Int) (l:List (List Int)) (hl:l.length≤4294967296) (hr:∀ c∈l,c.length≤4294967296):FCt prog F_spec_GoodClauses [.ro,.ro] [Ii v,intss l] (Bb (goodC v l)) []:=by
 refine fct_run spec_GoodClauses.ok rfl ?_
 have:goodC v l=(inB v 0 12&&decide ((l.length:Int)≤60)&&l.all (clauseB v)):=by
  unfold goodC
  rw [show decide (l.length≤60)=decide ((l.length:Int)≤60) from decide_eq_decide.2 (by omega)]
 simp only [go_sem]
 refine fcW_bool (spec_l4Good.fc _ _ _ hl hr) ?_
 simp only [go_sem,this]
theorem slices_Index__sint_int.fc (l:List Int) (x:Int) (hl:l.length≤4294967296):FCt prog F_slices_Index__sint_int [.ro,.ro] [ints l,Ii x] (Ii (idxB (fun y=>x == y) l)) []:=by
 refine fct_run slices_Index__sint_int.ok rfl ?_
 simp only [go_sem]
 refine R_loop (α:=Nat) (fun k s' M'=>k≤l.length∧s' 8=aI k∧(l.take k).all (fun y=>!(x == y))=true) (fun k=>l.length - k) 0 ⟨by omega,by simp only [go_sem];rfl,by simp⟩ ?_
 rintro k s' M' ⟨hk,h8,hr⟩ ho
 unfold slices_Index__sint_int.b0
 have k0:s' 0=.dat none (ints l):=by rw [ho 0 rfl];simp only [go_sem]
 have k1:s' 1=aI x:=by rw [ho 1 rfl];simp only [go_sem]
 have k7:s' 7=aI l.length:=by rw [ho 7 rfl];simp only [go_sem]
 clear ho
 by_cases hlt:k < l.length
 · have hi':(k:Int) < l.length:=by omega
   have ga:l[k]? = some l[k]:=List.getElem?_eq_getElem hlt
   have hw:IntKind.i64.wrap (k+1)=((k+1:Nat):Int):=wrap_k hlt (by omega)
   simp only [go_sem,hi',ga,k0,k1,k7,h8]
   cases hc:(x == l[k]) with
   | true=>simp only [go_sem,idxB_some (p:=fun y=>x == y) hlt hr hc,k0,k1,k7,h8]
   | false =>
    simp only [go_sem,hw,k0,k1,k7,h8]
    exact ⟨k+1,by dsimp only;omega,by omega,by simp only [go_sem,k0,k1,k7,h8],all_take hlt hr (by rw [hc];rfl)⟩
 · have hi':¬ (k:Int) < l.length:=by omega
   obtain rfl:k=l.length:=by omega
   rw [List.take_length] at hr
   simp only [go_sem,hi',idxB_none hr,k0,k1,k7,h8]
theorem slices_Contains__sint_int.fc (l:List Int) (x:Int) (hl:l.length≤4294967296):FCt prog F_slices_Contains__sint_int [.ro,.ro] [ints l,Ii x] (Bb (l.any (· == x))) []:=by
 refine fct_run slices_Contains__sint_int.ok rfl ?_
 have e:l.any (fun y=>x == y)=l.any (· == x):=by congr 1;funext y;rw [Bool.beq_comm]
 simp only [go_sem]
 refine fcW_int (slices_Index__sint_int.fc l x hl) ?_
 simp only [go_sem,ge_iff_le,idxB_any,e]
def negL (l:List Int):List Int:=l.map fun x=>IntKind.i64.wrap (0 - x)
theorem impl_learn.fc (l:List Int) (hl:l.length≤4294967296):FCt prog F_impl_learn [.ro] [ints l] (ints (negL l)) []:=by
 refine fct_run impl_learn.ok rfl ?_
 simp only [go_sem]
 refine R_loop (α:=Nat) (fun k s' M'=>k≤l.length∧s' 8=aI k∧∃ v,s' 3=.sl 896 v 0 k 1∧M'.m 896=some (.arr v true 1 ((negL (l.take k)).map Ii))) (fun k=>l.length - k) 0
  ⟨by omega,by simp only [go_sem];rfl,_,by simp only [go_sem];rfl,by simp only [go_sem];rfl⟩ ?_
 rintro k s' M' ⟨hk,h8,v,h3,hm⟩ ho
 unfold impl_learn.b0
 have k6:s' 6=.dat none (ints l):=by rw [ho 6 rfl];simp only [go_sem]
 have k7:s' 7=aI l.length:=by rw [ho 7 rfl];simp only [go_sem]
 clear ho
 by_cases hlt:k < l.length
 · have hi':(k:Int) < l.length:=by omega
   have ga:l[k]? = some l[k]:=List.getElem?_eq_getElem hlt
   have hw:IntKind.i64.wrap (k+1)=((k+1:Nat):Int):=wrap_k hlt (by omega)
   have hb:(k+1) * 8≤70368744177664:=by omega
   have htk:((negL (l.take k)).map Ii).take k=(negL (l.take k)).map Ii:=List.take_of_length_le (by simp [negL];omega)
   have hln:(negL (l.take k)).length=k:=by simp [negL];omega
   simp only [go_sem,hi',ga,hw,hb,htk,hln,Nat.le_refl,k6,k7,h8,h3,hm]
   exact ⟨k+1,by dsimp only;omega,by omega,by simp only [go_sem,k6,k7,h8,h3,hm],_,by simp only [go_sem,k6,k7,h8,h3,hm];rfl,by simp only [go_sem,k6,k7,h8,h3,hm];rw [take_succ' hlt];simp only [negL,List.map_append,List.map_cons,List.map_nil]⟩
 · have hi':¬ (k:Int) < l.length:=by omega
   obtain rfl:k=l.length:=by omega
   have hln:(negL l).length=l.length:=by simp [negL]
   have htk:((negL l).map Ii).take l.length=(negL l).map Ii:=List.take_of_length_le (by simp [negL])
   simp only [go_sem,hi',List.take_length,hln,htk,Nat.le_refl,k6,k7,h8,h3,hm]
theorem spec_l5Negate.fc (l:List Int) (hl:l.length≤4294967296):FCt prog F_spec_l5Negate [.ro] [ints l] (ints (negL l)) []:=by
 refine fct_run spec_l5Negate.ok rfl ?_
 simp only [go_sem]
 refine R_loop (α:=Nat) (fun k s' M'=>k≤l.length∧s' 8=aI k∧∃ v,s' 3=.sl 896 v 0 k 1∧M'.m 896=some (.arr v true 1 ((negL (l.take k)).map Ii))) (fun k=>l.length - k) 0
  ⟨by omega,by simp only [go_sem];rfl,_,by simp only [go_sem];rfl,by simp only [go_sem];rfl⟩ ?_
 rintro k s' M' ⟨hk,h8,v,h3,hm⟩ ho
 unfold spec_l5Negate.b0
 have k6:s' 6=.dat none (ints l):=by rw [ho 6 rfl];simp only [go_sem]
 have k7:s' 7=aI l.length:=by rw [ho 7 rfl];simp only [go_sem]
 clear ho
 by_cases hlt:k < l.length
 · have hi':(k:Int) < l.length:=by omega
   have ga:l[k]? = some l[k]:=List.getElem?_eq_getElem hlt
   have hw:IntKind.i64.wrap (k+1)=((k+1:Nat):Int):=wrap_k hlt (by omega)
   have hb:(k+1) * 8≤70368744177664:=by omega
   have htk:((negL (l.take k)).map Ii).take k=(negL (l.take k)).map Ii:=List.take_of_length_le (by simp [negL];omega)
   have hln:(negL (l.take k)).length=k:=by simp [negL];omega
   simp only [go_sem,hi',ga,hw,hb,htk,hln,Nat.le_refl,k6,k7,h8,h3,hm]
   exact ⟨k+1,by dsimp only;omega,by omega,by simp only [go_sem,k6,k7,h8,h3,hm],_,by simp only [go_sem,k6,k7,h8,h3,hm];rfl,by simp only [go_sem,k6,k7,h8,h3,hm];rw [take_succ' hlt];simp only [negL,List.map_append,List.map_cons,List.map_nil]⟩
 · have hi':¬ (k:Int) < l.length:=by omega
   obtain rfl:k=l.length:=by omega
   have hln:(negL l).length=l.length:=by simp [negL]
   have htk:((negL l).map Ii).take l.length=(negL l).map Ii:=List.take_of_length_le (by simp [negL])
   simp only [go_sem,hi',List.take_length,hln,htk,Nat.le_refl,k6,k7,h8,h3,hm]
theorem ris_lt {lo hi:Int} {l:List Int} (h:rising lo hi l=true):∀ (j i:Nat),i < j→∀ (hj:j < l.length) (hi':i < l.length),l[i] < l[j]
 | 0,i,hij,_,_=>by omega
 | j+1,i,hij,hj,hi'=>by
  have:=List.all_eq_true.1 h (j+1) (by simpa using hj)
  simp only [risAt,Bool.and_eq_true,Bool.not_eq_true',Bool.and_eq_false_iff,decide_eq_false_iff_not] at this
  have e1:l.getD (j+1) 0=l[j+1]:=by rw [List.getD_eq_getElem?_getD,List.getElem?_eq_getElem hj];rfl
  have e2:l.getD (j+1 - 1) 0=l[j]:=by rw [List.getD_eq_getElem?_getD,Nat.add_sub_cancel,List.getElem?_eq_getElem (by omega)];rfl
  rw [e1,e2] at this
  have h1:l[j] < l[j+1]:=by omega
  by_cases e:i=j
  · subst e;exact h1
  · have:=ris_lt h j i (by omega) (by omega) hi'
    omega
theorem ris_nodup {lo hi:Int} {l:List Int} (h:rising lo hi l=true):l.Nodup:=by
 rw [List.nodup_iff_pairwise_ne,List.pairwise_iff_getElem]
 intro i j hi hj hij
 have:=ris_lt h j i hij hj hi
 omega
theorem few_lack {n:Nat}:∀ {l:List Int},(∀ x∈l,0≤x∧x≤n)→l.Nodup→l.length+lackN n l≤n+1
 | [],_,_=>by have:=lack_le (n:=n) (so:=[]);simpa using this
 | a::l,h,hd=>by
  rw [List.nodup_cons] at hd
  have ih:=few_lack (l:=l) (fun x hx=>h x (List.mem_cons_of_mem _ hx)) hd.2
  have ha:=h a List.mem_cons_self
  have e:((a.toNat:Nat):Int)=a:=by omega
  have:lackN n (a::l) < lackN n l:=by
   unfold lackN
   refine filter_lt (z:=a.toNat) (by simp;omega) ?_ ?_ fun y hy=>?_
   · rw [e]
     have:hasI l a=false:=by rw [← Bool.not_eq_true,hasI_iff];exact hd.1
     rw [this];rfl
   · rw [e];simp [hasI]
   · simp only [hasI,List.any_cons,Bool.not_or,Bool.and_eq_true] at hy ⊢;exact hy.2
  simp only [List.length_cons];omega
def rcC (r:RuleD):List Int:=r.ifs.map (fun x=>-x)++(if r.thn > 0 then [r.thn] else [])
def rcK (r:RuleD):Bool:=!hasI r.ifs r.thn
theorem neg_rule {n:Int} {r:RuleD} (hn:n≤12) (h:goodRule n r=true):negL r.ifs=r.ifs.map (fun x=>-x):=by
 simp only [goodRule,Bool.and_eq_true] at h
 have:=ris_mem h.1
 unfold negL
 refine List.map_congr_left fun x hx=>?_
 have:=this x hx
 exact neg_in (by omega)
theorem any_neg {l:List Int} {x:Int}:(l.map (fun y=>-y)).any (· == x)=hasI l (-x):=by
 rw [Bool.eq_iff_iff,hasI_iff,List.any_eq_true]
 constructor
 · rintro ⟨y,hy,e⟩
   obtain ⟨z,hz,rfl⟩:=List.mem_map.1 hy
   have e:-z=x:=by simpa using e
   rw [← e,Int.neg_neg];exact hz
 · intro h
   exact ⟨x,List.mem_map.2 ⟨-x,h,by omega⟩,by simp⟩
theorem hasI_false {l:List Int} {x:Int}:hasI l x=false↔x ∉ l:=by rw [← Bool.not_eq_true,hasI_iff]
theorem rc_clause {n:Int} {r:RuleD} (hn:1≤n∧n≤12) (h:goodRule n r=true):clauseB n (rcC r)=rcK r:=by
 obtain ⟨N,rfl⟩:∃ N:Nat,n=N:=⟨n.toNat,by omega⟩
 have ht:=good_thn h
 simp only [goodRule,Bool.and_eq_true] at h
 have hm:=ris_mem h.1
 have hnd:=ris_nodup h.1
 have hne:∀ x∈r.ifs,1≤x∧x≤(N:Int):=fun x hx=>hm x hx
 have hlen1:(rcC r).length=r.ifs.length+(if r.thn > 0 then 1 else 0):=by unfold rcC;split<;>simp [*]
 have hlk:=few_lack (n:=N) (l:=r.ifs) (fun x hx=>by have:=hm x hx;omega) hnd
 have h0:1≤lackN N r.ifs:=by
  have:=filter_lt (p:=fun (i:Nat)=>!hasI r.ifs (i:Int)) (q:=fun _=>false) (l:=List.range (N+1)) (z:=0) (by simp) (by
   have:hasI r.ifs ((0:Nat):Int)=false:=hasI_false.2 fun hh=>by have:=hm _ hh;omega
   rw [this];rfl) rfl (fun y hy=>by cases hy)
  unfold lackN;omega
 have lt1:∀ i,i < r.ifs.length→clAt N (rcC r) i=true:=by
  intro i hi
  have hx:=hm _ (List.getElem_mem hi)
  have e:(rcC r).getD i 0 = -r.ifs[i]:=by
   rw [List.getD_eq_getElem?_getD];unfold rcC
   rw [List.getElem?_append_left (by simpa using hi)];simp [hi]
  have e2:(rcC r).take i=(r.ifs.take i).map (fun x=>-x):=by
   unfold rcC;rw [List.take_append_of_le_length (by simp;omega),List.map_take]
  simp only [clAt,e,e2,any_neg,Int.neg_neg]
  have g1:hasI (r.ifs.take i) r.ifs[i]=false:=hasI_false.2 fun hh=>by
   rw [List.mem_take_iff_getElem] at hh
   obtain ⟨j,hj,e⟩:=hh
   have:=ris_lt h.1 i j (by omega) hi (by omega)
   omega
  have g2:hasI (r.ifs.take i) (-r.ifs[i])=false:=hasI_false.2 fun hh=>by
   have:=hm _ (List.mem_of_mem_take hh);omega
  rw [g1,g2]
  simp [litB,inB];omega
 unfold clauseB rcK
 by_cases hp:r.thn > 0
 · have e:(rcC r).getD r.ifs.length 0=r.thn:=by
    rw [List.getD_eq_getElem?_getD];unfold rcC
    rw [List.getElem?_append_right (by simp),if_pos hp];simp
   have e2:(rcC r).take r.ifs.length=r.ifs.map (fun x=>-x):=by
    unfold rcC;rw [List.take_append_of_le_length (by simp)];exact List.take_of_length_le (by simp)
   have hl:clAt N (rcC r) r.ifs.length = !hasI r.ifs r.thn:=by
    simp only [clAt,e,e2,any_neg,Int.neg_neg]
    have g2:hasI r.ifs (-r.thn)=false:=hasI_false.2 fun hh=>by have:=hm _ hh;omega
    rw [g2]
    have:litB r.thn N=true:=by simp [litB,inB];omega
    rw [this];simp
   rw [hlen1,if_pos hp,List.range_succ,List.all_append]
   have ha:(List.range r.ifs.length).all (clAt N (rcC r))=true:=List.all_eq_true.2 fun i hi=>lt1 i (by simpa using hi)
   rw [ha]
   simp only [List.all_cons,List.all_nil,hl,Bool.true_and,Bool.and_true]
   cases hc:hasI r.ifs r.thn with
   | true=>simp
   | false =>
    have h2:=few_lack (n:=N) (l:=r.thn::r.ifs) (fun x hx=>by
     rcases List.mem_cons.1 hx with rfl|hx
     · omega
     · have:=hm x hx;omega) (List.nodup_cons.2 ⟨hasI_false.1 hc,hnd⟩)
    have h3:1≤lackN N (r.thn::r.ifs):=by
     have:=filter_lt (p:=fun (i:Nat)=>!hasI (r.thn::r.ifs) (i:Int)) (q:=fun _=>false) (l:=List.range (N+1)) (z:=0) (by simp) (by
      have:hasI (r.thn::r.ifs) ((0:Nat):Int)=false:=hasI_false.2 fun hh=>by
       rcases List.mem_cons.1 hh with hh|hh
       · omega
       · have:=hm _ hh;omega
      rw [this];rfl) rfl (fun y hy=>by cases hy)
     unfold lackN;omega
    simp only [List.length_cons] at h2
    simp;omega
 · rw [hlen1,if_neg hp,Nat.add_zero]
   have ha:(List.range r.ifs.length).all (clAt N (rcC r))=true:=List.all_eq_true.2 fun i hi=>lt1 i (by simpa using hi)
   have hc:hasI r.ifs r.thn=false:=hasI_false.2 fun hh=>by have:=hm _ hh;omega
   rw [ha,hc]
   simp;omega
def rcD (n:Int) (l:List RuleD):D:=if goodRules n l then .tup [intss ((l.filter rcK).map rcC),Bb true] else .tup [.sl 1 [],Bb false]
theorem filter_step {α:Type} {p:α→Bool} {l:List α} {k:Nat} (h:k < l.length):(l.take (k+1)).filter p=(l.take k).filter p++(if p l[k] then [l[k]] else []):=by
 rw [take_succ' h,List.filter_append]
 simp only [List.filter_cons,List.filter_nil]
theorem filter_few {α:Type} {p:α→Bool} {l:List α} {k:Nat}:((l.take k).filter p).length≤k:=Nat.le_trans (List.length_filter_le _ _) (by rw [List.length_take];omega)
def outRc (l:List RuleD):List D:=((l.filter rcK).map rcC).map ints
theorem outRc_step {l:List RuleD} {k:Nat} (h:k < l.length):outRc (l.take (k+1))=outRc (l.take k)++(if rcK l[k] then [ints (rcC l[k])] else []):=by
 unfold outRc
 rw [filter_step h]
 simp only [List.map_append]
 split<;>rfl
theorem outRc_len {l:List RuleD} {k:Nat}:(outRc (l.take k)).length≤k:=by
 unfold outRc;simp only [List.length_map];exact filter_few
theorem impl_RulesAsClauses.fc (n:Int) (l:List RuleD) (hl:l.length≤4294967296) (hi:∀ r∈l,r.ifs.length≤4294967296):FCt prog F_impl_RulesAsClauses [.ro,.ro] [Ii n,rules l] (rcD n l) []:=by
 refine fct_run impl_RulesAsClauses.ok rfl ?_
 unfold rcD
 simp only [go_sem]
 refine fcW_bool (impl_GoodRules.fc l n hl hi) ?_
 cases hg:goodRules n l with
 | false=>simp only [go_sem]
 | true =>
  obtain ⟨hn,hl2,hr⟩:=good_rules hg
  simp only [go_sem]
  refine R_loop (α:=Nat) (fun k s' M'=>k≤l.length∧s' 16=aI k∧∃ w,s' 6=.sl 2496 w 0 (outRc (l.take k)).length 1∧M'.m 2496=some (.arr w true 1 (outRc (l.take k)))) (fun k=>l.length - k) 0
   ⟨by omega,by simp only [go_sem];rfl,_,by simp only [go_sem];rfl,by simp only [go_sem];rfl⟩ ?_
  rintro k s' M' ⟨hk,h16,w,h6,hm⟩ ho
  unfold impl_RulesAsClauses.b0
  have k14:s' 14=.dat none (rules l):=by rw [ho 14 rfl];simp only [go_sem]
  have k15:s' 15=aI l.length:=by rw [ho 15 rfl];simp only [go_sem]
  clear ho
  by_cases hlt:k < l.length
  · have hi':(k:Int) < l.length:=by omega
    have ga:l[k]? = some l[k]:=List.getElem?_eq_getElem hlt
    have hw:IntKind.i64.wrap (k+1)=((k+1:Nat):Int):=wrap_k hlt (by omega)
    have hgr:=hr _ (List.getElem_mem hlt)
    have hst:=outRc_step hlt
    have hln:=outRc_len (l:=l) (k:=k)
    simp only [go_sem,hi',ga,k14,k15,h16,h6,hm]
    refine fcW_bool (slices_Contains__sint_int.fc l[k].ifs l[k].thn (hi _ (List.getElem_mem hlt))) ?_
    cases hc:l[k].ifs.any (· == l[k].thn) with
    | true =>
     have hrk:rcK l[k]=false:=by simp only [rcK,hasI,hc];rfl
     rw [hrk] at hst
     simp only [Bool.false_eq_true,if_false,List.append_nil] at hst
     simp only [go_sem,hw,k14,k15,h16,h6,hm]
     exact ⟨k+1,by dsimp only;omega,by omega,by simp only [go_sem,k14,k15,h16,h6,hm],w,by simp only [go_sem,k14,k15,h16,h6,hm];rw [hst],by simp only [go_sem,k14,k15,h16,h6,hm];rw [hst]⟩
    | false =>
     have hrk:rcK l[k]=true:=by simp only [rcK,hasI,hc];rfl
     rw [hrk,if_pos rfl] at hst
     have hng:=neg_rule hn.2 hgr
     have hnl:(negL l[k].ifs).length≤4294967296:=by unfold negL;simp;exact hi _ (List.getElem_mem hlt)
     simp only [go_sem,k14,k15,h16,h6,hm]
     refine fcW_bd (impl_learn.fc l[k].ifs (hi _ (List.getElem_mem hlt))) noRs_ints ?_
     have htn:((negL l[k].ifs).map Ii).take (negL l[k].ifs).length=(negL l[k].ifs).map Ii:=take_map_len
     have hb:((negL l[k].ifs).length+1) * 8≤70368744177664:=by omega
     have hb2:((outRc (l.take k)).length+1) * 24≤70368744177664:=by omega
     by_cases hp:l[k].thn > 0
     · have hrc:ints (rcC l[k])=.sl 1 ((negL l[k].ifs).map Ii++[D.int IntKind.i64 l[k].thn]):=by
        unfold rcC;rw [hng,if_pos hp];simp
       rw [hrc] at hst
       have htk2:((negL l[k].ifs).map Ii++[D.int IntKind.i64 l[k].thn]).take ((negL l[k].ifs).length+1)=(negL l[k].ifs).map Ii++[D.int IntKind.i64 l[k].thn]:=List.take_of_length_le (by simp)
       have hll2:((negL l[k].ifs).map Ii++[D.int IntKind.i64 l[k].thn]).length=(negL l[k].ifs).length+1:=by simp
       simp only [go_sem,hp,hw,htn,hb,hb2,htk2,hll2,List.take_length,k14,k15,h16,h6,hm]
       exact ⟨k+1,by dsimp only;omega,by omega,by simp only [go_sem,k14,k15,h16,h6,hm],_,by simp only [go_sem,k14,k15,h16,h6,hm];rw [hst,List.length_append];rfl,by simp only [go_sem,k14,k15,h16,h6,hm];rw [hst]⟩
     · have hrc:ints (rcC l[k])=.sl 1 ((negL l[k].ifs).map Ii):=by
        unfold rcC;rw [hng,if_neg hp];simp
       rw [hrc] at hst
       simp only [go_sem,hp,hw,htn,hb,hb2,List.take_length,k14,k15,h16,h6,hm]
       exact ⟨k+1,by dsimp only;omega,by omega,by simp only [go_sem,k14,k15,h16,h6,hm],_,by simp only [go_sem,k14,k15,h16,h6,hm];rw [hst,List.length_append];rfl,by simp only [go_sem,k14,k15,h16,h6,hm];rw [hst]⟩
  · have hi':¬ (k:Int) < l.length:=by omega
    obtain rfl:k=l.length:=by omega
    rw [List.take_length] at h6 hm
    simp only [go_sem,hi',List.take_length,k14,k15,h16,h6,hm]
    rfl
theorem spec_RulesAsClauses.fc (n:Int) (l:List RuleD) (hl:l.length≤4294967296) (hi:∀ r∈l,r.ifs.length≤4294967296):FCt prog F_spec_RulesAsClauses [.ro,.ro] [Ii n,rules l] (rcD n l) []:=by
 refine fct_run spec_RulesAsClauses.ok rfl ?_
 unfold rcD
 simp only [go_sem]
 refine fcW_bool (spec_GoodRules.fc l n hl hi) ?_
 cases hg:goodRules n l with
 | false=>simp only [go_sem]
 | true =>
  obtain ⟨hn,hl2,hr⟩:=good_rules hg
  simp only [go_sem]
  refine R_loop (α:=Nat) (fun k s' M'=>k≤l.length∧s' 16=aI k∧∃ w,s' 6=.sl 2368 w 0 (outRc (l.take k)).length 1∧M'.m 2368=some (.arr w true 1 (outRc (l.take k)))) (fun k=>l.length - k) 0
   ⟨by omega,by simp only [go_sem];rfl,_,by simp only [go_sem];rfl,by simp only [go_sem];rfl⟩ ?_
  rintro k s' M' ⟨hk,h16,w,h6,hm⟩ ho
  unfold spec_RulesAsClauses.b0
  have k0:s' 0=aI n:=by rw [ho 0 rfl];simp only [go_sem]
  have k14:s' 14=.dat none (rules l):=by rw [ho 14 rfl];simp only [go_sem]
  have k15:s' 15=aI l.length:=by rw [ho 15 rfl];simp only [go_sem]
  clear ho
  by_cases hlt:k < l.length
  · have hi':(k:Int) < l.length:=by omega
    have ga:l[k]? = some l[k]:=List.getElem?_eq_getElem hlt
    have hw:IntKind.i64.wrap (k+1)=((k+1:Nat):Int):=wrap_k hlt (by omega)
    have hgr:=hr _ (List.getElem_mem hlt)
    have hst:=outRc_step hlt
    have hln:=outRc_len (l:=l) (k:=k)
    have hng:=neg_rule hn.2 hgr
    have hnl:(negL l[k].ifs).length≤4294967296:=by unfold negL;simp;exact hi _ (List.getElem_mem hlt)
    have hcl:=rc_clause hn hgr
    have hcn:(rcC l[k]).length≤4294967297:=by
     have:=hi _ (List.getElem_mem hlt)
     unfold rcC;split<;>simp<;>omega
    simp only [go_sem,hi',ga,k0,k14,k15,h16,h6,hm]
    refine fcW_bd (spec_l5Negate.fc l[k].ifs (hi _ (List.getElem_mem hlt))) noRs_ints ?_
    have htn:((negL l[k].ifs).map Ii).take (negL l[k].ifs).length=(negL l[k].ifs).map Ii:=take_map_len
    have hb:((negL l[k].ifs).length+1) * 8≤70368744177664:=by omega
    have hb2:((outRc (l.take k)).length+1) * 24≤70368744177664:=by omega
    have hlif:(negL l[k].ifs).length≤12:=by
     have hnd:=ris_nodup (by simp only [goodRule,Bool.and_eq_true] at hgr;exact hgr.1)
     have hmm:=ris_mem (by simp only [goodRule,Bool.and_eq_true] at hgr;exact hgr.1)
     have:=few_lack (n:=12) (l:=l[k].ifs) (fun x hx=>by have:=hmm x hx;omega) hnd
     have h0:1≤lackN 12 l[k].ifs:=by
      have:=filter_lt (p:=fun (i:Nat)=>!hasI l[k].ifs (i:Int)) (q:=fun _=>false) (l:=List.range (12+1)) (z:=0) (by simp) (by
       have:hasI l[k].ifs ((0:Nat):Int)=false:=hasI_false.2 fun hh=>by have:=hmm _ hh;omega
       rw [this];rfl) rfl (fun y hy=>by cases hy)
      unfold lackN;omega
     unfold negL;simp;omega
    by_cases hp:l[k].thn > 0
    · have hrc0:rcC l[k]=negL l[k].ifs++[l[k].thn]:=by unfold rcC;rw [hng,if_pos hp]
      have hrc:(negL l[k].ifs).map Ii++[D.int IntKind.i64 l[k].thn]=(rcC l[k]).map Ii:=by rw [hrc0];simp
      have hrl:(rcC l[k]).length=(negL l[k].ifs).length+1:=by rw [hrc0];simp
      have htk2:((rcC l[k]).map Ii).take ((negL l[k].ifs).length+1)=(rcC l[k]).map Ii:=List.take_of_length_le (by simp [hrl])
      simp only [go_sem,hp,htn,hb,hrc,hrl,htk2,List.take_length,Nat.le_refl,k0,k14,k15,h16,h6,hm]
      refine fcW_bool (spec_l4Clause.fc n (rcC l[k]) (by omega) (by omega)) ?_
      rw [hcl]
      cases hrk:rcK l[k] with
      | true =>
       rw [hrk,if_pos rfl] at hst
       simp only [go_sem,hw,hb2,hrl,htk2,List.take_length,Nat.le_refl,k0,k14,k15,h16,h6,hm]
       exact ⟨k+1,by dsimp only;omega,by omega,by simp only [go_sem,k0,k14,k15,h16,h6,hm],_,by simp only [go_sem,k0,k14,k15,h16,h6,hm];rw [hst,List.length_append];rfl,by simp only [go_sem,k0,k14,k15,h16,h6,hm];rw [hst]⟩
      | false =>
       rw [hrk] at hst
       simp only [Bool.false_eq_true,if_false,List.append_nil] at hst
       simp only [go_sem,hw,k0,k14,k15,h16,h6,hm]
       exact ⟨k+1,by dsimp only;omega,by omega,by simp only [go_sem,k0,k14,k15,h16,h6,hm],w,by simp only [go_sem,k0,k14,k15,h16,h6,hm];rw [hst],by simp only [go_sem,k0,k14,k15,h16,h6,hm];rw [hst]⟩
    · have hrc0:rcC l[k]=negL l[k].ifs:=by unfold rcC;rw [hng,if_neg hp,List.append_nil]
      rw [← hrc0] at htn hb hlif ⊢
      simp only [go_sem,hp,htn,Nat.le_refl,k0,k14,k15,h16,h6,hm]
      refine fcW_bool (spec_l4Clause.fc n (rcC l[k]) (by omega) (by omega)) ?_
      rw [hcl]
      cases hrk:rcK l[k] with
      | true =>
       rw [hrk,if_pos rfl] at hst
       simp only [go_sem,hw,hb2,htn,List.take_length,Nat.le_refl,k0,k14,k15,h16,h6,hm]
       exact ⟨k+1,by dsimp only;omega,by omega,by simp only [go_sem,k0,k14,k15,h16,h6,hm],_,by simp only [go_sem,k0,k14,k15,h16,h6,hm];rw [hst,List.length_append];rfl,by simp only [go_sem,k0,k14,k15,h16,h6,hm];rw [hst]⟩
      | false =>
       rw [hrk] at hst
       simp only [Bool.false_eq_true,if_false,List.append_nil] at hst
       simp only [go_sem,hw,k0,k14,k15,h16,h6,hm]
       exact ⟨k+1,by dsimp only;omega,by omega,by simp only [go_sem,k0,k14,k15,h16,h6,hm],w,by simp only [go_sem,k0,k14,k15,h16,h6,hm];rw [hst],by simp only [go_sem,k0,k14,k15,h16,h6,hm];rw [hst]⟩
  · have hi':¬ (k:Int) < l.length:=by omega
    obtain rfl:k=l.length:=by omega
    rw [List.take_length] at h6 hm
    simp only [go_sem,hi',List.take_length,k0,k14,k15,h16,h6,hm]
    rfl
theorem slices_Clone__sint_int.fc (l:List Int) (hl:l.length≤4294967296):FCt prog F_slices_Clone__sint_int [.ro] [ints l] (ints l) []:=by
 refine fct_run slices_Clone__sint_int.ok rfl ?_
 have hsc:(l.map Ii).all isSc=true:=by rw [List.all_eq_true];intro d hd;obtain ⟨x,_,rfl⟩:=List.mem_map.1 hd;rfl
 cases l with
 | nil=>simp only [go_sem,List.length_nil,List.map_nil,List.all_nil];try rfl
 | cons b l =>
  have hb:(l.length+1) * 8≤70368744177664:=by simp only [List.length_cons] at hl;omega
  have htk:(l.map Ii).take l.length=l.map Ii:=List.take_of_length_le (by simp)
  simp only [List.map_cons,List.all_cons,Bool.and_eq_true] at hsc
  have h1:=hsc.1
  have h2:=hsc.2
  simp only [go_sem,h1,h2,hb,Nat.zero_le,htk]
  try rfl
theorem slices_DeleteFunc__sint_int.fc (l:List Int) (f:FuncId) (caps:List D) (p:Int→Bool) (hl:l.length≤4294967296)
 (h:∀ x∈l,FCt prog f (.ro::caps.map fun _=>.ro) (Ii x::caps) (Bb (p x)) []):FCt prog F_slices_DeleteFunc__sint_int [.co,.ro] [ints l,.clo f caps] (ints (l.filter fun x=>!p x)) []:=by
 refine fct_run slices_DeleteFunc__sint_int.ok rfl ?_
 simp only [go_sem,take_map_len]
 refine fcW_int (slices_IndexFunc__sint_int.fc l f caps p hl h) ?_
 cases hc:l.findIdx? p with
 | none =>
  have e:idxB p l = -1:=by unfold idxB;rw [hc]
  have hf:l.filter (fun x=>!p x)=l:=List.filter_eq_self.2 fun x hx=>by simpa using List.findIdx?_eq_none_iff.1 hc x hx
  simp only [go_sem,e,take_map_len,hf]
 | some i0 =>
  have e:idxB p l=(i0:Int):=by unfold idxB;rw [hc]
  rw [List.findIdx?_eq_some_iff_getElem] at hc
  obtain ⟨hi0,hp0,hlt0⟩:=hc
  have hne:((i0:Int) == -1)=false:=by rw [beq_eq_false_iff_ne];omega
  have hw0:IntKind.i64.wrap ((i0:Int)+1)=((i0+1:Nat):Int):=by rw [wrap_in (by omega) (by omega)];omega
  have hf0:(l.take (i0+1)).filter (fun x=>!p x)=l.take i0:=by
   rw [take_succ' hi0,List.filter_append]
   have h1:(l.take i0).filter (fun x=>!p x)=l.take i0:=List.filter_eq_self.2 fun x hx=>by
    rw [List.mem_take_iff_getElem] at hx
    obtain ⟨j,hj,rfl⟩:=hx
    simpa using hlt0 j (by omega)
   simp [h1,hp0]
  simp only [go_sem,e,hne,hw0]
  refine R_cut (fun ex s' M'=>ex=.ex 0∧∃ cur:List Int,cur.length=l.length∧s' 5=aI (l.filter fun x=>!p x).length∧cur.take (l.filter fun x=>!p x).length=(l.filter fun x=>!p x)∧(l.filter fun x=>!p x).length < l.length∧M'.m 0=some (.arr 0 true 1 (cur.map Ii))) ?_ ?_
  · refine R_loop (α := Nat × List Int) (fun a s' M' => a.1 ≤ l.length ∧ s' 6 = aI a.1 ∧ s' 5 = aI ((l.take a.1).filter fun x => !p x).length ∧ ((l.take a.1).filter fun x => !p x).length < a.1 ∧ a.2.length = l.length ∧
        a.2.take ((l.take a.1).filter fun x=>!p x).length=((l.take a.1).filter fun x=>!p x)∧a.2.drop a.1=l.drop a.1∧M'.m 0=some (.arr 0 true 1 (a.2.map Ii))) (fun a=>l.length - a.1) (i0+1,l)
     ⟨by dsimp only;omega,by simp only [go_sem],by dsimp only;rw [hf0,List.length_take,Nat.min_eq_left (by omega)];simp only [go_sem],by dsimp only;rw [hf0,List.length_take];omega,rfl,by dsimp only;rw [hf0,List.length_take,Nat.min_eq_left (by omega)],rfl,by simp only [go_sem]⟩ ?_
    rintro ⟨k,cur⟩ s' M' ⟨hk,h6,h5,hik,hcl,hct,hcd,hm⟩ ho
    dsimp only at hk h6 h5 hik hcl hct hcd hm
    unfold slices_DeleteFunc__sint_int.b0
    have k0:s' 0=.sl 0 0 0 l.length 1:=by rw [ho 0 rfl];simp only [go_sem]
    have k1:s' 1=.clo f (caps.map bindC):=by rw [ho 1 rfl];simp only [go_sem]
    clear ho
    by_cases hlt:k < l.length
    · have hi':(k:Int) < l.length:=by omega
      have ga:l[k]? = some l[k]:=List.getElem?_eq_getElem hlt
      have hw:IntKind.i64.wrap (k+1)=((k+1:Nat):Int):=wrap_k hlt (by omega)
      have gc:cur[k]? = some l[k]:=by
       have:=congrArg (fun z=>z[0]?) hcd
       simp only [List.getElem?_drop,Nat.add_zero] at this
       rw [this,ga]
      have hst:=filter_step (p:=fun x=>!p x) hlt
      simp only [go_sem,hi',gc,k0,k1,h6,h5,hm]
      refine ccl_ro (ds:=[Ii l[k]]) (by simp only [go_sem,k0,k1,h6,h5,hm]) ?_
      refine fcW_bool (h _ (List.getElem_mem hlt)) ?_
      cases hp:p l[k] with
      | true =>
       rw [hp] at hst
       simp only [Bool.not_true,Bool.false_eq_true,if_false,List.append_nil] at hst
       simp only [go_sem,hw,k0,k1,h6,h5,hm]
       exact ⟨(k+1,cur),by dsimp only;omega,by dsimp only;omega,by simp only [go_sem,k0,k1,h6,h5,hm],by dsimp only;rw [hst];simp only [go_sem,k0,k1,h6,h5,hm],by dsimp only;rw [hst];omega,hcl,by dsimp only;rw [hst];exact hct,by dsimp only;rw [← List.drop_drop,hcd,List.drop_drop],by simp only [go_sem,k0,k1,h6,h5,hm]⟩
      | false =>
       rw [hp] at hst
       simp only [Bool.not_false,if_true] at hst
       have hil:(((l.take k).filter fun x=>!p x).length:Int) < l.length:=by omega
       have hlc:((l.take k).filter fun x=>!p x).length < cur.length:=by omega
       have gi:cur[((l.take k).filter fun x=>!p x).length]? = some cur[((l.take k).filter fun x=>!p x).length]:=List.getElem?_eq_getElem hlc
       have hwi:IntKind.i64.wrap (((l.take k).filter fun x=>!p x).length+1)=((((l.take k).filter fun x=>!p x).length+1:Nat):Int):=by rw [wrap_in (by omega) (by omega)];omega
       have hms:∀ j,(cur.map Ii).set j (Ii l[k])=(cur.set j l[k]).map Ii:=fun j=>by rw [List.map_set]
       simp only [go_sem,hil,gi,hw,hwi,hms,k0,k1,h6,h5,hm]
       refine ⟨(k+1,cur.set ((l.take k).filter fun x=>!p x).length l[k]),by dsimp only;omega,by dsimp only;omega,by simp only [go_sem,k0,k1,h6,h5,hm],by dsimp only;rw [hst];simp only [go_sem,List.length_append,k0,k1,h6,h5,hm],by dsimp only;rw [hst,List.length_append];simp;omega,by simpa using hcl,?_,?_,by simp only [go_sem,hms,k0,k1,h6,h5,hm]⟩
       · dsimp only
         rw [hst,List.length_append]
         simp only [List.length_cons,List.length_nil,Nat.zero_add]
         rw [List.take_succ_eq_append_getElem (by simpa using hlc),List.take_set_of_le (Nat.le_refl _),hct]
         simp
       · dsimp only
         rw [List.drop_set,if_pos (by omega),← List.drop_drop,hcd,List.drop_drop]
    · have hi':¬ (k:Int) < l.length:=by omega
      obtain rfl:k=l.length:=by omega
      rw [List.take_length] at h5 hik hct
      simp only [go_sem,hi',h5,k0,k1,h6,h5,hm]
      exact ⟨cur,hcl,hct,hik,rfl⟩
  · rintro ex s' M' ⟨rfl,cur,hcl,h5,hct,hlt,hm⟩ ho
    have k0:s' 0=.sl 0 0 0 l.length 1:=by rw [ho 0 rfl];simp only [go_sem]
    have k1:s' 1=.clo f (caps.map bindC):=by rw [ho 1 rfl];simp only [go_sem]
    clear ho
    generalize hF:l.filter (fun x=>!p x)=F at *
    have hle:(F.length:Int)≤l.length:=by omega
    have hle':F.length≤l.length:=by omega
    have hsub:((l.length:Int) - (F.length:Int)).toNat=l.length - F.length:=by omega
    have hz:¬ l.length - F.length=0:=by omega
    have hsum:F.length+(l.length - F.length)≤l.length:=by omega
    have hsc:(((cur.map Ii).drop F.length).take (l.length - F.length)).all isSc=true:=List.all_eq_true.2 fun d hd=>by
     obtain ⟨x,_,rfl⟩:=List.mem_map.1 (List.mem_of_mem_drop (List.mem_of_mem_take hd));rfl
    have hln:((cur.map Ii).take F.length++List.replicate (l.length - F.length) (D.int .i64 0)++(cur.map Ii).drop (F.length+(l.length - F.length))).length=l.length:=by simp;omega
    have htk:((cur.map Ii).take F.length++List.replicate (l.length - F.length) (D.int .i64 0)++(cur.map Ii).drop (F.length+(l.length - F.length))).take F.length=F.map Ii:=by
     rw [List.append_assoc,List.take_append_of_le_length (by simp;omega),List.take_take,Nat.min_self,← List.map_take,hct]
    simp only [go_sem,k0,k1,h5,hm,hcl,hle,hle',hsub,hz,hsum,hsc,hln,htk,Int.le_refl,Nat.zero_add,List.length_replicate,Nat.zero_le]
def meetD (a b:List Int):D:=if rising 1 12 a&&rising 1 12 b then .tup [ints (a.filter (hasI b)),Bb true] else .tup [.sl 1 [],Bb false]
theorem impl_MeetOf_c1.fc (x:Int) (b:List Int) (hb:b.length≤4294967296):FCt prog F_impl_MeetOf_c1 [.ro,.ro] [Ii x,.ptr (ints b)] (Bb (!hasI b x)) []:=by
 refine fct_run impl_MeetOf_c1.ok rfl ?_
 simp only [go_sem]
 refine fcW_bool (slices_Contains__sint_int.fc b x hb) ?_
 simp only [go_sem,hasI]
theorem impl_MeetOf.fc (a b:List Int) (ha:a.length≤4294967296) (hb:b.length≤4294967296):FCt prog F_impl_MeetOf [.ro,.ro] [ints a,ints b] (meetD a b) []:=by
 refine fct_run impl_MeetOf.ok rfl ?_
 unfold meetD
 simp only [go_sem]
 refine fcW_bool (impl_areFacts.fc a 12 ha) ?_
 cases h1:rising 1 12 a with
 | false=>simp only [go_sem]
 | true =>
  simp only [go_sem]
  refine fcW_bool (impl_areFacts.fc b 12 hb) ?_
  cases h2:rising 1 12 b with
  | false=>simp only [go_sem]
  | true =>
   simp only [go_sem]
   refine fcW_bd (slices_Clone__sint_int.fc a ha) noRs_ints ?_
   simp only [go_sem,take_map_len]
   refine coW_of (slices_DeleteFunc__sint_int.fc a F_impl_MeetOf_c1 [.ptr (ints b)] (fun x=>!hasI b x) ha (fun x _=>impl_MeetOf_c1.fc x b hb)) noRs_ints rfl ?_
   have e:a.filter (fun x=>!!hasI b x)=a.filter (hasI b):=by simp
   simp only [go_sem,e,take_map_len]
theorem spec_MeetOf.fc (a b:List Int) (ha:a.length≤4294967296) (hb:b.length≤4294967296):FCt prog F_spec_MeetOf [.ro,.ro] [ints a,ints b] (meetD a b) []:=by
 refine fct_run spec_MeetOf.ok rfl ?_
 unfold meetD
 simp only [go_sem]
 refine fcW_bool (spec_l16Facts.fc a 12 ha) ?_
 cases h1:rising 1 12 a with
 | false=>simp only [go_sem]
 | true =>
  simp only [go_sem]
  refine fcW_bool (spec_l16Facts.fc b 12 hb) ?_
  cases h2:rising 1 12 b with
  | false=>simp only [go_sem]
  | true =>
   simp only [go_sem]
   refine R_loop (α:=Nat) (fun k s' M'=>k≤a.length∧s' 19=aI k∧∃ v,s' 6=.sl 1728 v 0 ((a.take k).filter (hasI b)).length 1∧M'.m 1728=some (.arr v true 1 (((a.take k).filter (hasI b)).map Ii))) (fun k=>a.length - k) 0
    ⟨by omega,by simp only [go_sem];rfl,_,by simp only [go_sem];rfl,by simp only [go_sem];rfl⟩ ?_
   rintro k s' M' ⟨hk,h19,v,h6,hm⟩ ho
   unfold spec_MeetOf.b0
   have k1:s' 1=.dat none (ints b):=by rw [ho 1 rfl];simp only [go_sem]
   have k17:s' 17=.dat none (ints a):=by rw [ho 17 rfl];simp only [go_sem]
   have k18:s' 18=aI a.length:=by rw [ho 18 rfl];simp only [go_sem]
   clear ho
   by_cases hlt:k < a.length
   · have hi':(k:Int) < a.length:=by omega
     have ga:a[k]? = some a[k]:=List.getElem?_eq_getElem hlt
     have hw:IntKind.i64.wrap (k+1)=((k+1:Nat):Int):=wrap_k hlt (by omega)
     have hst:=filter_step (p:=hasI b) hlt
     have hfl:=filter_few (p:=hasI b) (l:=a) (k:=k)
     have hbb:(((a.take k).filter (hasI b)).length+1) * 8≤70368744177664:=by omega
     simp only [go_sem,hi',ga,k1,k17,k18,h19,h6,hm]
     refine fcW_bool (spec_l1Has.fc b a[k] hb) ?_
     cases hc:b.any (· == a[k]) with
     | true =>
      have hh:hasI b a[k]=true:=hc
      rw [hh,if_pos rfl] at hst
      simp only [go_sem,hw,hbb,take_map_len,k1,k17,k18,h19,h6,hm]
      exact ⟨k+1,by dsimp only;omega,by omega,by simp only [go_sem,k1,k17,k18,h19,h6,hm],_,by simp only [go_sem,k1,k17,k18,h19,h6,hm];rw [hst,List.length_append];rfl,by simp only [go_sem,k1,k17,k18,h19,h6,hm];rw [hst];simp⟩
     | false =>
      have hh:hasI b a[k]=false:=hc
      rw [hh] at hst
      simp only [Bool.false_eq_true,if_false,List.append_nil] at hst
      simp only [go_sem,hw,k1,k17,k18,h19,h6,hm]
      exact ⟨k+1,by dsimp only;omega,by omega,by simp only [go_sem,k1,k17,k18,h19,h6,hm],v,by simp only [go_sem,k1,k17,k18,h19,h6,hm];rw [hst],by simp only [go_sem,k1,k17,k18,h19,h6,hm];rw [hst]⟩
   · have hi':¬ (k:Int) < a.length:=by omega
     obtain rfl:k=a.length:=by omega
     rw [List.take_length] at h6 hm
     simp only [go_sem,hi',take_map_len,k1,k17,k18,h19,h6,hm]
def posC (c:List Int):List Int:=c.filter fun n=>decide (n > 0)
def hornC (c:List Int):Bool:=decide ((posC c).length≤1)
def hornD (v:Int) (l:List (List Int)):D:=if goodC v l then .tup [Bb (l.all hornC),Bb true] else .tup [Bb false,Bb false]
theorem goodC_lit {v:Int} {l:List (List Int)} (h:goodC v l=true):∀ c∈l,∀ x∈c,litB x v=true:=by
 simp only [goodC,Bool.and_eq_true,List.all_eq_true] at h
 intro c hc x hx
 have:=h.2 c hc
 simp only [clauseB,Bool.and_eq_true] at this
 exact cl_lit (Nat.le_refl c.length) this.1 x (by rw [List.take_length];exact hx)
theorem impl_IsHorn_c1.fc (x:Int):FCt prog F_impl_IsHorn_c1 [.ro] [Ii x] (Bb (decide (x < 0))) []:=by
 refine fct_run impl_IsHorn_c1.ok rfl ?_
 simp only [go_sem]
theorem impl_IsHorn.fc (v:Int) (l:List (List Int)) (hl:l.length≤4294967296) (hr:∀ c∈l,c.length≤4294967296):FCt prog F_impl_IsHorn [.ro,.ro] [Ii v,intss l] (hornD v l) []:=by
 refine fct_run impl_IsHorn.ok rfl ?_
 unfold hornD
 simp only [go_sem]
 refine fcW_bool (impl_GoodClauses.fc v l hl hr) ?_
 cases hg:goodC v l with
 | false=>simp only [go_sem]
 | true =>
  simp only [go_sem]
  refine R_loop (α:=Nat) (fun k s' M'=>k≤l.length∧s' 15=aI k∧(l.take k).all hornC=true) (fun k=>l.length - k) 0 ⟨by omega,by simp only [go_sem];rfl,by simp⟩ ?_
  rintro k s' M' ⟨hk,h15,hrd⟩ ho
  unfold impl_IsHorn.b0
  have k13:s' 13=.dat none (intss l):=by rw [ho 13 rfl];simp only [go_sem]
  have k14:s' 14=aI l.length:=by rw [ho 14 rfl];simp only [go_sem]
  clear ho
  by_cases hlt:k < l.length
  · have hi':(k:Int) < l.length:=by omega
    have ga:l[k]? = some l[k]:=List.getElem?_eq_getElem hlt
    have hw:IntKind.i64.wrap (k+1)=((k+1:Nat):Int):=wrap_k hlt (by omega)
    have hlk:=hr _ (List.getElem_mem hlt)
    have hlit:=goodC_lit hg _ (List.getElem_mem hlt)
    have hps:l[k].filter (fun n=>!decide (n < 0))=posC l[k]:=by
     refine List.filter_congr fun x hx=>?_
     have:=hlit x hx
     simp only [litB,Bool.and_eq_true,bne_iff_ne] at this
     rw [Bool.eq_iff_iff];simp;omega
    simp only [go_sem,hi',ga,k13,k14,h15]
    refine fcW_bd (slices_Clone__sint_int.fc l[k] hlk) noRs_ints ?_
    simp only [go_sem,take_map_len,k13,k14,h15]
    refine coW_of (slices_DeleteFunc__sint_int.fc l[k] F_impl_IsHorn_c1 [] (fun x=>decide (x < 0)) hlk (fun x _=>impl_IsHorn_c1.fc x)) noRs_ints rfl ?_
    rw [hps]
    by_cases hc:(posC l[k]).length≤1
    · have hc':¬ ((posC l[k]).length:Int) > 1:=by omega
      simp only [go_sem,hc',hw,k13,k14,h15]
      exact ⟨k+1,by dsimp only;omega,by omega,by simp only [go_sem,k13,k14,h15],all_take hlt hrd (by simp [hornC,hc])⟩
    · have hc':((posC l[k]).length:Int) > 1:=by omega
      have hf:=not_all (p:=hornC) hlt (by simp [hornC,hc])
      simp only [go_sem,hc',hf,k13,k14,h15]
  · have hi':¬ (k:Int) < l.length:=by omega
    obtain rfl:k=l.length:=by omega
    rw [List.take_length] at hrd
    simp only [go_sem,hi',hrd,k13,k14,h15]
theorem spec_IsHorn.fc (v:Int) (l:List (List Int)) (hl:l.length≤4294967296) (hr:∀ c∈l,c.length≤4294967296):FCt prog F_spec_IsHorn [.ro,.ro] [Ii v,intss l] (hornD v l) []:=by
 refine fct_run spec_IsHorn.ok rfl ?_
 unfold hornD
 simp only [go_sem]
 refine fcW_bool (spec_GoodClauses.fc v l hl hr) ?_
 cases hg:goodC v l with
 | false=>simp only [go_sem]
 | true =>
  simp only [go_sem]
  refine R_loop (α:=Nat) (fun k s' M'=>k≤l.length∧s' 17=aI k∧(l.take k).all hornC=true) (fun k=>l.length - k) 0 ⟨by omega,by simp only [go_sem];rfl,by simp⟩ ?_
  rintro k s' M' ⟨hk,h17,hrd⟩ ho
  unfold spec_IsHorn.b1
  have k15:s' 15=.dat none (intss l):=by rw [ho 15 rfl];simp only [go_sem]
  have k16:s' 16=aI l.length:=by rw [ho 16 rfl];simp only [go_sem]
  clear ho
  by_cases hlt:k < l.length
  · have hi':(k:Int) < l.length:=by omega
    have ga:l[k]? = some l[k]:=List.getElem?_eq_getElem hlt
    have hw:IntKind.i64.wrap (k+1)=((k+1:Nat):Int):=wrap_k hlt (by omega)
    have hlk:=hr _ (List.getElem_mem hlt)
    simp only [go_sem,hi',ga,k15,k16,h17]
    refine R_cut (fun e s' M'=>e=.ex 2∧s' 8=aI (posC l[k]).length) ?_ ?_
    · refine R_loop (α:=Nat) (fun j s' M'=>j≤l[k].length∧s' 23=aI j∧s' 8=aI (posC (l[k].take j)).length) (fun j=>l[k].length - j) 0 ⟨by omega,by simp only [go_sem,k15,k16,h17];rfl,by simp only [go_sem,k15,k16,h17];rfl⟩ ?_
      rintro j s2 M2 ⟨hj,h23,h8⟩ ho
      unfold spec_IsHorn.b0
      have g21:s2 21=.dat none (ints l[k]):=by rw [ho 21 rfl];simp only [go_sem,k15,k16,h17]
      have g22:s2 22=aI l[k].length:=by rw [ho 22 rfl];simp only [go_sem,k15,k16,h17]
      clear ho
      by_cases hjt:j < l[k].length
      · have hj':(j:Int) < l[k].length:=by omega
        have gj:l[k][j]? = some l[k][j]:=List.getElem?_eq_getElem hjt
        have hwj:IntKind.i64.wrap (j+1)=((j+1:Nat):Int):=wrap_k hjt (by omega)
        have hst:=filter_step (p:=fun n:Int=>decide (n > 0)) hjt
        have hfl:=filter_few (p:=fun n:Int=>decide (n > 0)) (l:=l[k]) (k:=j)
        by_cases hp:l[k][j] > 0
        · rw [decide_eq_true hp,if_pos rfl] at hst
          have hwp:IntKind.i64.wrap ((posC (l[k].take j)).length+1)=(((posC (l[k].take j)).length+1:Nat):Int):=by unfold posC;rw [wrap_in (by omega) (by omega)];omega
          simp only [go_sem,hj',gj,hp,hwj,hwp,k15,k16,h17,g21,g22,h23,h8]
          exact ⟨j+1,by dsimp only;omega,by omega,by simp only [go_sem,k15,k16,h17,g21,g22,h23,h8],by simp only [go_sem,k15,k16,h17,g21,g22,h23,h8];unfold posC;rw [hst,List.length_append];rfl⟩
        · rw [decide_eq_false hp] at hst
          simp only [Bool.false_eq_true,if_false,List.append_nil] at hst
          simp only [go_sem,hj',gj,hp,hwj,k15,k16,h17,g21,g22,h23,h8]
          exact ⟨j+1,by dsimp only;omega,by omega,by simp only [go_sem,k15,k16,h17,g21,g22,h23,h8],by simp only [go_sem,k15,k16,h17,g21,g22,h23,h8];unfold posC;rw [hst]⟩
      · have hj':¬ (j:Int) < l[k].length:=by omega
        obtain rfl:j=l[k].length:=by omega
        rw [List.take_length] at h8
        simp only [go_sem,hj',h8,k15,k16,h17,g21,g22,h23,h8]
    · rintro e s2 M2 ⟨rfl,h8⟩ ho
      have g17:s2 17=aI k:=by rw [ho 17 rfl];simp only [go_sem,k15,k16,h17]
      clear ho
      by_cases hc:(posC l[k]).length≤1
      · have hc':¬ ((posC l[k]).length:Int) > 1:=by omega
        simp only [go_sem,hc',hw,k15,k16,h17,g17,h8]
        exact ⟨k+1,by dsimp only;omega,by omega,by simp only [go_sem,k15,k16,h17,g17,h8],all_take hlt hrd (by simp [hornC,hc])⟩
      · have hc':((posC l[k]).length:Int) > 1:=by omega
        have hf:=not_all (p:=hornC) hlt (by simp [hornC,hc])
        simp only [go_sem,hc',hf,k15,k16,h17,g17,h8]
  · have hi':¬ (k:Int) < l.length:=by omega
    obtain rfl:k=l.length:=by omega
    rw [List.take_length] at hrd
    simp only [go_sem,hi',hrd,k15,k16,h17]
theorem ris_of {n:Int} {l:List Int} (h1:l.Pairwise (· < ·)) (h2:∀ x∈l,1≤x∧x≤n):rising 1 n l=true:=by
 unfold rising
 rw [List.all_eq_true]
 intro i hi
 have hi:i < l.length:=by simpa using hi
 have e:l.getD i 0=l[i]:=by rw [List.getD_eq_getElem?_getD,List.getElem?_eq_getElem hi];rfl
 have hm:=h2 _ (List.getElem_mem hi)
 simp only [risAt,inB,e,Bool.and_eq_true,decide_eq_true_eq,Bool.not_eq_true',Bool.and_eq_false_iff,decide_eq_false_iff_not]
 refine ⟨⟨hm.1,hm.2⟩,?_⟩
 by_cases h0:0 < i
 · right
   have e2:l.getD (i - 1) 0=l[i - 1]:=by rw [List.getD_eq_getElem?_getD,List.getElem?_eq_getElem (by omega)];rfl
   rw [e2]
   have:=(List.pairwise_iff_getElem.1 h1) (i - 1) i (by omega) hi (by omega)
   omega
 · left;exact h0
theorem listI_pw {n:Nat} {p:Nat→Bool}:(listI n p).Pairwise (· < ·):=by
 unfold listI
 rw [List.pairwise_map]
 refine (List.Pairwise.filter _ (List.pairwise_lt_range (n:=n))).imp ?_
 intro a b h
 omega
structure LeastIn (n:Nat) (l:List RuleD) (so ap:List Int):Prop where
 pos:∀ x∈so,1≤x∧x≤n
 sub:∀ T:List Int,(∀ r∈l,r.thn > 0→r.ifs.all (hasI T)=true→hasI T r.thn=true)→∀ x∈so,hasI T x=true
 thens:∀ x,x∈so↔x∈ap.map fun i=>(ruleAt l i.toNat).thn
 at':∀ i∈ap,0≤i∧i < l.length∧0 < (ruleAt l i.toNat).thn
 why:∀ j,j < ap.length→∀ y∈(ruleAt l (ap.getD j 0).toNat).ifs,y∈(ap.take j).map fun i=>(ruleAt l i.toNat).thn
theorem LeastIn.start {n:Nat} {l:List RuleD}:LeastIn n l [] [] where
 pos:=by simp
 sub:=by simp
 thens:=by simp
 at':=by simp
 why:=by simp
theorem LeastIn.next {n:Nat} {l:List RuleD} (hr:∀ r∈l,goodRule n r=true) {so ap:List Int} (h:LeastIn n l so ap) {i:Nat} (hi:l.findIdx? (readyR so)=some i):LeastIn n l (putI so (ruleAt l i).thn) (ap++[(i:Int)]):=by
 obtain ⟨h1,h2⟩:=ready_at hi
 have hm:ruleAt l i∈l:=by rw [ruleAt_get h1];exact List.getElem_mem h1
 have hg:=good_thn (hr _ hm)
 have h3:=h2
 simp only [readyR,Bool.and_eq_true,decide_eq_true_eq,Bool.not_eq_true',List.all_eq_true] at h3
 obtain ⟨⟨h4,h5⟩,h6⟩:=h3
 refine ⟨?_,?_,?_,?_,?_⟩
 · intro x hx
   rcases mem_putI.1 hx with rfl|hx
   · omega
   · exact h.pos x hx
 · intro T hT x hx
   rcases mem_putI.1 hx with rfl|hx
   · refine hT _ hm h4 ?_
     rw [List.all_eq_true]
     intro y hy
     exact h.sub T hT y (hasI_iff.1 (h6 y hy))
   · exact h.sub T hT x hx
 · intro x
   rw [mem_putI,List.map_append,List.mem_append,h.thens]
   simp only [List.map_cons,List.map_nil,List.mem_singleton,Int.toNat_natCast]
   exact ⟨fun h=>h.symm,fun h=>h.symm⟩
 · intro k hk
   rcases List.mem_append.1 hk with hk|hk
   · exact h.at' k hk
   · obtain rfl:k=(i:Int):=by simpa using hk
     rw [Int.toNat_natCast]
     omega
 · intro j hj y hy
   simp only [List.length_append,List.length_cons,List.length_nil] at hj
   by_cases e:j < ap.length
   · have e1:(ap++[(i:Int)]).getD j 0=ap.getD j 0:=by rw [List.getD_eq_getElem?_getD,List.getD_eq_getElem?_getD,List.getElem?_append_left e]
     rw [e1] at hy
     have:=h.why j e y hy
     rw [List.take_append_of_le_length (by omega)]
     exact this
   · obtain rfl:j=ap.length:=by omega
     have e1:(ap++[(i:Int)]).getD ap.length 0=(i:Int):=by rw [List.getD_eq_getElem?_getD,List.getElem?_append_right (by omega)];simp
     rw [e1,Int.toNat_natCast] at hy
     rw [List.take_append_of_le_length (by omega),List.take_length]
     exact (h.thens y).1 (hasI_iff.1 (h6 y hy))
theorem leastI_in {n:Nat} {l:List RuleD} (hr:∀ r∈l,goodRule n r=true):∀ (f:Nat) (so ap:List Int),LeastIn n l so ap→LeastIn n l (leastI l f so ap).1 (leastI l f so ap).2
 | 0,so,ap,h=>h
 | f+1,so,ap,h=>by
  simp only [leastI]
  cases hh:l.findIdx? (readyR so) with
  | none=>exact h
  | some i=>exact leastI_in hr f _ _ (h.next hr hh)
theorem leastI_none {n:Nat} {l:List RuleD} (hr:∀ r∈l,r.thn≤n):∀ (f:Nat) (so ap:List Int),lackN n so≤f→l.findIdx? (readyR (leastI l f so ap).1)=none
 | 0,so,ap,hf=>by
  simp only [leastI]
  cases hh:l.findIdx? (readyR so) with
  | none=>rfl
  | some i=>have:=ready_lack hr hh;omega
 | f+1,so,ap,hf=>by
  simp only [leastI]
  cases hh:l.findIdx? (readyR so) with
  | none=>exact hh
  | some i=>have:=ready_lack hr hh;exact leastI_none hr f _ _ (by omega)
section
variable {n:Nat} {l:List RuleD}
theorem leastP_in (hr:∀ r∈l,goodRule n r=true):LeastIn n l (leastP l).1 (leastP l).2:=leastI_in hr 14 [] [] .start
theorem leastP_none (hn:n≤12) (hr:∀ r∈l,goodRule n r=true):∀ r∈l,readyR (leastP l).1 r=false:=by
 have h:=leastI_none (n:=n) (l:=l) (fun r h=>(good_thn (hr r h)).2) 14 [] [] (by have:=lack_le (n:=n) (so:=[]);omega)
 rw [List.findIdx?_eq_none_iff] at h
 intro r hm
 have:=h r hm
 cases hc:readyR (leastP l).1 r with
 | false=>rfl
 | true=>unfold leastP at hc;rw [hc] at this;cases this
theorem leastP_ris (hn:n≤12) (hr:∀ r∈l,goodRule n r=true):rising 1 n (leastP l).1=true:=by
 refine ris_of ?_ (leastP_in hr).pos
 rw [(leastP_ok hn (fun r h=>(good_thn (hr r h)).2)).sort]
 exact listI_pw
theorem not_zero {so:List Int} (h:∀ x∈so,1≤x∧x≤(n:Int)):hasI so 0=false:=hasI_false.2 fun h0=>by have:=h 0 h0;omega
theorem leastP_ok2 (hn:n≤12) (hr:∀ r∈l,goodRule n r=true):l.all (okR (leastP l).1)=fineR l (leastP l).1:=by
 have hi:=leastP_in hr
 have h0:=not_zero hi.pos
 have hno:=leastP_none hn hr
 have key:∀ r∈l,okR (leastP l).1 r = !(r.thn == 0&&r.ifs.all (hasI (leastP l).1)):=by
  intro r hm
  have hg:=good_thn (hr r hm)
  by_cases ht:r.thn=0
  · unfold okR
    rw [ht,h0]
    simp
  · have h1:(r.thn == 0)=false:=by simp [ht]
    have h2:decide (r.thn > 0)=true:=by simp;omega
    have:=hno r hm
    unfold readyR at this
    rw [h2] at this
    unfold okR
    rw [h1]
    generalize r.ifs.all (hasI (leastP l).1)=A at *
    generalize hasI (leastP l).1 r.thn=B at *
    cases A<;>cases B<;>simp_all
 unfold fineR
 rw [Bool.eq_iff_iff,List.all_eq_true,List.all_eq_true]
 exact ⟨fun h r hm=>by rw [← key r hm];exact h r hm,fun h r hm=>by rw [key r hm];exact h r hm⟩
theorem okR_iff {so:List Int} {r:RuleD}:okR so r=true↔(r.ifs.all (hasI so)=true→hasI so r.thn=true):=by
 unfold okR
 cases r.ifs.all (hasI so)<;>cases hasI so r.thn<;>simp
theorem model_least (hn:n≤12) (hr:∀ r∈l,goodRule n r=true) {T:List Int} (hT:∀ x∈T,1≤x∧x≤(n:Int)) (h:l.all (okR T)=true):(∀ x∈(leastP l).1,hasI T x=true)∧fineR l (leastP l).1=true:=by
 rw [List.all_eq_true] at h
 have h1:∀ x∈(leastP l).1,hasI T x=true:=(leastP_in hr).sub T fun r hm _ ha=>okR_iff.1 (h r hm) ha
 refine ⟨h1,?_⟩
 unfold fineR
 rw [List.all_eq_true]
 intro r hm
 cases ht:(r.thn == 0) with
 | false=>rfl
 | true =>
  have h2:=okR_iff.1 (h r hm)
  rw [eq_of_beq ht,not_zero hT] at h2
  cases hc:r.ifs.all (hasI (leastP l).1) with
  | false=>rfl
  | true =>
   have:r.ifs.all (hasI T)=true:=by
    rw [List.all_eq_true] at hc ⊢
    exact fun y hy=>h1 y (hasI_iff.1 (hc y hy))
   exact absurd (h2 this) (by simp)
end
def litIn (m:List Bool) (x:Int):Bool:=m.getD (varI x - 1).toNat false == decide (x > 0)
def holdsC (m:List Bool) (c:List Int):Bool:=c.any (litIn m)
def soOf (m:List Bool) (k:Nat):List Int:=((List.range k).filter fun i=>m.getD i false).map fun (i:Nat)=>(i:Int)+1
theorem soOf_mem {m:List Bool} {k:Nat} {x:Int}:x∈soOf m k↔1≤x∧x≤k∧m.getD (x - 1).toNat false=true:=by
 simp only [soOf,List.mem_map,List.mem_filter,List.mem_range]
 constructor
 · rintro ⟨i,⟨h1,h2⟩,rfl⟩
   exact ⟨by omega,by omega,by rw [show ((i:Int)+1 - 1).toNat=i by omega];exact h2⟩
 · rintro ⟨h1,h2,h3⟩
   exact ⟨(x - 1).toNat,⟨by omega,h3⟩,by omega⟩
theorem soOf_succ {m:List Bool} {k:Nat}:soOf m (k+1)=soOf m k++(if m.getD k false then [(k:Int)+1] else []):=by
 simp only [soOf,List.range_succ,List.filter_append,List.map_append,List.filter_cons,List.filter_nil]
 cases m.getD k false<;>rfl
theorem soOf_len {m:List Bool} {k:Nat}:(soOf m k).length≤k:=by
 simp only [soOf,List.length_map]
 exact Nat.le_trans (List.length_filter_le _ _) (by simp)
theorem soOf_ris {m:List Bool} {k:Nat} {n:Int} (h:(k:Int)≤n):rising 1 n (soOf m k)=true:=by
 refine ris_of ?_ fun x hx=>by have:=soOf_mem.1 hx;omega
 unfold soOf
 rw [List.pairwise_map]
 refine (List.Pairwise.filter _ (List.pairwise_lt_range (n:=k))).imp ?_
 intro a b h
 omega
theorem varI_pos {x:Int} (h:0≤x∧x≤4294967296):varI x=x:=by
 unfold varI
 rw [wrap_in (by omega) (by omega),if_neg (by omega)]
theorem varI_neg {x:Int} (h:0 < x∧x≤4294967296):varI (-x)=x:=by
 unfold varI
 rw [wrap_in (by omega) (by omega),if_pos (by omega)];omega
theorem rule_clause {n:Nat} (hn:n≤12) {m:List Bool} {r:RuleD} (hr:goodRule n r=true):okR (soOf m n) r=(!rcK r||holdsC m (rcC r)):=by
 have ht:=good_thn hr
 have hg:=hr
 simp only [goodRule,Bool.and_eq_true] at hg
 have hm:=ris_mem hg.1
 have hh:∀ x:Int,1≤x→x≤n→hasI (soOf m n) x=m.getD (x - 1).toNat false:=by
  intro x h1 h2
  rw [Bool.eq_iff_iff,hasI_iff,soOf_mem]
  exact ⟨fun h=>h.2.2,fun h=>⟨h1,h2,h⟩⟩
 have lp:∀ x:Int,1≤x→x≤n→litIn m x=m.getD (x - 1).toNat false:=by
  intro x h1 h2
  unfold litIn
  rw [varI_pos (by omega),show decide (x > 0)=true by simp;omega]
  cases m.getD (x - 1).toNat false<;>rfl
 have ln:∀ x:Int,1≤x→x≤n→litIn m (-x) = !m.getD (x - 1).toNat false:=by
  intro x h1 h2
  unfold litIn
  rw [varI_neg (by omega),show decide (-x > 0)=false by simp;omega]
  cases m.getD (x - 1).toNat false<;>rfl
 rw [Bool.eq_iff_iff,okR_iff,Bool.or_eq_true,Bool.not_eq_true']
 unfold holdsC rcC
 rw [List.any_eq_true]
 constructor
 · intro h
   cases hk:rcK r with
   | false=>exact .inl rfl
   | true =>
    right
    cases hc:r.ifs.all (hasI (soOf m n)) with
    | true =>
     have h1:=h hc
     have h2:=soOf_mem.1 (hasI_iff.1 h1)
     refine ⟨r.thn,?_,?_⟩
     · rw [if_pos (by omega)];simp
     · rw [lp _ (by omega) (by omega)];exact h2.2.2
    | false =>
     rw [List.all_eq_false] at hc
     obtain ⟨x,hx,hn'⟩:=hc
     have:=hm x hx
     refine ⟨-x,List.mem_append_left _ (List.mem_map.2 ⟨x,hx,rfl⟩),?_⟩
     rw [ln x (by omega) (by omega),← hh x (by omega) (by omega)]
     simpa using hn'
 · rintro (h|⟨y,hy,hl⟩) ha
   · have:hasI r.ifs r.thn=true:=by unfold rcK at h;simpa using h
     exact List.all_eq_true.1 ha _ (hasI_iff.1 this)
   · rcases List.mem_append.1 hy with hy|hy
     · obtain ⟨x,hx,rfl⟩:=List.mem_map.1 hy
       have:=hm x hx
       have h1:=List.all_eq_true.1 ha x hx
       rw [ln x (by omega) (by omega),← hh x (by omega) (by omega),h1] at hl
       cases hl
     · split at hy
       · obtain rfl:y=r.thn:=by simpa using hy
         rw [hh _ (by omega) (by omega),← lp _ (by omega) (by omega)];exact hl
       · cases hy
def clausesR (l:List RuleD):List (List Int):=(l.filter rcK).map rcC
theorem rules_clauses {n:Nat} (hn:n≤12) {m:List Bool} {l:List RuleD} (hr:∀ r∈l,goodRule n r=true):l.all (okR (soOf m n))=(clausesR l).all (holdsC m):=by
 unfold clausesR
 rw [List.all_map,List.all_filter,Bool.eq_iff_iff,List.all_eq_true,List.all_eq_true]
 exact ⟨fun h r hm=>by have:=h r hm;rw [rule_clause hn (hr r hm)] at this;exact this,fun h r hm=>by rw [rule_clause hn (hr r hm)];exact h r hm⟩
theorem clausesR_good {n:Int} {l:List RuleD} (h:goodRules n l=true):goodC n (clausesR l)=true:=by
 obtain ⟨hn,hl,hr⟩:=good_rules h
 unfold goodC clausesR
 have h1:inB n 0 12=true:=by simp only [inB,Bool.and_eq_true,decide_eq_true_eq];omega
 have h2:decide (((l.filter rcK).map rcC).length≤60)=true:=by
  rw [decide_eq_true_eq,List.length_map]
  have:=List.length_filter_le rcK l
  omega
 have h3:((l.filter rcK).map rcC).all (clauseB n)=true:=by
  rw [List.all_eq_true]
  intro c hc
  obtain ⟨r,hr',rfl⟩:=List.mem_map.1 hc
  obtain ⟨hm,hk⟩:=List.mem_filter.1 hr'
  rw [rc_clause hn (hr r hm)];exact hk
 rw [h1,h2,h3];rfl
theorem clausesR_horn {n:Int} {l:List RuleD} (h:goodRules n l=true):(clausesR l).all hornC=true:=by
 obtain ⟨hn,hl,hr⟩:=good_rules h
 rw [List.all_eq_true]
 intro c hc
 obtain ⟨r,hr',rfl⟩:=List.mem_map.1 hc
 obtain ⟨hm,hk⟩:=List.mem_filter.1 hr'
 have hg:=hr r hm
 simp only [goodRule,Bool.and_eq_true] at hg
 have hi:=ris_mem hg.1
 unfold hornC posC rcC
 rw [decide_eq_true_eq,List.filter_append,List.length_append]
 have e:(r.ifs.map fun x=>-x).filter (fun n=>decide (n > 0))=[]:=by
  rw [List.filter_eq_nil_iff]
  intro y hy
  obtain ⟨x,hx,rfl⟩:=List.mem_map.1 hy
  have:=hi x hx
  simp;omega
 rw [e]
 have:=List.length_filter_le (fun n:Int=>decide (n > 0)) (if r.thn > 0 then [r.thn] else [])
 have:(if r.thn > 0 then [r.thn] else []).length≤1:=by split<;>simp
 simp only [List.length_nil]
 omega
set_option maxHeartbeats 16000000
abbrev Ub (n:Int):D:=.int .u8 n
theorem getD_sm {α:Type} {l:List α} {i:Nat} {d:α} (h:i < l.length):l[i]? = some (l.getD i d):=by
 rw [List.getD_eq_getElem?_getD,List.getElem?_eq_getElem h];rfl
structure CurD where
 code:List Int
 pos:Int
 seed:Int
abbrev CurD.d (c:CurD):D:=.agg [.rs 1 (c.code.map Ub),Ii c.pos,.int .u64 c.seed]
structure CurOk (c:CurD) (n:Nat):Prop where
 p0:0≤c.pos
 p1:c.pos+n≤4611686018427387904
 len:c.code.length≤9223372036854775807
 by8:∀ b∈c.code,0≤b∧b≤255
def seedV (c:CurD) (b:Int):Int:=IntKind.u64.wrap (IntKind.u64.wrap (IntKind.u64.wrap (c.seed * 6364136223846793005)+IntKind.u64.wrap b)+1442695040888963407)
def byteV (c:CurD):Int:=if c.pos < c.code.length then c.code.getD c.pos.toNat 0 else 0
def foldV (s:Int):Int:=IntKind.i64.wrap (IntKind.u64.wrap (BitVec.ofInt IntKind.u64.bits (Int.fdiv s (2 ^ min (40:Int).toNat IntKind.u64.bits)) &&& BitVec.ofInt IntKind.u64.bits 255).toNat)
def nextV (c:CurD):Int:=if c.pos+1≤c.code.length then byteV c else foldV (seedV c (byteV c))
def nextC (c:CurD):CurD:=⟨c.code,c.pos+1,seedV c (byteV c)⟩
theorem nextC_ok {c:CurD} {n:Nat} (h:CurOk c (n+1)):CurOk (nextC c) n:=by
 obtain ⟨h1,h2,h3,h4⟩:=h
 refine ⟨?_,?_,h3,h4⟩
 · show 0≤c.pos+1;omega
 · show c.pos+1+n≤_;omega
theorem byteV_in {c:CurD} {n:Nat} (h:CurOk c n):0≤byteV c∧byteV c≤255:=by
 unfold byteV
 split
 · rename_i hl
   have h0:=h.p0
   have hl':c.pos.toNat < c.code.length:=by omega
   rw [List.getD_eq_getElem?_getD,List.getElem?_eq_getElem hl']
   exact h.by8 _ (List.getElem_mem hl')
 · omega
theorem foldV_in (s:Int):0≤foldV s∧foldV s≤255:=by
 unfold foldV
 have hn:(BitVec.ofInt IntKind.u64.bits (Int.fdiv s (2 ^ min (40:Int).toNat IntKind.u64.bits)) &&& BitVec.ofInt IntKind.u64.bits 255).toNat≤255:=by
  rw [BitVec.toNat_and]
  have:(BitVec.ofInt IntKind.u64.bits 255).toNat=255:=by decide
  rw [this]
  exact Nat.and_le_right
 generalize (BitVec.ofInt IntKind.u64.bits (Int.fdiv s (2 ^ min (40:Int).toNat IntKind.u64.bits)) &&& BitVec.ofInt IntKind.u64.bits 255).toNat=m at hn
 have e:IntKind.u64.wrap (m:Int)=m:=by simp [IntKind.wrap,IntKind.signed,IntKind.bits];omega
 rw [e,wrap_in (by omega) (by omega)]
 omega
theorem nextV_in {c:CurD} {n:Nat} (h:CurOk c n):0≤nextV c∧nextV c≤255:=by
 unfold nextV
 split
 · exact byteV_in h
 · exact foldV_in _
theorem CurOk.mono {c:CurD} {n m:Nat} (h:CurOk c n) (hm:m≤n):CurOk c m:=⟨h.p0,by have:=h.p1;omega,h.len,h.by8⟩
theorem spec_pl1Cur_next.fc (c:CurD) {n:Nat} (h:CurOk c (n+1)):FCt prog F_spec_pl1Cur_next [.io] [.ptr c.d] (Ii (nextV c)) [.ptr (nextC c).d]:=by
 refine fct_run spec_pl1Cur_next.ok rfl ?_
 have hb:=byteV_in h
 obtain ⟨h1,h2,h3,h4⟩:=h
 obtain ⟨code,pos,seed⟩:=c
 dsimp only at h1 h2 h3
 have w1:IntKind.i64.wrap (pos+1)=pos+1:=wrap_in (by omega) (by omega)
 unfold nextV nextC foldV
 by_cases hp:pos < code.length
 · have hl:pos.toNat < code.length:=by omega
   have g:code[pos.toNat]? = some (code.getD pos.toNat 0):=getD_sm hl
   have e:byteV ⟨code,pos,seed⟩=code.getD pos.toNat 0:=by unfold byteV;rw [if_pos hp]
   have hq:pos+1≤code.length:=by omega
   rw [e] at hb ⊢
   have w2:IntKind.i64.wrap (code.getD pos.toNat 0)=code.getD pos.toNat 0:=wrap_in (by omega) (by omega)
   rw [if_pos hq]
   unfold seedV
   simp only [go_sem,hp,h1,g,w1,w2,hq];try rfl
 · have e:byteV ⟨code,pos,seed⟩=0:=by unfold byteV;rw [if_neg hp]
   have hq:¬ pos+1≤code.length:=by omega
   rw [e,if_neg hq]
   unfold seedV
   simp only [go_sem,hp,w1,hq];try rfl
def pickV (c:CurD) (n:Int):Int:=if n≤1 then 0 else if n > 200 then (nextV c * 256+nextV (nextC c)) % n else nextV c % n
def pickC (c:CurD) (n:Int):CurD:=if n≤1 then c else if n > 200 then nextC (nextC c) else nextC c
theorem pickV_in {c:CurD} {n:Int} (h:1≤n):0≤pickV c n∧pickV c n < n:=by
 unfold pickV
 split
 · omega
 · split
   · exact ⟨Int.emod_nonneg _ (by omega),Int.emod_lt_of_pos _ (by omega)⟩
   · exact ⟨Int.emod_nonneg _ (by omega),Int.emod_lt_of_pos _ (by omega)⟩
theorem pickC_ok {c:CurD} {n:Int} {m:Nat} (h:CurOk c (m+2)):CurOk (pickC c n) m:=by
 unfold pickC
 split
 · exact h.mono (by omega)
 · split
   · exact nextC_ok (nextC_ok h)
   · exact (nextC_ok h).mono (by omega)
theorem spec_pl1Cur_pick.fc (c:CurD) (n:Int) {m:Nat} (h:CurOk c (m+2)):FCt prog F_spec_pl1Cur_pick [.io,.ro] [.ptr c.d,Ii n] (Ii (pickV c n)) [.ptr (pickC c n).d]:=by
 refine fct_run spec_pl1Cur_pick.ok rfl ?_
 have c1:=spec_pl1Cur_next.fc c h
 have h2:=nextC_ok h
 have c2:=spec_pl1Cur_next.fc (nextC c) h2
 have b1:=nextV_in h
 have b2:=nextV_in h2
 unfold pickV pickC
 generalize nextV c=x at c1 b1 ⊢
 generalize nextV (nextC c)=y at c2 b2 ⊢
 generalize nextC (nextC c)=z at c2 ⊢
 generalize nextC c=u at c1 c2 ⊢
 by_cases h1:n≤1
 · simp only [go_sem,h1]
 · by_cases h3:n > 200
   · have w1:IntKind.i64.wrap (x * 256)=x * 256:=wrap_in (by omega) (by omega)
     have w2:IntKind.i64.wrap (x * 256+y)=x * 256+y:=wrap_in (by omega) (by omega)
     have w3:Int.tmod (x * 256+y) n=(x * 256+y) % n:=Int.tmod_eq_emod_of_nonneg (by omega)
     have n0:¬ n=0:=by omega
     simp only [go_sem,h1,h3]
     refine coW_c c1 ?_
     simp only [go_sem,h1,h3,w1]
     refine coW_c c2 ?_
     simp only [go_sem,w1,w2,w3,n0,h1,h3]
   · have w3:Int.tmod x n=x % n:=Int.tmod_eq_emod_of_nonneg (by omega)
     have n0:¬ n=0:=by omega
     simp only [go_sem,h1,h3]
     refine coW_c c1 ?_
     simp only [go_sem,h1,h3,w3,n0]
theorem spec_pl1Cur_one.fc (c:CurD) (n:Int) {m:Nat} (h:CurOk c (m+2)):FCt prog F_spec_pl1Cur_one [.io,.ro] [.ptr c.d,Ii n] (Bb (pickV c n == 0)) [.ptr (pickC c n).d]:=by
 refine fct_run spec_pl1Cur_one.ok rfl ?_
 have c1:=spec_pl1Cur_pick.fc c n h
 generalize pickV c n=x at c1 ⊢
 generalize pickC c n=u at c1 ⊢
 simp only [go_sem]
 refine coW_c c1 ?_
 simp only [go_sem]
def amongV (c:CurD) (l:List Int):Int:=l.getD (pickV c l.length).toNat 0
theorem spec_pl1Cur_among.fc (c:CurD) (l:List Int) (hl:1≤l.length) (hl2:l.length≤1000) {m:Nat} (h:CurOk c (m+2)):FCt prog F_spec_pl1Cur_among [.io,.co] [.ptr c.d,ints l] (Ii (amongV c l)) [.ptr (pickC c l.length).d]:=by
 refine fct_run spec_pl1Cur_among.ok rfl ?_
 have c1:=spec_pl1Cur_pick.fc c l.length h
 have hp:=pickV_in (c:=c) (n:=l.length) (by omega)
 unfold amongV
 generalize pickV c l.length=x at c1 hp ⊢
 generalize pickC c l.length=u at c1 ⊢
 have g:l[x.toNat]? = some (l.getD x.toNat 0):=getD_sm (by omega)
 simp only [go_sem]
 refine coW_c c1 ?_
 simp only [go_sem,hp.1,hp.2,g]
theorem amongV_mem (c:CurD) (l:List Int) (hl:1≤l.length):amongV c l∈l:=by
 have hp:=pickV_in (c:=c) (n:=l.length) (by omega)
 unfold amongV
 rw [List.getD_eq_getElem?_getD,List.getElem?_eq_getElem (by omega)]
 exact List.getElem_mem (by omega)
def curS (code:List Int):CurD:=⟨code,0,0⟩
theorem curS_ok {code:List Int} (hl:code.length≤9223372036854775807) (h8:∀ b∈code,0≤b∧b≤255) {n:Nat} (hn:n≤1000000):CurOk (curS code) n :=
 ⟨Int.le_refl 0,by show (0:Int)+n≤_;omega,hl,h8⟩
end Go.Vm.Ytdebllkmblakkaa
