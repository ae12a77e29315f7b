/- What the functions that the law reaches return: part 1 (the conditions stand at each). -/
import Derived.Test.YtmicgdfekpoajaaIr
/- Words for data: whole numbers, rows of them. -/
namespace Go.Vm
open Go
set_option linter.unusedSimpArgs false
set_option linter.unusedVariables false

abbrev Ii (n : Int) : D := .int .i64 n
abbrev Bb (b : Bool) : D := .bool b
abbrev ints (l : List Int) : D := .sl 1 (l.map Ii)
abbrev aI (n : Int) : AV := .dat none (.int .i64 n)
/-- a whole number of 64 bits -/
def i64 (n : Int) : Prop := -9223372036854775808 ≤ n ∧ n ≤ 9223372036854775807
theorem wrap_k {k m : Nat} (h : k < m) (hm : m ≤ 9223372036854775807) : IntKind.i64.wrap ((k : Int) + 1) = ((k + 1 : Nat) : Int) := by
  rw [wrap_in (by omega) (by omega)]; rfl
theorem hasInt {d : D} (h : HasTy (.int .i64) d) : ∃ n, d = Ii n ∧ i64 n := by
  simp only [HasTy] at h
  obtain ⟨n, rfl, h⟩ := h
  refine ⟨n, rfl, ?_⟩
  simp [Lit.wf, IntKind.has, IntKind.min, IntKind.max, IntKind.signed, IntKind.bits] at h
  exact ⟨by omega, by omega⟩
theorem take_succ' {α : Type} {l : List α} {k : Nat} (h : k < l.length) : l.take (k + 1) = l.take k ++ [l[k]] := by
  rw [List.take_succ_eq_append_getElem h]
theorem all_take {α : Type} {p : α → Bool} {l : List α} {k : Nat} (h : k < l.length) (h1 : (l.take k).all p = true) (h2 : p l[k] = true) : (l.take (k + 1)).all p = true := by
  rw [take_succ' h, List.all_append, h1]; simpa using h2
theorem not_all {α : Type} {p : α → Bool} {l : List α} {k : Nat} (h : k < l.length) (h2 : p l[k] = false) : l.all p = false := by
  rw [← Bool.not_eq_true, List.all_eq_true]
  intro hh
  have := hh _ (List.getElem_mem h)
  rw [h2] at this; cases this
/-- a row that is filled from the left -/
def fill {α : Type} (f : α → D) (z : D) (l : List α) (k : Nat) : List D := (l.take k).map f ++ List.replicate (l.length - k) z
section
variable {α : Type} {f : α → D} {z : D} {l : List α} {k : Nat}
theorem fill_zero : List.replicate l.length z = fill f z l 0 := by simp [fill]
theorem fill_len (h : k ≤ l.length) : (fill f z l k).length = l.length := by simp [fill]; omega
theorem fill_get (h : k < l.length) : (fill f z l k)[k]? = some z := by
  simp only [fill]
  have e0 : ((l.take k).map f).length = k := by rw [List.length_map, List.length_take]; omega
  rw [List.getElem?_append_right (by omega), e0, Nat.sub_self, List.getElem?_replicate, if_pos (by omega)]
theorem fill_set (h : k < l.length) : (fill f z l k).set k (f l[k]) = fill f z l (k + 1) := by
  simp only [fill]
  have e0 : ((l.take k).map f).length = k := by rw [List.length_map, List.length_take]; omega
  have e2 : l.length - k = (l.length - (k + 1)) + 1 := by omega
  rw [List.set_append_right _ _ (by omega), take_succ' h, e0, Nat.sub_self, e2, List.replicate_succ, List.set_cons_zero, List.map_append, List.append_assoc]
  rfl
theorem fill_all : fill f z l l.length = l.map f := by simp [fill]
theorem take_map_len : (l.map f).take l.length = l.map f := by rw [List.take_of_length_le (by simp)]
end
section
variable {α : Type} {A B : List α} {k : Nat}
end
/-- a row that grows: nil at first, then under one name -/
def RowAt (x : AV) (M : Mem) (nm sz : Nat) (ds : List D) : Prop := (ds = [] ∧ x = .nil sz) ∨ ∃ v, x = .sl nm v 0 ds.length sz ∧ M.m nm = some (.arr v true sz ds)
theorem RowAt.nil {M : Mem} {nm sz : Nat} : RowAt (.nil sz) M nm sz [] := .inl ⟨rfl, rfl⟩
theorem RowAt.sl {x : AV} {M : Mem} {nm sz v n : Nat} {ds : List D} (hx : x = .sl nm v 0 n sz) (hn : n = ds.length) (hm : M.m nm = some (.arr v true sz ds)) : RowAt x M nm sz ds := .inr ⟨v, by rw [hx, hn], hm⟩
section
variable {α : Type} {f : Int → α → α} {c : α → Nat}
end
theorem noRsL_all : ∀ {ds : List D}, (∀ d ∈ ds, noRs d = true) → noRsL ds = true
  | [], _ => rfl
  | d :: ds, h => by simp only [noRsL, Bool.and_eq_true]; exact ⟨h d List.mem_cons_self, noRsL_all fun x hx => h x (List.mem_cons_of_mem _ hx)⟩
theorem noRs_sl {sz : Nat} {ds : List D} (h : ∀ d ∈ ds, noRs d = true) : noRs (.sl sz ds) = true := by simp only [noRs]; exact noRsL_all h
/-! ### function values -/
section
variable {P : Program} {s : Nat → AV} {M : Mem} {nb ib : Nat}
theorem frzR_caps : ∀ (caps : List D), frzR s M ((caps.map bindC).map X.k) = some caps
  | [] => rfl
  | c :: caps => by simp only [List.map_cons, frzR, ev_k, frz_bindC, frzR_caps caps]
theorem frzR_app : ∀ (xs ys : List X), frzR s M (xs ++ ys) = match frzR s M xs, frzR s M ys with | some a, some b => some (a ++ b) | _, _ => none
  | [], ys => by simp only [List.nil_append, frzR]; cases frzR s M ys <;> rfl
  | x :: xs, ys => by
    simp only [List.cons_append, frzR, frzR_app xs ys]
    cases frz M 8 (x.ev s) <;> cases frzR s M xs <;> cases frzR s M ys <;> rfl
/-- a function value is called -/
theorem ccl_ro {f : FuncId} {caps : List D} {args : List X} {ds : List D} {K : AV → Mem → (Nat → Bool) → Prop} (ha : frzR s M args = some ds)
    (h : @fcW P f (args.map (fun _ => Md.ro) ++ caps.map fun _ => Md.ro) (ds ++ caps) false ((args ++ (caps.map bindC).map X.k).all fun x => coldA (x.ev s)) nb ib M ⟨K⟩) : @cW P (.clo f (caps.map bindC)) s M nb ib false args ⟨K⟩ := by
  rw [cW_clo, CR_ro, frzR_app, ha, frzR_caps]
  have e : ((args ++ (caps.map bindC).map X.k).map fun _ => Md.ro) = (args.map (fun _ => Md.ro) ++ caps.map fun _ => Md.ro) := by simp [List.map_map, Function.comp_def]
  rw [e]
  exact h
end
/-- the first place at which 'p' holds; -1: nowhere -/
def idxB {α : Type} (p : α → Bool) (l : List α) : Int := match l.findIdx? p with
  | some i => i
  | none => -1
theorem idxB_none {α : Type} {p : α → Bool} {l : List α} (h : l.all (fun x => !p x) = true) : idxB p l = -1 := by
  unfold idxB
  rw [List.findIdx?_eq_none_iff.2 (fun x hx => by simpa using List.all_eq_true.1 h x hx)]
theorem idxB_some {α : Type} {p : α → Bool} {l : List α} {k : Nat} (hk : k < l.length) (h : (l.take k).all (fun x => !p x) = true) (hp : p l[k] = true) : idxB p l = k := by
  unfold idxB
  rw [List.findIdx?_eq_some_iff_getElem.2 ⟨hk, hp, fun j hj => by
    have := List.all_eq_true.1 h l[j] (by rw [List.mem_take_iff_getElem]; exact ⟨j, by omega, rfl⟩)
    simpa using this⟩]
theorem idxB_any {α : Type} {p : α → Bool} {l : List α} : decide (0 ≤ idxB p l) = l.any p := by
  unfold idxB
  cases h : l.findIdx? p with
  | none =>
    rw [List.findIdx?_eq_none_iff] at h
    rw [List.any_eq_false.2 (fun x hx => by simp [h x hx])]; rfl
  | some i =>
    rw [List.findIdx?_eq_some_iff_getElem] at h
    obtain ⟨hi, hp, _⟩ := h
    rw [List.any_eq_true.2 ⟨l[i], List.getElem_mem hi, hp⟩]
    simp
end Go.Vm
/- Walks: small functions. -/
namespace Go.Vm.Ytmicgdfekpoajaa
open Go Go.Vm
set_option maxRecDepth 10000
set_option linter.unusedSimpArgs false
set_option linter.unusedVariables false

def inB (n lo hi : Int) : Bool := decide (lo ≤ n) && decide (n ≤ hi)
theorem impl_in.fc (n lo hi : Int) : FCt prog F_impl_in [.ro, .ro, .ro] [Ii n, Ii lo, Ii hi] (Bb (inB n lo hi)) [] := by
  refine fct_run impl_in.ok rfl ?_
  unfold inB
  by_cases h : lo ≤ n
  · simp only [go_sem, ↓reduceIte, Nat.reduceEqDiff, Nat.reduceAdd, Nat.reduceMul, Nat.reduceBEq, Option.getD_none, Int.reduceToNat, Nat.reduceSub, Nat.reduceLT, Nat.reduceLeDiff, Int.reduceLE, Int.reduceLT, reduceCtorEq, ge_iff_le, h]
  · simp only [go_sem, ↓reduceIte, Nat.reduceEqDiff, Nat.reduceAdd, Nat.reduceMul, Nat.reduceBEq, Option.getD_none, Int.reduceToNat, Nat.reduceSub, Nat.reduceLT, Nat.reduceLeDiff, Int.reduceLE, Int.reduceLT, reduceCtorEq, ge_iff_le, h]
theorem spec_l1In.fc (n lo hi : Int) : FCt prog F_spec_l1In [.ro, .ro, .ro] [Ii n, Ii lo, Ii hi] (Bb (inB n lo hi)) [] := by
  refine fct_run spec_l1In.ok rfl ?_
  unfold inB
  by_cases h : lo ≤ n
  · simp only [go_sem, ↓reduceIte, Nat.reduceEqDiff, Nat.reduceAdd, Nat.reduceMul, Nat.reduceBEq, Option.getD_none, Int.reduceToNat, Nat.reduceSub, Nat.reduceLT, Nat.reduceLeDiff, Int.reduceLE, Int.reduceLT, reduceCtorEq, ge_iff_le, h]
  · simp only [go_sem, ↓reduceIte, Nat.reduceEqDiff, Nat.reduceAdd, Nat.reduceMul, Nat.reduceBEq, Option.getD_none, Int.reduceToNat, Nat.reduceSub, Nat.reduceLT, Nat.reduceLeDiff, Int.reduceLE, Int.reduceLT, reduceCtorEq, ge_iff_le, h]

end Go.Vm.Ytmicgdfekpoajaa
/- Walks: rules are copied and weighed. -/
namespace Go.Vm.Ytmicgdfekpoajaa
open Go Go.Vm
set_option maxRecDepth 10000
set_option linter.unusedSimpArgs false
set_option linter.unusedVariables false

/-- a rule -/
structure RuleD where
  ifs : List Int
  thn : Int
  deriving DecidableEq
abbrev RuleD.d (r : RuleD) : D := .agg [ints r.ifs, Ii r.thn]
abbrev rules (l : List RuleD) : D := .sl 2 (l.map RuleD.d)
end Go.Vm.Ytmicgdfekpoajaa
/- Walks: rules are looked at. -/
namespace Go.Vm.Ytmicgdfekpoajaa
open Go Go.Vm
set_option maxRecDepth 10000
set_option linter.unusedSimpArgs false
set_option linter.unusedVariables false

end Go.Vm.Ytmicgdfekpoajaa
/- Walks: rules are looked at, by the program and by the reference. -/
namespace Go.Vm.Ytmicgdfekpoajaa
open Go Go.Vm
set_option maxRecDepth 10000
set_option linter.unusedSimpArgs false
set_option linter.unusedVariables false

end Go.Vm.Ytmicgdfekpoajaa
/- Walks: valid rules; rules are compared. -/
namespace Go.Vm.Ytmicgdfekpoajaa
open Go Go.Vm
set_option maxRecDepth 10000
set_option linter.unusedSimpArgs false
set_option linter.unusedVariables false

end Go.Vm.Ytmicgdfekpoajaa
/- Walks: results are marked and read again. -/
namespace Go.Vm.Ytmicgdfekpoajaa
open Go Go.Vm
set_option maxRecDepth 10000
set_option linter.unusedSimpArgs false
set_option linter.unusedVariables false

end Go.Vm.Ytmicgdfekpoajaa
/- Walks: intervals and known bits, reduced by each other. -/
namespace Go.Vm.Ytmicgdfekpoajaa
open Go Go.Vm
set_option maxRecDepth 10000
set_option linter.unusedSimpArgs false
set_option linter.unusedVariables false

abbrev pr (a b : Int) : D := .agg [Ii a, Ii b]
theorem spec_l1Word.fc (n : Int) : FCt prog F_spec_l1Word [.ro] [Ii n] (Bb (inB n 0 65535)) [] := by
  refine fct_run spec_l1Word.ok rfl ?_
  simp only [go_sem, ↓reduceIte, Nat.reduceEqDiff, Nat.reduceAdd, Nat.reduceMul, Nat.reduceBEq, Option.getD_none, Int.reduceToNat, Nat.reduceSub, Nat.reduceLT, Nat.reduceLeDiff, Int.reduceLE, Int.reduceLT, reduceCtorEq]
  refine fcW_bool (spec_l1In.fc ..) ?_
  simp only [go_sem, ↓reduceIte, Nat.reduceEqDiff, Nat.reduceAdd, Nat.reduceMul, Nat.reduceBEq, Option.getD_none, Int.reduceToNat, Nat.reduceSub, Nat.reduceLT, Nat.reduceLeDiff, Int.reduceLE, Int.reduceLT, reduceCtorEq]
theorem impl_isWord.fc (n : Int) : FCt prog F_impl_isWord [.ro] [Ii n] (Bb (inB n 0 65535)) [] := by
  refine fct_run impl_isWord.ok rfl ?_
  simp only [go_sem, ↓reduceIte, Nat.reduceEqDiff, Nat.reduceAdd, Nat.reduceMul, Nat.reduceBEq, Option.getD_none, Int.reduceToNat, Nat.reduceSub, Nat.reduceLT, Nat.reduceLeDiff, Int.reduceLE, Int.reduceLT, reduceCtorEq]
  refine fcW_bool (impl_in.fc ..) ?_
  simp only [go_sem, ↓reduceIte, Nat.reduceEqDiff, Nat.reduceAdd, Nat.reduceMul, Nat.reduceBEq, Option.getD_none, Int.reduceToNat, Nat.reduceSub, Nat.reduceLT, Nat.reduceLeDiff, Int.reduceLE, Int.reduceLT, reduceCtorEq]
def goodS (a b : Int) : Bool := inB a 0 65535 && inB b 0 65535 && decide (a ≤ b)
def andI (a b : Int) : Int := IntKind.i64.wrap (BitVec.ofInt IntKind.i64.bits a &&& BitVec.ofInt IntKind.i64.bits b).toNat
def goodK (a b : Int) : Bool := inB a 0 65535 && inB b 0 65535 && (andI a b == 0)
theorem spec_GoodStretch.fc (a b : Int) : FCt prog F_spec_GoodStretch [.ro] [pr a b] (Bb (goodS a b)) [] := by
  refine fct_run spec_GoodStretch.ok rfl ?_
  unfold goodS
  simp only [go_sem, ↓reduceIte, Nat.reduceEqDiff, Nat.reduceAdd, Nat.reduceMul, Nat.reduceBEq, Option.getD_none, Int.reduceToNat, Nat.reduceSub, Nat.reduceLT, Nat.reduceLeDiff, Int.reduceLE, Int.reduceLT, reduceCtorEq]
  refine fcW_bool (spec_l1Word.fc ..) ?_
  cases h1 : inB a 0 65535
  · simp only [go_sem, ↓reduceIte, Nat.reduceEqDiff, Nat.reduceAdd, Nat.reduceMul, Nat.reduceBEq, Option.getD_none, Int.reduceToNat, Nat.reduceSub, Nat.reduceLT, Nat.reduceLeDiff, Int.reduceLE, Int.reduceLT, reduceCtorEq]
  · simp only [go_sem, ↓reduceIte, Nat.reduceEqDiff, Nat.reduceAdd, Nat.reduceMul, Nat.reduceBEq, Option.getD_none, Int.reduceToNat, Nat.reduceSub, Nat.reduceLT, Nat.reduceLeDiff, Int.reduceLE, Int.reduceLT, reduceCtorEq]
    refine fcW_bool (spec_l1Word.fc ..) ?_
    cases h2 : inB b 0 65535
    · simp only [go_sem, ↓reduceIte, Nat.reduceEqDiff, Nat.reduceAdd, Nat.reduceMul, Nat.reduceBEq, Option.getD_none, Int.reduceToNat, Nat.reduceSub, Nat.reduceLT, Nat.reduceLeDiff, Int.reduceLE, Int.reduceLT, reduceCtorEq]
    · simp only [go_sem, ↓reduceIte, Nat.reduceEqDiff, Nat.reduceAdd, Nat.reduceMul, Nat.reduceBEq, Option.getD_none, Int.reduceToNat, Nat.reduceSub, Nat.reduceLT, Nat.reduceLeDiff, Int.reduceLE, Int.reduceLT, reduceCtorEq]
theorem impl_GoodStretch.fc (a b : Int) : FCt prog F_impl_GoodStretch [.ro] [pr a b] (Bb (goodS a b)) [] := by
  refine fct_run impl_GoodStretch.ok rfl ?_
  unfold goodS
  simp only [go_sem, ↓reduceIte, Nat.reduceEqDiff, Nat.reduceAdd, Nat.reduceMul, Nat.reduceBEq, Option.getD_none, Int.reduceToNat, Nat.reduceSub, Nat.reduceLT, Nat.reduceLeDiff, Int.reduceLE, Int.reduceLT, reduceCtorEq]
  refine fcW_bool (impl_isWord.fc ..) ?_
  cases h1 : inB a 0 65535
  · simp only [go_sem, ↓reduceIte, Nat.reduceEqDiff, Nat.reduceAdd, Nat.reduceMul, Nat.reduceBEq, Option.getD_none, Int.reduceToNat, Nat.reduceSub, Nat.reduceLT, Nat.reduceLeDiff, Int.reduceLE, Int.reduceLT, reduceCtorEq]
  · simp only [go_sem, ↓reduceIte, Nat.reduceEqDiff, Nat.reduceAdd, Nat.reduceMul, Nat.reduceBEq, Option.getD_none, Int.reduceToNat, Nat.reduceSub, Nat.reduceLT, Nat.reduceLeDiff, Int.reduceLE, Int.reduceLT, reduceCtorEq]
    refine fcW_bool (impl_isWord.fc ..) ?_
    cases h2 : inB b 0 65535
    · simp only [go_sem, ↓reduceIte, Nat.reduceEqDiff, Nat.reduceAdd, Nat.reduceMul, Nat.reduceBEq, Option.getD_none, Int.reduceToNat, Nat.reduceSub, Nat.reduceLT, Nat.reduceLeDiff, Int.reduceLE, Int.reduceLT, reduceCtorEq]
    · simp only [go_sem, ↓reduceIte, Nat.reduceEqDiff, Nat.reduceAdd, Nat.reduceMul, Nat.reduceBEq, Option.getD_none, Int.reduceToNat, Nat.reduceSub, Nat.reduceLT, Nat.reduceLeDiff, Int.reduceLE, Int.reduceLT, reduceCtorEq]
theorem spec_GoodKnown.fc (a b : Int) : FCt prog F_spec_GoodKnown [.ro] [pr a b] (Bb (goodK a b)) [] := by
  refine fct_run spec_GoodKnown.ok rfl ?_
  unfold goodK andI
  simp only [go_sem, ↓reduceIte, Nat.reduceEqDiff, Nat.reduceAdd, Nat.reduceMul, Nat.reduceBEq, Option.getD_none, Int.reduceToNat, Nat.reduceSub, Nat.reduceLT, Nat.reduceLeDiff, Int.reduceLE, Int.reduceLT, reduceCtorEq]
  refine fcW_bool (spec_l1Word.fc ..) ?_
  cases h1 : inB a 0 65535
  · simp only [go_sem, ↓reduceIte, Nat.reduceEqDiff, Nat.reduceAdd, Nat.reduceMul, Nat.reduceBEq, Option.getD_none, Int.reduceToNat, Nat.reduceSub, Nat.reduceLT, Nat.reduceLeDiff, Int.reduceLE, Int.reduceLT, reduceCtorEq]
  · simp only [go_sem, ↓reduceIte, Nat.reduceEqDiff, Nat.reduceAdd, Nat.reduceMul, Nat.reduceBEq, Option.getD_none, Int.reduceToNat, Nat.reduceSub, Nat.reduceLT, Nat.reduceLeDiff, Int.reduceLE, Int.reduceLT, reduceCtorEq]
    refine fcW_bool (spec_l1Word.fc ..) ?_
    cases h2 : inB b 0 65535
    · simp only [go_sem, ↓reduceIte, Nat.reduceEqDiff, Nat.reduceAdd, Nat.reduceMul, Nat.reduceBEq, Option.getD_none, Int.reduceToNat, Nat.reduceSub, Nat.reduceLT, Nat.reduceLeDiff, Int.reduceLE, Int.reduceLT, reduceCtorEq]
    · simp only [go_sem, ↓reduceIte, Nat.reduceEqDiff, Nat.reduceAdd, Nat.reduceMul, Nat.reduceBEq, Option.getD_none, Int.reduceToNat, Nat.reduceSub, Nat.reduceLT, Nat.reduceLeDiff, Int.reduceLE, Int.reduceLT, reduceCtorEq]
theorem impl_GoodKnown.fc (a b : Int) : FCt prog F_impl_GoodKnown [.ro] [pr a b] (Bb (goodK a b)) [] := by
  refine fct_run impl_GoodKnown.ok rfl ?_
  unfold goodK andI
  simp only [go_sem, ↓reduceIte, Nat.reduceEqDiff, Nat.reduceAdd, Nat.reduceMul, Nat.reduceBEq, Option.getD_none, Int.reduceToNat, Nat.reduceSub, Nat.reduceLT, Nat.reduceLeDiff, Int.reduceLE, Int.reduceLT, reduceCtorEq]
  refine fcW_bool (impl_isWord.fc ..) ?_
  cases h1 : inB a 0 65535
  · simp only [go_sem, ↓reduceIte, Nat.reduceEqDiff, Nat.reduceAdd, Nat.reduceMul, Nat.reduceBEq, Option.getD_none, Int.reduceToNat, Nat.reduceSub, Nat.reduceLT, Nat.reduceLeDiff, Int.reduceLE, Int.reduceLT, reduceCtorEq]
  · simp only [go_sem, ↓reduceIte, Nat.reduceEqDiff, Nat.reduceAdd, Nat.reduceMul, Nat.reduceBEq, Option.getD_none, Int.reduceToNat, Nat.reduceSub, Nat.reduceLT, Nat.reduceLeDiff, Int.reduceLE, Int.reduceLT, reduceCtorEq]
    refine fcW_bool (impl_isWord.fc ..) ?_
    cases h2 : inB b 0 65535
    · simp only [go_sem, ↓reduceIte, Nat.reduceEqDiff, Nat.reduceAdd, Nat.reduceMul, Nat.reduceBEq, Option.getD_none, Int.reduceToNat, Nat.reduceSub, Nat.reduceLT, Nat.reduceLeDiff, Int.reduceLE, Int.reduceLT, reduceCtorEq]
    · simp only [go_sem, ↓reduceIte, Nat.reduceEqDiff, Nat.reduceAdd, Nat.reduceMul, Nat.reduceBEq, Option.getD_none, Int.reduceToNat, Nat.reduceSub, Nat.reduceLT, Nat.reduceLeDiff, Int.reduceLE, Int.reduceLT, reduceCtorEq]
end Go.Vm.Ytmicgdfekpoajaa
/- Walks: arcs. -/
namespace Go.Vm.Ytmicgdfekpoajaa
open Go Go.Vm
set_option maxRecDepth 10000
set_option linter.unusedSimpArgs false
set_option linter.unusedVariables false

abbrev arcD (a : Int × Int) : D := pr a.1 a.2
abbrev arcs (l : List (Int × Int)) : D := .sl 2 (l.map arcD)
end Go.Vm.Ytmicgdfekpoajaa
/- Walks: valid arcs. -/
namespace Go.Vm.Ytmicgdfekpoajaa
open Go Go.Vm
set_option maxRecDepth 10000
set_option linter.unusedSimpArgs false
set_option linter.unusedVariables false

end Go.Vm.Ytmicgdfekpoajaa
/- Walks: rows of rows; clauses. -/
namespace Go.Vm.Ytmicgdfekpoajaa
open Go Go.Vm
set_option maxRecDepth 10000
set_option linter.unusedSimpArgs false
set_option linter.unusedVariables false

end Go.Vm.Ytmicgdfekpoajaa
/- Walks: sorted rows. -/
namespace Go.Vm.Ytmicgdfekpoajaa
open Go Go.Vm
set_option maxRecDepth 10000
set_option linter.unusedSimpArgs false
set_option linter.unusedVariables false

end Go.Vm.Ytmicgdfekpoajaa
/- Walks: what is reached. -/
namespace Go.Vm.Ytmicgdfekpoajaa
open Go Go.Vm
set_option maxRecDepth 10000
set_option linter.unusedSimpArgs false
set_option linter.unusedVariables false

end Go.Vm.Ytmicgdfekpoajaa
/- Walks: facts and rules that hold. -/
namespace Go.Vm.Ytmicgdfekpoajaa
open Go Go.Vm
set_option maxRecDepth 10000
set_option linter.unusedSimpArgs false
set_option linter.unusedVariables false

abbrev bools (l : List Bool) : D := .sl 1 (l.map Bb)
end Go.Vm.Ytmicgdfekpoajaa
/- Walks: lists of the places where a condition holds. -/
namespace Go.Vm.Ytmicgdfekpoajaa
open Go Go.Vm
set_option maxRecDepth 10000
set_option linter.unusedSimpArgs false
set_option linter.unusedVariables false

theorem noRs_bools {l : List Bool} : noRs (bools l) = true := noRs_sl (by
  intro d hd; obtain ⟨x, _, rfl⟩ := List.mem_map.1 hd; rfl)
end Go.Vm.Ytmicgdfekpoajaa
/- Walks: what is reached, by rows of marks. -/
namespace Go.Vm.Ytmicgdfekpoajaa
open Go Go.Vm
set_option maxRecDepth 10000
set_option linter.unusedSimpArgs false
set_option linter.unusedVariables false

end Go.Vm.Ytmicgdfekpoajaa
/- Plain law: rows of marks and sorted rows. -/
namespace Go.Vm.Ytmicgdfekpoajaa
open Go Go.Vm
set_option maxRecDepth 10000
set_option linter.unusedSimpArgs false
set_option linter.unusedVariables false

end Go.Vm.Ytmicgdfekpoajaa
/- Walks: what is reached within so many steps. -/
namespace Go.Vm.Ytmicgdfekpoajaa
open Go Go.Vm
set_option maxRecDepth 10000
set_option linter.unusedSimpArgs false
set_option linter.unusedVariables false

end Go.Vm.Ytmicgdfekpoajaa
/- Walks: arcs that lead back. -/
namespace Go.Vm.Ytmicgdfekpoajaa
open Go Go.Vm
set_option maxRecDepth 10000
set_option linter.unusedSimpArgs false
set_option linter.unusedVariables false

end Go.Vm.Ytmicgdfekpoajaa
/- Walks: the laws' own helpers, in one form. -/
namespace Go.Vm.Ytmicgdfekpoajaa
open Go Go.Vm
set_option maxRecDepth 10000
set_option linter.unusedSimpArgs false
set_option linter.unusedVariables false

theorem noRs_agg {fs : List D} (h : ∀ d ∈ fs, noRs d = true) : noRs (.agg fs) = true := by simp only [noRs]; exact noRsL_all h
theorem hasBool {d : D} (h : HasTy .bool d) : ∃ b, d = Bb b := by simpa only [HasTy] using h
theorem hasSl {α : Type} {f : α → D} {p : α → Prop} {T : Ty} (one : ∀ x, HasTy T x → ∃ a, x = f a ∧ p a) {d : D} (h : HasTy (.sl T) d) : ∃ l : List α, d = .sl T.cells (l.map f) ∧ l.length ≤ 9223372036854775807 ∧ ∀ a ∈ l, p a := by
  simp only [HasTy] at h
  obtain ⟨xs, rfl, hl, h⟩ := h
  have : ∀ xs : List D, (∀ x ∈ xs, HasTy T x) → ∃ l : List α, xs = l.map f ∧ ∀ a ∈ l, p a := by
    intro xs
    induction xs with
    | nil => intro _; exact ⟨[], rfl, by simp⟩
    | cons x xs ih =>
      intro h
      obtain ⟨a, rfl, hp⟩ := one x (h x List.mem_cons_self)
      obtain ⟨l, rfl, hl⟩ := ih fun y hy => h y (List.mem_cons_of_mem _ hy)
      exact ⟨a :: l, rfl, fun b hb => by
        rcases List.mem_cons.1 hb with rfl | hb
        · exact hp
        · exact hl b hb⟩
  obtain ⟨l, rfl, hp⟩ := this xs h
  exact ⟨l, rfl, by simpa [maxLen] using hl, hp⟩
end Go.Vm.Ytmicgdfekpoajaa
/- Walks: the laws' own helpers, in one form: rules, rows of rows. -/
namespace Go.Vm.Ytmicgdfekpoajaa
open Go Go.Vm
set_option maxRecDepth 10000
set_option linter.unusedSimpArgs false
set_option linter.unusedVariables false

end Go.Vm.Ytmicgdfekpoajaa
/- Walks: what is put into a row that is handed over; the least facts. -/
namespace Go.Vm.Ytmicgdfekpoajaa
open Go Go.Vm
set_option maxRecDepth 10000
set_option linter.unusedSimpArgs false
set_option linter.unusedVariables false

end Go.Vm.Ytmicgdfekpoajaa
/- Walks: do rules hold among facts? -/
namespace Go.Vm.Ytmicgdfekpoajaa
open Go Go.Vm
set_option maxRecDepth 10000
set_option linter.unusedSimpArgs false
set_option linter.unusedVariables false

end Go.Vm.Ytmicgdfekpoajaa
/- Plain law: the least facts. -/
namespace Go.Vm.Ytmicgdfekpoajaa
open Go Go.Vm
set_option maxRecDepth 10000
set_option linter.unusedSimpArgs false
set_option linter.unusedVariables false

end Go.Vm.Ytmicgdfekpoajaa
/- Walks: the least facts. -/
namespace Go.Vm.Ytmicgdfekpoajaa
open Go Go.Vm
set_option maxRecDepth 10000
set_option linter.unusedSimpArgs false
set_option linter.unusedVariables false

end Go.Vm.Ytmicgdfekpoajaa
/- Walks: the least facts by the reference; why a fact holds. -/
namespace Go.Vm.Ytmicgdfekpoajaa
open Go Go.Vm
set_option maxRecDepth 10000
set_option linter.unusedSimpArgs false
set_option linter.unusedVariables false

end Go.Vm.Ytmicgdfekpoajaa
/- Walks: literals and clauses. -/
namespace Go.Vm.Ytmicgdfekpoajaa
open Go Go.Vm
set_option maxRecDepth 10000
set_option linter.unusedSimpArgs false
set_option linter.unusedVariables false

end Go.Vm.Ytmicgdfekpoajaa
/- Walks: rules as clauses. -/
namespace Go.Vm.Ytmicgdfekpoajaa
open Go Go.Vm
set_option maxRecDepth 10000
set_option linter.unusedSimpArgs false
set_option linter.unusedVariables false

end Go.Vm.Ytmicgdfekpoajaa
/- Walks: copies, and what is struck out of a row. -/
namespace Go.Vm.Ytmicgdfekpoajaa
open Go Go.Vm
set_option maxRecDepth 10000
set_option linter.unusedSimpArgs false
set_option linter.unusedVariables false

end Go.Vm.Ytmicgdfekpoajaa
/- Walks: what two sets of facts share; Horn clauses. -/
namespace Go.Vm.Ytmicgdfekpoajaa
open Go Go.Vm
set_option maxRecDepth 10000
set_option linter.unusedSimpArgs false
set_option linter.unusedVariables false

end Go.Vm.Ytmicgdfekpoajaa
/- Walks: the laws' own helpers for what may be. -/
namespace Go.Vm.Ytmicgdfekpoajaa
open Go Go.Vm
set_option maxRecDepth 10000
set_option linter.unusedSimpArgs false
set_option linter.unusedVariables false

abbrev strD (x : (Int × Int)) : D := .agg [Ii x.1, Ii x.2]
abbrev TyStretch : Ty := .st [(.int .i64), (.int .i64)]
theorem hasStretch {d : D} (h : HasTy TyStretch d) : ∃ x : (Int × Int), d = strD x ∧ True := by
  simp only [HasTy] at h
  obtain ⟨ys, rfl, h⟩ := h
  simp only [HasTys] at h
  obtain ⟨d0, s0, rfl, h0, d1, s1, rfl, h1, rfl⟩ := h
  obtain ⟨x0, rfl, _⟩ := hasInt h0
  obtain ⟨x1, rfl, _⟩ := hasInt h1
  exact ⟨⟨x0, x1⟩, rfl, trivial⟩
abbrev knownD (x : (Int × Int)) : D := .agg [Ii x.1, Ii x.2]
abbrev TyKnown : Ty := .st [(.int .i64), (.int .i64)]
theorem hasKnown {d : D} (h : HasTy TyKnown d) : ∃ x : (Int × Int), d = knownD x ∧ True := by
  simp only [HasTy] at h
  obtain ⟨ys, rfl, h⟩ := h
  simp only [HasTys] at h
  obtain ⟨d0, s0, rfl, h0, d1, s1, rfl, h1, rfl⟩ := h
  obtain ⟨x0, rfl, _⟩ := hasInt h0
  obtain ⟨x1, rfl, _⟩ := hasInt h1
  exact ⟨⟨x0, x1⟩, rfl, trivial⟩
theorem laws_toStretch.fcu (x : (Int × Int)) :
    FCt prog F_laws_toStretch [.ro] [strD x] (strD x) [] := by
  refine fct_run laws_toStretch.ok rfl ?_
  simp only [go_sem, ↓reduceIte, Nat.reduceEqDiff, Nat.reduceAdd, Nat.reduceMul, Nat.reduceBEq, Option.getD_none, Int.reduceToNat, Nat.reduceSub, Nat.reduceLT, Nat.reduceLeDiff, Int.reduceLE, Int.reduceLT, reduceCtorEq]
theorem laws_eqStretch.fcu (x : (Int × Int)) :
    FCt prog F_laws_eqStretch [.ro, .ro] [strD x, strD x] (Bb true) [] := by
  refine fct_run laws_eqStretch.ok rfl ?_
  simp only [go_sem, ↓reduceIte, Nat.reduceEqDiff, Nat.reduceAdd, Nat.reduceMul, Nat.reduceBEq, Option.getD_none, Int.reduceToNat, Nat.reduceSub, Nat.reduceLT, Nat.reduceLeDiff, Int.reduceLE, Int.reduceLT, reduceCtorEq]
theorem laws_toKnown.fcu (x : (Int × Int)) :
    FCt prog F_laws_toKnown [.ro] [knownD x] (knownD x) [] := by
  refine fct_run laws_toKnown.ok rfl ?_
  simp only [go_sem, ↓reduceIte, Nat.reduceEqDiff, Nat.reduceAdd, Nat.reduceMul, Nat.reduceBEq, Option.getD_none, Int.reduceToNat, Nat.reduceSub, Nat.reduceLT, Nat.reduceLeDiff, Int.reduceLE, Int.reduceLT, reduceCtorEq]
theorem laws_eqKnown.fcu (x : (Int × Int)) :
    FCt prog F_laws_eqKnown [.ro, .ro] [knownD x, knownD x] (Bb true) [] := by
  refine fct_run laws_eqKnown.ok rfl ?_
  simp only [go_sem, ↓reduceIte, Nat.reduceEqDiff, Nat.reduceAdd, Nat.reduceMul, Nat.reduceBEq, Option.getD_none, Int.reduceToNat, Nat.reduceSub, Nat.reduceLT, Nat.reduceLeDiff, Int.reduceLE, Int.reduceLT, reduceCtorEq]

abbrev strs (l : List (Int × Int)) : D := .sl 2 (l.map strD)
theorem noRs_strs {l : List (Int × Int)} : noRs (strs l) = true := noRs_sl (by
  intro d hd
  obtain ⟨x, _, rfl⟩ := List.mem_map.1 hd
  exact rfl)
theorem hasStretchS {d : D} (h : HasTy (.sl TyStretch) d) : ∃ l : List (Int × Int), d = strs l ∧ l.length ≤ 9223372036854775807 := by
  obtain ⟨l, rfl, hl, hp⟩ := hasSl (f := strD) (p := fun x => True) (fun x h => hasStretch h) h
  exact ⟨l, rfl, hl⟩
abbrev knowns (l : List (Int × Int)) : D := .sl 2 (l.map knownD)
theorem noRs_knowns {l : List (Int × Int)} : noRs (knowns l) = true := noRs_sl (by
  intro d hd
  obtain ⟨x, _, rfl⟩ := List.mem_map.1 hd
  exact rfl)
theorem hasKnownS {d : D} (h : HasTy (.sl TyKnown) d) : ∃ l : List (Int × Int), d = knowns l ∧ l.length ≤ 9223372036854775807 := by
  obtain ⟨l, rfl, hl, hp⟩ := hasSl (f := knownD) (p := fun x => True) (fun x h => hasKnown h) h
  exact ⟨l, rfl, hl⟩
theorem hasBoolS {d : D} (h : HasTy (.sl .bool) d) : ∃ l : List Bool, d = bools l ∧ l.length ≤ 9223372036854775807 := by
  obtain ⟨l, rfl, hl, hp⟩ := hasSl (f := Bb) (p := fun x => True) (fun x h => by obtain ⟨a, rfl⟩ := hasBool h; exact ⟨a, rfl, trivial⟩) h
  exact ⟨l, rfl, hl⟩
theorem laws_toStretchS.fcu (x : List (Int × Int)) (h : x.length ≤ 1048576) :
    FCt prog F_laws_toStretchS [.ro] [strs x] (strs x) [] := by
  refine fct_run laws_toStretchS.ok rfl ?_
  have h0 := h
  have c1 : (x.length : Int) * (16 : Nat) ≤ 70368744177664 := by omega
  simp only [go_sem, ↓reduceIte, Nat.reduceEqDiff, Nat.reduceAdd, Nat.reduceMul, Nat.reduceBEq, Option.getD_none, Int.reduceToNat, Nat.reduceSub, Nat.reduceLT, Nat.reduceLeDiff, Int.reduceLE, Int.reduceLT, reduceCtorEq, Int.le_refl, c1]
  refine R_loop (α := Nat) (fun k s' M' => k ≤ x.length ∧ s' 4 = aI k ∧ ∃ v, s' 3 = .sl 256 v 0 x.length 2 ∧ M'.m 256 = some (.arr v true 2 (fill strD (.agg [Ii 0, Ii 0]) x k))) (fun k => x.length - k) 0
    ⟨by omega, by simp only [go_sem, ↓reduceIte, Nat.reduceEqDiff, Nat.reduceAdd, Nat.reduceMul, Nat.reduceBEq, Option.getD_none, Int.reduceToNat, Nat.reduceSub, Nat.reduceLT, Nat.reduceLeDiff, Int.reduceLE, Int.reduceLT, reduceCtorEq]; rfl, _, by simp only [go_sem, ↓reduceIte, Nat.reduceEqDiff, Nat.reduceAdd, Nat.reduceMul, Nat.reduceBEq, Option.getD_none, Int.reduceToNat, Nat.reduceSub, Nat.reduceLT, Nat.reduceLeDiff, Int.reduceLE, Int.reduceLT, reduceCtorEq]; rfl, by simp only [go_sem, ↓reduceIte, Nat.reduceEqDiff, Nat.reduceAdd, Nat.reduceMul, Nat.reduceBEq, Option.getD_none, Int.reduceToNat, Nat.reduceSub, Nat.reduceLT, Nat.reduceLeDiff, Int.reduceLE, Int.reduceLT, reduceCtorEq]; rw [fill_zero]⟩ ?_
  rintro k s' M' ⟨hk, h4, v, h3, hm⟩ ho
  unfold laws_toStretchS.b0
  have k0 : s' 0 = .dat none (strs x) := by rw [ho 0 rfl]; simp only [go_sem, ↓reduceIte, Nat.reduceEqDiff, Nat.reduceAdd, Nat.reduceMul, Nat.reduceBEq, Option.getD_none, Int.reduceToNat, Nat.reduceSub, Nat.reduceLT, Nat.reduceLeDiff, Int.reduceLE, Int.reduceLT, reduceCtorEq]
  clear ho
  by_cases hlt : k < x.length
  · have hi' : (k : Int) < x.length := by omega
    have ga : x[k]? = some x[k] := List.getElem?_eq_getElem hlt
    have hw : IntKind.i64.wrap (k + 1) = ((k + 1 : Nat) : Int) := wrap_k hlt (by omega)
    have hf := fill_get (f := strD) (z := (.agg [Ii 0, Ii 0])) hlt
    simp only [go_sem, ↓reduceIte, Nat.reduceEqDiff, Nat.reduceAdd, Nat.reduceMul, Nat.reduceBEq, Option.getD_none, Int.reduceToNat, Nat.reduceSub, Nat.reduceLT, Nat.reduceLeDiff, Int.reduceLE, Int.reduceLT, reduceCtorEq, h4, h3, hi', ga, hw, hm, hf, k0]
    refine fcW_bd (laws_toStretch.fcu _) rfl ?_
    simp only [go_sem, ↓reduceIte, Nat.reduceEqDiff, Nat.reduceAdd, Nat.reduceMul, Nat.reduceBEq, Option.getD_none, Int.reduceToNat, Nat.reduceSub, Nat.reduceLT, Nat.reduceLeDiff, Int.reduceLE, Int.reduceLT, reduceCtorEq, h4, h3, hi', ga, hw, hm, hf, take_map_len, k0]
    refine ⟨k + 1, by dsimp only; omega, by omega, by simp only [go_sem, ↓reduceIte, Nat.reduceEqDiff, Nat.reduceAdd, Nat.reduceMul, Nat.reduceBEq, Option.getD_none, Int.reduceToNat, Nat.reduceSub, Nat.reduceLT, Nat.reduceLeDiff, Int.reduceLE, Int.reduceLT, reduceCtorEq, k0], v, by simp only [go_sem, ↓reduceIte, Nat.reduceEqDiff, Nat.reduceAdd, Nat.reduceMul, Nat.reduceBEq, Option.getD_none, Int.reduceToNat, Nat.reduceSub, Nat.reduceLT, Nat.reduceLeDiff, Int.reduceLE, Int.reduceLT, reduceCtorEq, h3, k0], by simp only [go_sem, ↓reduceIte, Nat.reduceEqDiff, Nat.reduceAdd, Nat.reduceMul, Nat.reduceBEq, Option.getD_none, Int.reduceToNat, Nat.reduceSub, Nat.reduceLT, Nat.reduceLeDiff, Int.reduceLE, Int.reduceLT, reduceCtorEq, k0]; rw [← fill_set hlt]⟩
  · have hi' : ¬ (k : Int) < x.length := by omega
    obtain rfl : k = x.length := by omega
    have hlen := fill_len (f := strD) (z := (.agg [Ii 0, Ii 0])) (Nat.le_refl x.length)
    simp only [go_sem, ↓reduceIte, Nat.reduceEqDiff, Nat.reduceAdd, Nat.reduceMul, Nat.reduceBEq, Option.getD_none, Int.reduceToNat, Nat.reduceSub, Nat.reduceLT, Nat.reduceLeDiff, Int.reduceLE, Int.reduceLT, reduceCtorEq, h4, h3, hi', hm, hlen, k0]
    simp only [fill_all, mkR_one, take_map_len]
theorem laws_toKnownS.fcu (x : List (Int × Int)) (h : x.length ≤ 1048576) :
    FCt prog F_laws_toKnownS [.ro] [knowns x] (knowns x) [] := by
  refine fct_run laws_toKnownS.ok rfl ?_
  have h0 := h
  have c1 : (x.length : Int) * (16 : Nat) ≤ 70368744177664 := by omega
  simp only [go_sem, ↓reduceIte, Nat.reduceEqDiff, Nat.reduceAdd, Nat.reduceMul, Nat.reduceBEq, Option.getD_none, Int.reduceToNat, Nat.reduceSub, Nat.reduceLT, Nat.reduceLeDiff, Int.reduceLE, Int.reduceLT, reduceCtorEq, Int.le_refl, c1]
  refine R_loop (α := Nat) (fun k s' M' => k ≤ x.length ∧ s' 4 = aI k ∧ ∃ v, s' 3 = .sl 256 v 0 x.length 2 ∧ M'.m 256 = some (.arr v true 2 (fill knownD (.agg [Ii 0, Ii 0]) x k))) (fun k => x.length - k) 0
    ⟨by omega, by simp only [go_sem, ↓reduceIte, Nat.reduceEqDiff, Nat.reduceAdd, Nat.reduceMul, Nat.reduceBEq, Option.getD_none, Int.reduceToNat, Nat.reduceSub, Nat.reduceLT, Nat.reduceLeDiff, Int.reduceLE, Int.reduceLT, reduceCtorEq]; rfl, _, by simp only [go_sem, ↓reduceIte, Nat.reduceEqDiff, Nat.reduceAdd, Nat.reduceMul, Nat.reduceBEq, Option.getD_none, Int.reduceToNat, Nat.reduceSub, Nat.reduceLT, Nat.reduceLeDiff, Int.reduceLE, Int.reduceLT, reduceCtorEq]; rfl, by simp only [go_sem, ↓reduceIte, Nat.reduceEqDiff, Nat.reduceAdd, Nat.reduceMul, Nat.reduceBEq, Option.getD_none, Int.reduceToNat, Nat.reduceSub, Nat.reduceLT, Nat.reduceLeDiff, Int.reduceLE, Int.reduceLT, reduceCtorEq]; rw [fill_zero]⟩ ?_
  rintro k s' M' ⟨hk, h4, v, h3, hm⟩ ho
  unfold laws_toKnownS.b0
  have k0 : s' 0 = .dat none (knowns x) := by rw [ho 0 rfl]; simp only [go_sem, ↓reduceIte, Nat.reduceEqDiff, Nat.reduceAdd, Nat.reduceMul, Nat.reduceBEq, Option.getD_none, Int.reduceToNat, Nat.reduceSub, Nat.reduceLT, Nat.reduceLeDiff, Int.reduceLE, Int.reduceLT, reduceCtorEq]
  clear ho
  by_cases hlt : k < x.length
  · have hi' : (k : Int) < x.length := by omega
    have ga : x[k]? = some x[k] := List.getElem?_eq_getElem hlt
    have hw : IntKind.i64.wrap (k + 1) = ((k + 1 : Nat) : Int) := wrap_k hlt (by omega)
    have hf := fill_get (f := knownD) (z := (.agg [Ii 0, Ii 0])) hlt
    simp only [go_sem, ↓reduceIte, Nat.reduceEqDiff, Nat.reduceAdd, Nat.reduceMul, Nat.reduceBEq, Option.getD_none, Int.reduceToNat, Nat.reduceSub, Nat.reduceLT, Nat.reduceLeDiff, Int.reduceLE, Int.reduceLT, reduceCtorEq, h4, h3, hi', ga, hw, hm, hf, k0]
    refine fcW_bd (laws_toKnown.fcu _) rfl ?_
    simp only [go_sem, ↓reduceIte, Nat.reduceEqDiff, Nat.reduceAdd, Nat.reduceMul, Nat.reduceBEq, Option.getD_none, Int.reduceToNat, Nat.reduceSub, Nat.reduceLT, Nat.reduceLeDiff, Int.reduceLE, Int.reduceLT, reduceCtorEq, h4, h3, hi', ga, hw, hm, hf, take_map_len, k0]
    refine ⟨k + 1, by dsimp only; omega, by omega, by simp only [go_sem, ↓reduceIte, Nat.reduceEqDiff, Nat.reduceAdd, Nat.reduceMul, Nat.reduceBEq, Option.getD_none, Int.reduceToNat, Nat.reduceSub, Nat.reduceLT, Nat.reduceLeDiff, Int.reduceLE, Int.reduceLT, reduceCtorEq, k0], v, by simp only [go_sem, ↓reduceIte, Nat.reduceEqDiff, Nat.reduceAdd, Nat.reduceMul, Nat.reduceBEq, Option.getD_none, Int.reduceToNat, Nat.reduceSub, Nat.reduceLT, Nat.reduceLeDiff, Int.reduceLE, Int.reduceLT, reduceCtorEq, h3, k0], by simp only [go_sem, ↓reduceIte, Nat.reduceEqDiff, Nat.reduceAdd, Nat.reduceMul, Nat.reduceBEq, Option.getD_none, Int.reduceToNat, Nat.reduceSub, Nat.reduceLT, Nat.reduceLeDiff, Int.reduceLE, Int.reduceLT, reduceCtorEq, k0]; rw [← fill_set hlt]⟩
  · have hi' : ¬ (k : Int) < x.length := by omega
    obtain rfl : k = x.length := by omega
    have hlen := fill_len (f := knownD) (z := (.agg [Ii 0, Ii 0])) (Nat.le_refl x.length)
    simp only [go_sem, ↓reduceIte, Nat.reduceEqDiff, Nat.reduceAdd, Nat.reduceMul, Nat.reduceBEq, Option.getD_none, Int.reduceToNat, Nat.reduceSub, Nat.reduceLT, Nat.reduceLeDiff, Int.reduceLE, Int.reduceLT, reduceCtorEq, h4, h3, hi', hm, hlen, k0]
    simp only [fill_all, mkR_one, take_map_len]
theorem laws_toBoolS.fcu (x : List Bool) (h : x.length ≤ 1048576) :
    FCt prog F_laws_toBoolS [.ro] [bools x] (bools x) [] := by
  refine fct_run laws_toBoolS.ok rfl ?_
  have h0 := h
  have c1 : (x.length : Int) * (1 : Nat) ≤ 70368744177664 := by omega
  simp only [go_sem, ↓reduceIte, Nat.reduceEqDiff, Nat.reduceAdd, Nat.reduceMul, Nat.reduceBEq, Option.getD_none, Int.reduceToNat, Nat.reduceSub, Nat.reduceLT, Nat.reduceLeDiff, Int.reduceLE, Int.reduceLT, reduceCtorEq, Int.le_refl, c1]
  refine R_loop (α := Nat) (fun k s' M' => k ≤ x.length ∧ s' 4 = aI k ∧ ∃ v, s' 3 = .sl 256 v 0 x.length 1 ∧ M'.m 256 = some (.arr v true 1 (fill Bb (Bb false) x k))) (fun k => x.length - k) 0
    ⟨by omega, by simp only [go_sem, ↓reduceIte, Nat.reduceEqDiff, Nat.reduceAdd, Nat.reduceMul, Nat.reduceBEq, Option.getD_none, Int.reduceToNat, Nat.reduceSub, Nat.reduceLT, Nat.reduceLeDiff, Int.reduceLE, Int.reduceLT, reduceCtorEq]; rfl, _, by simp only [go_sem, ↓reduceIte, Nat.reduceEqDiff, Nat.reduceAdd, Nat.reduceMul, Nat.reduceBEq, Option.getD_none, Int.reduceToNat, Nat.reduceSub, Nat.reduceLT, Nat.reduceLeDiff, Int.reduceLE, Int.reduceLT, reduceCtorEq]; rfl, by simp only [go_sem, ↓reduceIte, Nat.reduceEqDiff, Nat.reduceAdd, Nat.reduceMul, Nat.reduceBEq, Option.getD_none, Int.reduceToNat, Nat.reduceSub, Nat.reduceLT, Nat.reduceLeDiff, Int.reduceLE, Int.reduceLT, reduceCtorEq]; rw [fill_zero]⟩ ?_
  rintro k s' M' ⟨hk, h4, v, h3, hm⟩ ho
  unfold laws_toBoolS.b0
  have k0 : s' 0 = .dat none (bools x) := by rw [ho 0 rfl]; simp only [go_sem, ↓reduceIte, Nat.reduceEqDiff, Nat.reduceAdd, Nat.reduceMul, Nat.reduceBEq, Option.getD_none, Int.reduceToNat, Nat.reduceSub, Nat.reduceLT, Nat.reduceLeDiff, Int.reduceLE, Int.reduceLT, reduceCtorEq]
  clear ho
  by_cases hlt : k < x.length
  · have hi' : (k : Int) < x.length := by omega
    have ga : x[k]? = some x[k] := List.getElem?_eq_getElem hlt
    have hw : IntKind.i64.wrap (k + 1) = ((k + 1 : Nat) : Int) := wrap_k hlt (by omega)
    have hf := fill_get (f := Bb) (z := (Bb false)) hlt
    simp only [go_sem, ↓reduceIte, Nat.reduceEqDiff, Nat.reduceAdd, Nat.reduceMul, Nat.reduceBEq, Option.getD_none, Int.reduceToNat, Nat.reduceSub, Nat.reduceLT, Nat.reduceLeDiff, Int.reduceLE, Int.reduceLT, reduceCtorEq, h4, h3, hi', ga, hw, hm, hf, k0]
    refine ⟨k + 1, by dsimp only; omega, by omega, by simp only [go_sem, ↓reduceIte, Nat.reduceEqDiff, Nat.reduceAdd, Nat.reduceMul, Nat.reduceBEq, Option.getD_none, Int.reduceToNat, Nat.reduceSub, Nat.reduceLT, Nat.reduceLeDiff, Int.reduceLE, Int.reduceLT, reduceCtorEq, k0], v, by simp only [go_sem, ↓reduceIte, Nat.reduceEqDiff, Nat.reduceAdd, Nat.reduceMul, Nat.reduceBEq, Option.getD_none, Int.reduceToNat, Nat.reduceSub, Nat.reduceLT, Nat.reduceLeDiff, Int.reduceLE, Int.reduceLT, reduceCtorEq, h3, k0], by simp only [go_sem, ↓reduceIte, Nat.reduceEqDiff, Nat.reduceAdd, Nat.reduceMul, Nat.reduceBEq, Option.getD_none, Int.reduceToNat, Nat.reduceSub, Nat.reduceLT, Nat.reduceLeDiff, Int.reduceLE, Int.reduceLT, reduceCtorEq, k0]; rw [← fill_set hlt]⟩
  · have hi' : ¬ (k : Int) < x.length := by omega
    obtain rfl : k = x.length := by omega
    have hlen := fill_len (f := Bb) (z := (Bb false)) (Nat.le_refl x.length)
    simp only [go_sem, ↓reduceIte, Nat.reduceEqDiff, Nat.reduceAdd, Nat.reduceMul, Nat.reduceBEq, Option.getD_none, Int.reduceToNat, Nat.reduceSub, Nat.reduceLT, Nat.reduceLeDiff, Int.reduceLE, Int.reduceLT, reduceCtorEq, h4, h3, hi', hm, hlen, k0]
    simp only [fill_all, mkR_one, take_map_len]
theorem laws_eqStretchS.fcu (x : List (Int × Int)) (h : x.length ≤ 1048576) :
    FCt prog F_laws_eqStretchS [.ro, .ro] [strs x, strs x] (Bb true) [] := by
  refine fct_run laws_eqStretchS.ok rfl ?_
  have h0 := h
  simp only [go_sem, ↓reduceIte, Nat.reduceEqDiff, Nat.reduceAdd, Nat.reduceMul, Nat.reduceBEq, Option.getD_none, Int.reduceToNat, Nat.reduceSub, Nat.reduceLT, Nat.reduceLeDiff, Int.reduceLE, Int.reduceLT, reduceCtorEq]
  refine R_loop (α := Nat) (fun k s' M' => k ≤ x.length ∧ s' 5 = aI k) (fun k => x.length - k) 0 ⟨by omega, by simp only [go_sem, ↓reduceIte, Nat.reduceEqDiff, Nat.reduceAdd, Nat.reduceMul, Nat.reduceBEq, Option.getD_none, Int.reduceToNat, Nat.reduceSub, Nat.reduceLT, Nat.reduceLeDiff, Int.reduceLE, Int.reduceLT, reduceCtorEq]; rfl⟩ ?_
  rintro k s' M' ⟨hk, h5⟩ ho
  unfold laws_eqStretchS.b0
  have k0 : s' 0 = .dat none (strs x) := by rw [ho 0 rfl]; simp only [go_sem, ↓reduceIte, Nat.reduceEqDiff, Nat.reduceAdd, Nat.reduceMul, Nat.reduceBEq, Option.getD_none, Int.reduceToNat, Nat.reduceSub, Nat.reduceLT, Nat.reduceLeDiff, Int.reduceLE, Int.reduceLT, reduceCtorEq]
  have k1 : s' 1 = .dat none (strs x) := by rw [ho 1 rfl]; simp only [go_sem, ↓reduceIte, Nat.reduceEqDiff, Nat.reduceAdd, Nat.reduceMul, Nat.reduceBEq, Option.getD_none, Int.reduceToNat, Nat.reduceSub, Nat.reduceLT, Nat.reduceLeDiff, Int.reduceLE, Int.reduceLT, reduceCtorEq]
  clear ho
  by_cases hlt : k < x.length
  · have hi' : (k : Int) < x.length := by omega
    have ga : x[k]? = some x[k] := List.getElem?_eq_getElem hlt
    have hw : IntKind.i64.wrap (k + 1) = ((k + 1 : Nat) : Int) := wrap_k hlt (by omega)
    simp only [go_sem, ↓reduceIte, Nat.reduceEqDiff, Nat.reduceAdd, Nat.reduceMul, Nat.reduceBEq, Option.getD_none, Int.reduceToNat, Nat.reduceSub, Nat.reduceLT, Nat.reduceLeDiff, Int.reduceLE, Int.reduceLT, reduceCtorEq, h5, hi', ga, hw, k0, k1]
    refine fcW_bool (laws_eqStretch.fcu _) ?_
    simp only [go_sem, ↓reduceIte, Nat.reduceEqDiff, Nat.reduceAdd, Nat.reduceMul, Nat.reduceBEq, Option.getD_none, Int.reduceToNat, Nat.reduceSub, Nat.reduceLT, Nat.reduceLeDiff, Int.reduceLE, Int.reduceLT, reduceCtorEq, h5, hw, k0, k1]
    exact ⟨k + 1, by dsimp only; omega, by omega, by simp only [go_sem, ↓reduceIte, Nat.reduceEqDiff, Nat.reduceAdd, Nat.reduceMul, Nat.reduceBEq, Option.getD_none, Int.reduceToNat, Nat.reduceSub, Nat.reduceLT, Nat.reduceLeDiff, Int.reduceLE, Int.reduceLT, reduceCtorEq, k0, k1]⟩
  · have hi' : ¬ (k : Int) < x.length := by omega
    obtain rfl : k = x.length := by omega
    simp only [go_sem, ↓reduceIte, Nat.reduceEqDiff, Nat.reduceAdd, Nat.reduceMul, Nat.reduceBEq, Option.getD_none, Int.reduceToNat, Nat.reduceSub, Nat.reduceLT, Nat.reduceLeDiff, Int.reduceLE, Int.reduceLT, reduceCtorEq, h5, hi', k0, k1]
theorem laws_eqKnownS.fcu (x : List (Int × Int)) (h : x.length ≤ 1048576) :
    FCt prog F_laws_eqKnownS [.ro, .ro] [knowns x, knowns x] (Bb true) [] := by
  refine fct_run laws_eqKnownS.ok rfl ?_
  have h0 := h
  simp only [go_sem, ↓reduceIte, Nat.reduceEqDiff, Nat.reduceAdd, Nat.reduceMul, Nat.reduceBEq, Option.getD_none, Int.reduceToNat, Nat.reduceSub, Nat.reduceLT, Nat.reduceLeDiff, Int.reduceLE, Int.reduceLT, reduceCtorEq]
  refine R_loop (α := Nat) (fun k s' M' => k ≤ x.length ∧ s' 5 = aI k) (fun k => x.length - k) 0 ⟨by omega, by simp only [go_sem, ↓reduceIte, Nat.reduceEqDiff, Nat.reduceAdd, Nat.reduceMul, Nat.reduceBEq, Option.getD_none, Int.reduceToNat, Nat.reduceSub, Nat.reduceLT, Nat.reduceLeDiff, Int.reduceLE, Int.reduceLT, reduceCtorEq]; rfl⟩ ?_
  rintro k s' M' ⟨hk, h5⟩ ho
  unfold laws_eqKnownS.b0
  have k0 : s' 0 = .dat none (knowns x) := by rw [ho 0 rfl]; simp only [go_sem, ↓reduceIte, Nat.reduceEqDiff, Nat.reduceAdd, Nat.reduceMul, Nat.reduceBEq, Option.getD_none, Int.reduceToNat, Nat.reduceSub, Nat.reduceLT, Nat.reduceLeDiff, Int.reduceLE, Int.reduceLT, reduceCtorEq]
  have k1 : s' 1 = .dat none (knowns x) := by rw [ho 1 rfl]; simp only [go_sem, ↓reduceIte, Nat.reduceEqDiff, Nat.reduceAdd, Nat.reduceMul, Nat.reduceBEq, Option.getD_none, Int.reduceToNat, Nat.reduceSub, Nat.reduceLT, Nat.reduceLeDiff, Int.reduceLE, Int.reduceLT, reduceCtorEq]
  clear ho
  by_cases hlt : k < x.length
  · have hi' : (k : Int) < x.length := by omega
    have ga : x[k]? = some x[k] := List.getElem?_eq_getElem hlt
    have hw : IntKind.i64.wrap (k + 1) = ((k + 1 : Nat) : Int) := wrap_k hlt (by omega)
    simp only [go_sem, ↓reduceIte, Nat.reduceEqDiff, Nat.reduceAdd, Nat.reduceMul, Nat.reduceBEq, Option.getD_none, Int.reduceToNat, Nat.reduceSub, Nat.reduceLT, Nat.reduceLeDiff, Int.reduceLE, Int.reduceLT, reduceCtorEq, h5, hi', ga, hw, k0, k1]
    refine fcW_bool (laws_eqKnown.fcu _) ?_
    simp only [go_sem, ↓reduceIte, Nat.reduceEqDiff, Nat.reduceAdd, Nat.reduceMul, Nat.reduceBEq, Option.getD_none, Int.reduceToNat, Nat.reduceSub, Nat.reduceLT, Nat.reduceLeDiff, Int.reduceLE, Int.reduceLT, reduceCtorEq, h5, hw, k0, k1]
    exact ⟨k + 1, by dsimp only; omega, by omega, by simp only [go_sem, ↓reduceIte, Nat.reduceEqDiff, Nat.reduceAdd, Nat.reduceMul, Nat.reduceBEq, Option.getD_none, Int.reduceToNat, Nat.reduceSub, Nat.reduceLT, Nat.reduceLeDiff, Int.reduceLE, Int.reduceLT, reduceCtorEq, k0, k1]⟩
  · have hi' : ¬ (k : Int) < x.length := by omega
    obtain rfl : k = x.length := by omega
    simp only [go_sem, ↓reduceIte, Nat.reduceEqDiff, Nat.reduceAdd, Nat.reduceMul, Nat.reduceBEq, Option.getD_none, Int.reduceToNat, Nat.reduceSub, Nat.reduceLT, Nat.reduceLeDiff, Int.reduceLE, Int.reduceLT, reduceCtorEq, h5, hi', k0, k1]
theorem laws_eqBoolS.fcu (x : List Bool) (h : x.length ≤ 1048576) :
    FCt prog F_laws_eqBoolS [.ro, .ro] [bools x, bools x] (Bb true) [] := by
  refine fct_run laws_eqBoolS.ok rfl ?_
  have h0 := h
  simp only [go_sem, ↓reduceIte, Nat.reduceEqDiff, Nat.reduceAdd, Nat.reduceMul, Nat.reduceBEq, Option.getD_none, Int.reduceToNat, Nat.reduceSub, Nat.reduceLT, Nat.reduceLeDiff, Int.reduceLE, Int.reduceLT, reduceCtorEq]
  refine R_loop (α := Nat) (fun k s' M' => k ≤ x.length ∧ s' 5 = aI k) (fun k => x.length - k) 0 ⟨by omega, by simp only [go_sem, ↓reduceIte, Nat.reduceEqDiff, Nat.reduceAdd, Nat.reduceMul, Nat.reduceBEq, Option.getD_none, Int.reduceToNat, Nat.reduceSub, Nat.reduceLT, Nat.reduceLeDiff, Int.reduceLE, Int.reduceLT, reduceCtorEq]; rfl⟩ ?_
  rintro k s' M' ⟨hk, h5⟩ ho
  unfold laws_eqBoolS.b0
  have k0 : s' 0 = .dat none (bools x) := by rw [ho 0 rfl]; simp only [go_sem, ↓reduceIte, Nat.reduceEqDiff, Nat.reduceAdd, Nat.reduceMul, Nat.reduceBEq, Option.getD_none, Int.reduceToNat, Nat.reduceSub, Nat.reduceLT, Nat.reduceLeDiff, Int.reduceLE, Int.reduceLT, reduceCtorEq]
  have k1 : s' 1 = .dat none (bools x) := by rw [ho 1 rfl]; simp only [go_sem, ↓reduceIte, Nat.reduceEqDiff, Nat.reduceAdd, Nat.reduceMul, Nat.reduceBEq, Option.getD_none, Int.reduceToNat, Nat.reduceSub, Nat.reduceLT, Nat.reduceLeDiff, Int.reduceLE, Int.reduceLT, reduceCtorEq]
  clear ho
  by_cases hlt : k < x.length
  · have hi' : (k : Int) < x.length := by omega
    have ga : x[k]? = some x[k] := List.getElem?_eq_getElem hlt
    have hw : IntKind.i64.wrap (k + 1) = ((k + 1 : Nat) : Int) := wrap_k hlt (by omega)
    have hbb : (x[k] == x[k]) = true := by simp
    simp only [go_sem, ↓reduceIte, Nat.reduceEqDiff, Nat.reduceAdd, Nat.reduceMul, Nat.reduceBEq, Option.getD_none, Int.reduceToNat, Nat.reduceSub, Nat.reduceLT, Nat.reduceLeDiff, Int.reduceLE, Int.reduceLT, reduceCtorEq, h5, hi', ga, hw, hbb, k0, k1]
    exact ⟨k + 1, by dsimp only; omega, by omega, by simp only [go_sem, ↓reduceIte, Nat.reduceEqDiff, Nat.reduceAdd, Nat.reduceMul, Nat.reduceBEq, Option.getD_none, Int.reduceToNat, Nat.reduceSub, Nat.reduceLT, Nat.reduceLeDiff, Int.reduceLE, Int.reduceLT, reduceCtorEq, k0, k1]⟩
  · have hi' : ¬ (k : Int) < x.length := by omega
    obtain rfl : k = x.length := by omega
    simp only [go_sem, ↓reduceIte, Nat.reduceEqDiff, Nat.reduceAdd, Nat.reduceMul, Nat.reduceBEq, Option.getD_none, Int.reduceToNat, Nat.reduceSub, Nat.reduceLT, Nat.reduceLeDiff, Int.reduceLE, Int.reduceLT, reduceCtorEq, h5, hi', k0, k1]
theorem laws_szStretchS.fcu (x : List (Int × Int)) (n : Int) (hn : 0 ≤ n ∧ n ≤ 1048576) (hw : x.length ≤ 9223372036854775807) :
    FCt prog F_laws_szStretchS [.ro, .ro] [strs x, Ii n] (Ii (if n < (x.length : Nat) then -1 else n - (x.length : Nat))) [] := by
  refine fct_run laws_szStretchS.ok rfl ?_
  have hx : IntKind.i64.wrap (n - x.length) = n - x.length := wrap_in (by omega) (by omega)
  by_cases h : n < (x.length : Nat)
  · have h' : n - x.length < 0 := by omega
    simp only [go_sem, ↓reduceIte, Nat.reduceEqDiff, Nat.reduceAdd, Nat.reduceMul, Nat.reduceBEq, Option.getD_none, Int.reduceToNat, Nat.reduceSub, Nat.reduceLT, Nat.reduceLeDiff, Int.reduceLE, Int.reduceLT, reduceCtorEq, hx, h, h']
  · have h' : ¬ n - x.length < 0 := by omega
    simp only [go_sem, ↓reduceIte, Nat.reduceEqDiff, Nat.reduceAdd, Nat.reduceMul, Nat.reduceBEq, Option.getD_none, Int.reduceToNat, Nat.reduceSub, Nat.reduceLT, Nat.reduceLeDiff, Int.reduceLE, Int.reduceLT, reduceCtorEq, hx, h, h']
theorem laws_szKnownS.fcu (x : List (Int × Int)) (n : Int) (hn : 0 ≤ n ∧ n ≤ 1048576) (hw : x.length ≤ 9223372036854775807) :
    FCt prog F_laws_szKnownS [.ro, .ro] [knowns x, Ii n] (Ii (if n < (x.length : Nat) then -1 else n - (x.length : Nat))) [] := by
  refine fct_run laws_szKnownS.ok rfl ?_
  have hx : IntKind.i64.wrap (n - x.length) = n - x.length := wrap_in (by omega) (by omega)
  by_cases h : n < (x.length : Nat)
  · have h' : n - x.length < 0 := by omega
    simp only [go_sem, ↓reduceIte, Nat.reduceEqDiff, Nat.reduceAdd, Nat.reduceMul, Nat.reduceBEq, Option.getD_none, Int.reduceToNat, Nat.reduceSub, Nat.reduceLT, Nat.reduceLeDiff, Int.reduceLE, Int.reduceLT, reduceCtorEq, hx, h, h']
  · have h' : ¬ n - x.length < 0 := by omega
    simp only [go_sem, ↓reduceIte, Nat.reduceEqDiff, Nat.reduceAdd, Nat.reduceMul, Nat.reduceBEq, Option.getD_none, Int.reduceToNat, Nat.reduceSub, Nat.reduceLT, Nat.reduceLeDiff, Int.reduceLE, Int.reduceLT, reduceCtorEq, hx, h, h']
theorem laws_szBoolS.fcu (x : List Bool) (n : Int) (hn : 0 ≤ n ∧ n ≤ 1048576) (hw : x.length ≤ 9223372036854775807) :
    FCt prog F_laws_szBoolS [.ro, .ro] [bools x, Ii n] (Ii (if n < (x.length : Nat) then -1 else n - (x.length : Nat))) [] := by
  refine fct_run laws_szBoolS.ok rfl ?_
  have hx : IntKind.i64.wrap (n - x.length) = n - x.length := wrap_in (by omega) (by omega)
  by_cases h : n < (x.length : Nat)
  · have h' : n - x.length < 0 := by omega
    simp only [go_sem, ↓reduceIte, Nat.reduceEqDiff, Nat.reduceAdd, Nat.reduceMul, Nat.reduceBEq, Option.getD_none, Int.reduceToNat, Nat.reduceSub, Nat.reduceLT, Nat.reduceLeDiff, Int.reduceLE, Int.reduceLT, reduceCtorEq, hx, h, h']
  · have h' : ¬ n - x.length < 0 := by omega
    simp only [go_sem, ↓reduceIte, Nat.reduceEqDiff, Nat.reduceAdd, Nat.reduceMul, Nat.reduceBEq, Option.getD_none, Int.reduceToNat, Nat.reduceSub, Nat.reduceLT, Nat.reduceLeDiff, Int.reduceLE, Int.reduceLT, reduceCtorEq, hx, h, h']

structure MayD where
  reg : List (Int × Int)
  bits : List (Int × Int)
  cell : List (Int × Int)
  isset : List Bool
  deriving DecidableEq
abbrev MayD.d (x : MayD) : D := .agg [strs x.reg, knowns x.bits, strs x.cell, bools x.isset]
abbrev TyMay : Ty := .st [(.sl TyStretch), (.sl TyKnown), (.sl TyStretch), (.sl .bool)]
theorem noRs_May {x : MayD} : noRs (MayD.d x) = true := noRs_agg fun d hd => by
  rcases List.mem_cons.1 hd with rfl | hd
  · exact noRs_strs
  rcases List.mem_cons.1 hd with rfl | hd
  · exact noRs_knowns
  rcases List.mem_cons.1 hd with rfl | hd
  · exact noRs_strs
  rcases List.mem_cons.1 hd with rfl | hd
  · exact noRs_bools
  cases hd
def wMay (x : MayD) : Nat := x.reg.length + x.bits.length + x.cell.length + x.isset.length
def wfMay (x : MayD) : Prop := x.reg.length ≤ 9223372036854775807 ∧ x.bits.length ≤ 9223372036854775807 ∧ x.cell.length ≤ 9223372036854775807 ∧ x.isset.length ≤ 9223372036854775807
theorem hasMay {d : D} (h : HasTy TyMay d) : ∃ x : MayD, d = MayD.d x ∧ wfMay x := by
  simp only [HasTy] at h
  obtain ⟨ys, rfl, h⟩ := h
  simp only [HasTys] at h
  obtain ⟨d0, s0, rfl, h0, d1, s1, rfl, h1, d2, s2, rfl, h2, d3, s3, rfl, h3, rfl⟩ := h
  obtain ⟨x0, rfl, w0⟩ := hasStretchS h0
  obtain ⟨x1, rfl, w1⟩ := hasKnownS h1
  obtain ⟨x2, rfl, w2⟩ := hasStretchS h2
  obtain ⟨x3, rfl, w3⟩ := hasBoolS h3
  exact ⟨⟨x0, x1, x2, x3⟩, rfl, ⟨w0, w1, w2, w3⟩⟩
theorem laws_toMay.fcu (x : MayD) (h : wMay x ≤ 1048576) :
    FCt prog F_laws_toMay [.ro] [MayD.d x] (MayD.d x) [] := by
  refine fct_run laws_toMay.ok rfl ?_
  have h := h
  unfold wMay at h
  simp only [go_sem, ↓reduceIte, Nat.reduceEqDiff, Nat.reduceAdd, Nat.reduceMul, Nat.reduceBEq, Option.getD_none, Int.reduceToNat, Nat.reduceSub, Nat.reduceLT, Nat.reduceLeDiff, Int.reduceLE, Int.reduceLT, reduceCtorEq]
  refine fcW_bd (laws_toStretchS.fcu x.reg (by omega)) noRs_strs ?_
  simp only [go_sem, ↓reduceIte, Nat.reduceEqDiff, Nat.reduceAdd, Nat.reduceMul, Nat.reduceBEq, Option.getD_none, Int.reduceToNat, Nat.reduceSub, Nat.reduceLT, Nat.reduceLeDiff, Int.reduceLE, Int.reduceLT, reduceCtorEq, take_map_len]
  refine fcW_bd (laws_toKnownS.fcu x.bits (by omega)) noRs_knowns ?_
  simp only [go_sem, ↓reduceIte, Nat.reduceEqDiff, Nat.reduceAdd, Nat.reduceMul, Nat.reduceBEq, Option.getD_none, Int.reduceToNat, Nat.reduceSub, Nat.reduceLT, Nat.reduceLeDiff, Int.reduceLE, Int.reduceLT, reduceCtorEq, take_map_len]
  refine fcW_bd (laws_toStretchS.fcu x.cell (by omega)) noRs_strs ?_
  simp only [go_sem, ↓reduceIte, Nat.reduceEqDiff, Nat.reduceAdd, Nat.reduceMul, Nat.reduceBEq, Option.getD_none, Int.reduceToNat, Nat.reduceSub, Nat.reduceLT, Nat.reduceLeDiff, Int.reduceLE, Int.reduceLT, reduceCtorEq, take_map_len]
  refine fcW_bd (laws_toBoolS.fcu x.isset (by omega)) noRs_bools ?_
  simp only [go_sem, ↓reduceIte, Nat.reduceEqDiff, Nat.reduceAdd, Nat.reduceMul, Nat.reduceBEq, Option.getD_none, Int.reduceToNat, Nat.reduceSub, Nat.reduceLT, Nat.reduceLeDiff, Int.reduceLE, Int.reduceLT, reduceCtorEq, take_map_len]
theorem laws_eqMay.fcu (x : MayD) (h : wMay x ≤ 1048576) :
    FCt prog F_laws_eqMay [.ro, .ro] [MayD.d x, MayD.d x] (Bb true) [] := by
  refine fct_run laws_eqMay.ok rfl ?_
  unfold wMay at h
  simp only [go_sem, ↓reduceIte, Nat.reduceEqDiff, Nat.reduceAdd, Nat.reduceMul, Nat.reduceBEq, Option.getD_none, Int.reduceToNat, Nat.reduceSub, Nat.reduceLT, Nat.reduceLeDiff, Int.reduceLE, Int.reduceLT, reduceCtorEq]
  refine fcW_bool (laws_eqStretchS.fcu x.reg (by omega)) ?_
  simp only [go_sem, ↓reduceIte, Nat.reduceEqDiff, Nat.reduceAdd, Nat.reduceMul, Nat.reduceBEq, Option.getD_none, Int.reduceToNat, Nat.reduceSub, Nat.reduceLT, Nat.reduceLeDiff, Int.reduceLE, Int.reduceLT, reduceCtorEq]
  refine fcW_bool (laws_eqKnownS.fcu x.bits (by omega)) ?_
  simp only [go_sem, ↓reduceIte, Nat.reduceEqDiff, Nat.reduceAdd, Nat.reduceMul, Nat.reduceBEq, Option.getD_none, Int.reduceToNat, Nat.reduceSub, Nat.reduceLT, Nat.reduceLeDiff, Int.reduceLE, Int.reduceLT, reduceCtorEq]
  refine fcW_bool (laws_eqStretchS.fcu x.cell (by omega)) ?_
  simp only [go_sem, ↓reduceIte, Nat.reduceEqDiff, Nat.reduceAdd, Nat.reduceMul, Nat.reduceBEq, Option.getD_none, Int.reduceToNat, Nat.reduceSub, Nat.reduceLT, Nat.reduceLeDiff, Int.reduceLE, Int.reduceLT, reduceCtorEq]
  refine fcW_bool (laws_eqBoolS.fcu x.isset (by omega)) ?_
  simp only [go_sem, ↓reduceIte, Nat.reduceEqDiff, Nat.reduceAdd, Nat.reduceMul, Nat.reduceBEq, Option.getD_none, Int.reduceToNat, Nat.reduceSub, Nat.reduceLT, Nat.reduceLeDiff, Int.reduceLE, Int.reduceLT, reduceCtorEq]
theorem laws_szMay.fcu (x : MayD) (n : Int) (hn : 0 ≤ n ∧ n ≤ 1048576) (hw : wfMay x) :
    FCt prog F_laws_szMay [.ro, .ro] [MayD.d x, Ii n] (Ii (if n < (wMay x : Nat) then -1 else n - (wMay x : Nat))) [] := by
  refine fct_run laws_szMay.ok rfl ?_
  unfold wMay
  obtain ⟨hw0, hw1, hw2, hw3⟩ := hw
  simp only [go_sem, ↓reduceIte, Nat.reduceEqDiff, Nat.reduceAdd, Nat.reduceMul, Nat.reduceBEq, Option.getD_none, Int.reduceToNat, Nat.reduceSub, Nat.reduceLT, Nat.reduceLeDiff, Int.reduceLE, Int.reduceLT, reduceCtorEq]
  refine fcW_int (laws_szStretchS.fcu x.reg _ (by omega) hw0) ?_
  by_cases g0 : n < (x.reg.length : Nat)
  · have e : n < ((x.reg.length + x.bits.length + x.cell.length + x.isset.length : Nat) : Int) := by omega
    simp only [go_sem, ↓reduceIte, Nat.reduceEqDiff, Nat.reduceAdd, Nat.reduceMul, Nat.reduceBEq, Option.getD_none, Int.reduceToNat, Nat.reduceSub, Nat.reduceLT, Nat.reduceLeDiff, Int.reduceLE, Int.reduceLT, reduceCtorEq, if_pos g0, if_pos e]
  have e0 : ¬ (n - (x.reg.length : Nat) < 0) := by omega
  rw [if_neg g0]
  simp only [go_sem, ↓reduceIte, Nat.reduceEqDiff, Nat.reduceAdd, Nat.reduceMul, Nat.reduceBEq, Option.getD_none, Int.reduceToNat, Nat.reduceSub, Nat.reduceLT, Nat.reduceLeDiff, Int.reduceLE, Int.reduceLT, reduceCtorEq, e0]
  refine fcW_int (laws_szKnownS.fcu x.bits _ (by omega) hw1) ?_
  by_cases g1 : n - (x.reg.length : Nat) < (x.bits.length : Nat)
  · have e : n < ((x.reg.length + x.bits.length + x.cell.length + x.isset.length : Nat) : Int) := by omega
    simp only [go_sem, ↓reduceIte, Nat.reduceEqDiff, Nat.reduceAdd, Nat.reduceMul, Nat.reduceBEq, Option.getD_none, Int.reduceToNat, Nat.reduceSub, Nat.reduceLT, Nat.reduceLeDiff, Int.reduceLE, Int.reduceLT, reduceCtorEq, if_pos g1, if_pos e, e0]
  have e1 : ¬ (n - (x.reg.length : Nat) - (x.bits.length : Nat) < 0) := by omega
  rw [if_neg g1]
  simp only [go_sem, ↓reduceIte, Nat.reduceEqDiff, Nat.reduceAdd, Nat.reduceMul, Nat.reduceBEq, Option.getD_none, Int.reduceToNat, Nat.reduceSub, Nat.reduceLT, Nat.reduceLeDiff, Int.reduceLE, Int.reduceLT, reduceCtorEq, e0, e1]
  refine fcW_int (laws_szStretchS.fcu x.cell _ (by omega) hw2) ?_
  by_cases g2 : n - (x.reg.length : Nat) - (x.bits.length : Nat) < (x.cell.length : Nat)
  · have e : n < ((x.reg.length + x.bits.length + x.cell.length + x.isset.length : Nat) : Int) := by omega
    simp only [go_sem, ↓reduceIte, Nat.reduceEqDiff, Nat.reduceAdd, Nat.reduceMul, Nat.reduceBEq, Option.getD_none, Int.reduceToNat, Nat.reduceSub, Nat.reduceLT, Nat.reduceLeDiff, Int.reduceLE, Int.reduceLT, reduceCtorEq, if_pos g2, if_pos e, e0, e1]
  have e2 : ¬ (n - (x.reg.length : Nat) - (x.bits.length : Nat) - (x.cell.length : Nat) < 0) := by omega
  rw [if_neg g2]
  simp only [go_sem, ↓reduceIte, Nat.reduceEqDiff, Nat.reduceAdd, Nat.reduceMul, Nat.reduceBEq, Option.getD_none, Int.reduceToNat, Nat.reduceSub, Nat.reduceLT, Nat.reduceLeDiff, Int.reduceLE, Int.reduceLT, reduceCtorEq, e0, e1, e2]
  refine fcW_int (laws_szBoolS.fcu x.isset _ (by omega) hw3) ?_
  by_cases g3 : n - (x.reg.length : Nat) - (x.bits.length : Nat) - (x.cell.length : Nat) < (x.isset.length : Nat)
  · have e : n < ((x.reg.length + x.bits.length + x.cell.length + x.isset.length : Nat) : Int) := by omega
    simp only [go_sem, ↓reduceIte, Nat.reduceEqDiff, Nat.reduceAdd, Nat.reduceMul, Nat.reduceBEq, Option.getD_none, Int.reduceToNat, Nat.reduceSub, Nat.reduceLT, Nat.reduceLeDiff, Int.reduceLE, Int.reduceLT, reduceCtorEq, if_pos g3, if_pos e, e0, e1, e2]
  have e3 : ¬ (n - (x.reg.length : Nat) - (x.bits.length : Nat) - (x.cell.length : Nat) - (x.isset.length : Nat) < 0) := by omega
  rw [if_neg g3]
  have e : ¬ n < ((x.reg.length + x.bits.length + x.cell.length + x.isset.length : Nat) : Int) := by omega
  have e2 : n - ((x.reg.length + x.bits.length + x.cell.length + x.isset.length : Nat) : Int) = n - (x.reg.length : Nat) - (x.bits.length : Nat) - (x.cell.length : Nat) - (x.isset.length : Nat) := by omega
  first | rw [if_neg e, e2] | skip
  simp only [go_sem, ↓reduceIte, Nat.reduceEqDiff, Nat.reduceAdd, Nat.reduceMul, Nat.reduceBEq, Option.getD_none, Int.reduceToNat, Nat.reduceSub, Nat.reduceLT, Nat.reduceLeDiff, Int.reduceLE, Int.reduceLT, reduceCtorEq, e0, e1, e2, e3]
end Go.Vm.Ytmicgdfekpoajaa
/- Walks: good may-states. -/
namespace Go.Vm.Ytmicgdfekpoajaa
open Go Go.Vm
set_option maxRecDepth 10000
set_option linter.unusedSimpArgs false
set_option linter.unusedVariables false

theorem slices_IndexFunc__sStretch_Stretch.fc (l : List (Int × Int)) (f : FuncId) (caps : List D) (p : (Int × Int) → Bool) (hl : l.length ≤ 4294967296)
    (h : ∀ x ∈ l, FCt prog f (.ro :: caps.map fun _ => .ro) (strD x :: caps) (Bb (p x)) []) : FCt prog F_slices_IndexFunc__sStretch_Stretch [.ro, .ro] [strs l, .clo f caps] (Ii (idxB p l)) [] := by
  refine fct_run slices_IndexFunc__sStretch_Stretch.ok rfl ?_
  simp only [go_sem, ↓reduceIte, Nat.reduceEqDiff, Nat.reduceAdd, Nat.reduceMul, Nat.reduceBEq, Option.getD_none, Int.reduceToNat, Nat.reduceSub, Nat.reduceLT, Nat.reduceLeDiff, Int.reduceLE, Int.reduceLT, reduceCtorEq]
  refine R_loop (α := Nat) (fun k s' M' => k ≤ l.length ∧ s' 8 = aI k ∧ (l.take k).all (fun x => !p x) = true) (fun k => l.length - k) 0 ⟨by omega, by simp only [go_sem, ↓reduceIte, Nat.reduceEqDiff, Nat.reduceAdd, Nat.reduceMul, Nat.reduceBEq, Option.getD_none, Int.reduceToNat, Nat.reduceSub, Nat.reduceLT, Nat.reduceLeDiff, Int.reduceLE, Int.reduceLT, reduceCtorEq]; rfl, by simp⟩ ?_
  rintro k s' M' ⟨hk, h8, hr⟩ ho
  have h0 : s' 0 = .dat none (strs l) := by rw [ho 0 rfl]; simp only [go_sem, ↓reduceIte, Nat.reduceEqDiff, Nat.reduceAdd, Nat.reduceMul, Nat.reduceBEq, Option.getD_none, Int.reduceToNat, Nat.reduceSub, Nat.reduceLT, Nat.reduceLeDiff, Int.reduceLE, Int.reduceLT, reduceCtorEq]
  have h1 : s' 1 = .clo f (caps.map bindC) := by rw [ho 1 rfl]; simp only [go_sem, ↓reduceIte, Nat.reduceEqDiff, Nat.reduceAdd, Nat.reduceMul, Nat.reduceBEq, Option.getD_none, Int.reduceToNat, Nat.reduceSub, Nat.reduceLT, Nat.reduceLeDiff, Int.reduceLE, Int.reduceLT, reduceCtorEq]
  have h7 : s' 7 = aI l.length := by rw [ho 7 rfl]; simp only [go_sem, ↓reduceIte, Nat.reduceEqDiff, Nat.reduceAdd, Nat.reduceMul, Nat.reduceBEq, Option.getD_none, Int.reduceToNat, Nat.reduceSub, Nat.reduceLT, Nat.reduceLeDiff, Int.reduceLE, Int.reduceLT, reduceCtorEq]
  clear ho
  unfold slices_IndexFunc__sStretch_Stretch.b0
  by_cases hlt : k < l.length
  · have hi' : (k : Int) < l.length := by omega
    have ga : l[k]? = some l[k] := List.getElem?_eq_getElem hlt
    have hw : IntKind.i64.wrap (k + 1) = ((k + 1 : Nat) : Int) := wrap_k hlt (by omega)
    simp only [go_sem, ↓reduceIte, Nat.reduceEqDiff, Nat.reduceAdd, Nat.reduceMul, Nat.reduceBEq, Option.getD_none, Int.reduceToNat, Nat.reduceSub, Nat.reduceLT, Nat.reduceLeDiff, Int.reduceLE, Int.reduceLT, reduceCtorEq, h0, h1, h7, h8, hi', ga]
    refine ccl_ro (ds := [strD l[k]]) (by simp only [go_sem, ↓reduceIte, Nat.reduceEqDiff, Nat.reduceAdd, Nat.reduceMul, Nat.reduceBEq, Option.getD_none, Int.reduceToNat, Nat.reduceSub, Nat.reduceLT, Nat.reduceLeDiff, Int.reduceLE, Int.reduceLT, reduceCtorEq]) ?_
    refine fcW_bool (h _ (List.getElem_mem hlt)) ?_
    cases hp : p l[k] with
    | true => simp only [go_sem, ↓reduceIte, Nat.reduceEqDiff, Nat.reduceAdd, Nat.reduceMul, Nat.reduceBEq, Option.getD_none, Int.reduceToNat, Nat.reduceSub, Nat.reduceLT, Nat.reduceLeDiff, Int.reduceLE, Int.reduceLT, reduceCtorEq, idxB_some hlt hr hp]
    | false =>
      simp only [go_sem, ↓reduceIte, Nat.reduceEqDiff, Nat.reduceAdd, Nat.reduceMul, Nat.reduceBEq, Option.getD_none, Int.reduceToNat, Nat.reduceSub, Nat.reduceLT, Nat.reduceLeDiff, Int.reduceLE, Int.reduceLT, reduceCtorEq, h8, hw]
      exact ⟨k + 1, by dsimp only; omega, by omega, by simp only [go_sem, ↓reduceIte, Nat.reduceEqDiff, Nat.reduceAdd, Nat.reduceMul, Nat.reduceBEq, Option.getD_none, Int.reduceToNat, Nat.reduceSub, Nat.reduceLT, Nat.reduceLeDiff, Int.reduceLE, Int.reduceLT, reduceCtorEq], all_take hlt hr (by simp [hp])⟩
  · have hi' : ¬ (k : Int) < l.length := by omega
    rw [List.take_of_length_le (by omega)] at hr
    simp only [go_sem, ↓reduceIte, Nat.reduceEqDiff, Nat.reduceAdd, Nat.reduceMul, Nat.reduceBEq, Option.getD_none, Int.reduceToNat, Nat.reduceSub, Nat.reduceLT, Nat.reduceLeDiff, Int.reduceLE, Int.reduceLT, reduceCtorEq, h0, h1, h7, h8, hi', idxB_none hr]
theorem slices_ContainsFunc__sStretch_Stretch.fc (l : List (Int × Int)) (f : FuncId) (caps : List D) (p : (Int × Int) → Bool) (hl : l.length ≤ 4294967296)
    (h : ∀ x ∈ l, FCt prog f (.ro :: caps.map fun _ => .ro) (strD x :: caps) (Bb (p x)) []) : FCt prog F_slices_ContainsFunc__sStretch_Stretch [.ro, .ro] [strs l, .clo f caps] (Bb (l.any p)) [] := by
  refine fct_run slices_ContainsFunc__sStretch_Stretch.ok rfl ?_
  simp only [go_sem, ↓reduceIte, Nat.reduceEqDiff, Nat.reduceAdd, Nat.reduceMul, Nat.reduceBEq, Option.getD_none, Int.reduceToNat, Nat.reduceSub, Nat.reduceLT, Nat.reduceLeDiff, Int.reduceLE, Int.reduceLT, reduceCtorEq]
  refine fcW_int (slices_IndexFunc__sStretch_Stretch.fc l f caps p hl h) ?_
  simp only [go_sem, ↓reduceIte, Nat.reduceEqDiff, Nat.reduceAdd, Nat.reduceMul, Nat.reduceBEq, Option.getD_none, Int.reduceToNat, Nat.reduceSub, Nat.reduceLT, Nat.reduceLeDiff, Int.reduceLE, Int.reduceLT, reduceCtorEq, ge_iff_le, idxB_any]

theorem slices_IndexFunc__sKnown_Known.fc (l : List (Int × Int)) (f : FuncId) (caps : List D) (p : (Int × Int) → Bool) (hl : l.length ≤ 4294967296)
    (h : ∀ x ∈ l, FCt prog f (.ro :: caps.map fun _ => .ro) (knownD x :: caps) (Bb (p x)) []) : FCt prog F_slices_IndexFunc__sKnown_Known [.ro, .ro] [knowns l, .clo f caps] (Ii (idxB p l)) [] := by
  refine fct_run slices_IndexFunc__sKnown_Known.ok rfl ?_
  simp only [go_sem, ↓reduceIte, Nat.reduceEqDiff, Nat.reduceAdd, Nat.reduceMul, Nat.reduceBEq, Option.getD_none, Int.reduceToNat, Nat.reduceSub, Nat.reduceLT, Nat.reduceLeDiff, Int.reduceLE, Int.reduceLT, reduceCtorEq]
  refine R_loop (α := Nat) (fun k s' M' => k ≤ l.length ∧ s' 8 = aI k ∧ (l.take k).all (fun x => !p x) = true) (fun k => l.length - k) 0 ⟨by omega, by simp only [go_sem, ↓reduceIte, Nat.reduceEqDiff, Nat.reduceAdd, Nat.reduceMul, Nat.reduceBEq, Option.getD_none, Int.reduceToNat, Nat.reduceSub, Nat.reduceLT, Nat.reduceLeDiff, Int.reduceLE, Int.reduceLT, reduceCtorEq]; rfl, by simp⟩ ?_
  rintro k s' M' ⟨hk, h8, hr⟩ ho
  have h0 : s' 0 = .dat none (knowns l) := by rw [ho 0 rfl]; simp only [go_sem, ↓reduceIte, Nat.reduceEqDiff, Nat.reduceAdd, Nat.reduceMul, Nat.reduceBEq, Option.getD_none, Int.reduceToNat, Nat.reduceSub, Nat.reduceLT, Nat.reduceLeDiff, Int.reduceLE, Int.reduceLT, reduceCtorEq]
  have h1 : s' 1 = .clo f (caps.map bindC) := by rw [ho 1 rfl]; simp only [go_sem, ↓reduceIte, Nat.reduceEqDiff, Nat.reduceAdd, Nat.reduceMul, Nat.reduceBEq, Option.getD_none, Int.reduceToNat, Nat.reduceSub, Nat.reduceLT, Nat.reduceLeDiff, Int.reduceLE, Int.reduceLT, reduceCtorEq]
  have h7 : s' 7 = aI l.length := by rw [ho 7 rfl]; simp only [go_sem, ↓reduceIte, Nat.reduceEqDiff, Nat.reduceAdd, Nat.reduceMul, Nat.reduceBEq, Option.getD_none, Int.reduceToNat, Nat.reduceSub, Nat.reduceLT, Nat.reduceLeDiff, Int.reduceLE, Int.reduceLT, reduceCtorEq]
  clear ho
  unfold slices_IndexFunc__sKnown_Known.b0
  by_cases hlt : k < l.length
  · have hi' : (k : Int) < l.length := by omega
    have ga : l[k]? = some l[k] := List.getElem?_eq_getElem hlt
    have hw : IntKind.i64.wrap (k + 1) = ((k + 1 : Nat) : Int) := wrap_k hlt (by omega)
    simp only [go_sem, ↓reduceIte, Nat.reduceEqDiff, Nat.reduceAdd, Nat.reduceMul, Nat.reduceBEq, Option.getD_none, Int.reduceToNat, Nat.reduceSub, Nat.reduceLT, Nat.reduceLeDiff, Int.reduceLE, Int.reduceLT, reduceCtorEq, h0, h1, h7, h8, hi', ga]
    refine ccl_ro (ds := [knownD l[k]]) (by simp only [go_sem, ↓reduceIte, Nat.reduceEqDiff, Nat.reduceAdd, Nat.reduceMul, Nat.reduceBEq, Option.getD_none, Int.reduceToNat, Nat.reduceSub, Nat.reduceLT, Nat.reduceLeDiff, Int.reduceLE, Int.reduceLT, reduceCtorEq]) ?_
    refine fcW_bool (h _ (List.getElem_mem hlt)) ?_
    cases hp : p l[k] with
    | true => simp only [go_sem, ↓reduceIte, Nat.reduceEqDiff, Nat.reduceAdd, Nat.reduceMul, Nat.reduceBEq, Option.getD_none, Int.reduceToNat, Nat.reduceSub, Nat.reduceLT, Nat.reduceLeDiff, Int.reduceLE, Int.reduceLT, reduceCtorEq, idxB_some hlt hr hp]
    | false =>
      simp only [go_sem, ↓reduceIte, Nat.reduceEqDiff, Nat.reduceAdd, Nat.reduceMul, Nat.reduceBEq, Option.getD_none, Int.reduceToNat, Nat.reduceSub, Nat.reduceLT, Nat.reduceLeDiff, Int.reduceLE, Int.reduceLT, reduceCtorEq, h8, hw]
      exact ⟨k + 1, by dsimp only; omega, by omega, by simp only [go_sem, ↓reduceIte, Nat.reduceEqDiff, Nat.reduceAdd, Nat.reduceMul, Nat.reduceBEq, Option.getD_none, Int.reduceToNat, Nat.reduceSub, Nat.reduceLT, Nat.reduceLeDiff, Int.reduceLE, Int.reduceLT, reduceCtorEq], all_take hlt hr (by simp [hp])⟩
  · have hi' : ¬ (k : Int) < l.length := by omega
    rw [List.take_of_length_le (by omega)] at hr
    simp only [go_sem, ↓reduceIte, Nat.reduceEqDiff, Nat.reduceAdd, Nat.reduceMul, Nat.reduceBEq, Option.getD_none, Int.reduceToNat, Nat.reduceSub, Nat.reduceLT, Nat.reduceLeDiff, Int.reduceLE, Int.reduceLT, reduceCtorEq, h0, h1, h7, h8, hi', idxB_none hr]
theorem slices_ContainsFunc__sKnown_Known.fc (l : List (Int × Int)) (f : FuncId) (caps : List D) (p : (Int × Int) → Bool) (hl : l.length ≤ 4294967296)
    (h : ∀ x ∈ l, FCt prog f (.ro :: caps.map fun _ => .ro) (knownD x :: caps) (Bb (p x)) []) : FCt prog F_slices_ContainsFunc__sKnown_Known [.ro, .ro] [knowns l, .clo f caps] (Bb (l.any p)) [] := by
  refine fct_run slices_ContainsFunc__sKnown_Known.ok rfl ?_
  simp only [go_sem, ↓reduceIte, Nat.reduceEqDiff, Nat.reduceAdd, Nat.reduceMul, Nat.reduceBEq, Option.getD_none, Int.reduceToNat, Nat.reduceSub, Nat.reduceLT, Nat.reduceLeDiff, Int.reduceLE, Int.reduceLT, reduceCtorEq]
  refine fcW_int (slices_IndexFunc__sKnown_Known.fc l f caps p hl h) ?_
  simp only [go_sem, ↓reduceIte, Nat.reduceEqDiff, Nat.reduceAdd, Nat.reduceMul, Nat.reduceBEq, Option.getD_none, Int.reduceToNat, Nat.reduceSub, Nat.reduceLT, Nat.reduceLeDiff, Int.reduceLE, Int.reduceLT, reduceCtorEq, ge_iff_le, idxB_any]

def gS (x : Int × Int) : Bool := goodS x.1 x.2
def gK (x : Int × Int) : Bool := goodK x.1 x.2
theorem impl_GoodMay_c1.fc (x : Int × Int) : FCt prog F_impl_GoodMay_c1 [.ro] [strD x] (Bb (!gS x)) [] := by
  refine fct_run impl_GoodMay_c1.ok rfl ?_
  simp only [go_sem, ↓reduceIte, Nat.reduceEqDiff, Nat.reduceAdd, Nat.reduceMul, Nat.reduceBEq, Option.getD_none, Int.reduceToNat, Nat.reduceSub, Nat.reduceLT, Nat.reduceLeDiff, Int.reduceLE, Int.reduceLT, reduceCtorEq]
  refine fcW_bool (impl_GoodStretch.fc x.1 x.2) ?_
  simp only [go_sem, ↓reduceIte, Nat.reduceEqDiff, Nat.reduceAdd, Nat.reduceMul, Nat.reduceBEq, Option.getD_none, Int.reduceToNat, Nat.reduceSub, Nat.reduceLT, Nat.reduceLeDiff, Int.reduceLE, Int.reduceLT, reduceCtorEq]
  rfl
theorem impl_GoodMay_c2.fc (x : Int × Int) : FCt prog F_impl_GoodMay_c2 [.ro] [knownD x] (Bb (!gK x)) [] := by
  refine fct_run impl_GoodMay_c2.ok rfl ?_
  simp only [go_sem, ↓reduceIte, Nat.reduceEqDiff, Nat.reduceAdd, Nat.reduceMul, Nat.reduceBEq, Option.getD_none, Int.reduceToNat, Nat.reduceSub, Nat.reduceLT, Nat.reduceLeDiff, Int.reduceLE, Int.reduceLT, reduceCtorEq]
  refine fcW_bool (impl_GoodKnown.fc x.1 x.2) ?_
  simp only [go_sem, ↓reduceIte, Nat.reduceEqDiff, Nat.reduceAdd, Nat.reduceMul, Nat.reduceBEq, Option.getD_none, Int.reduceToNat, Nat.reduceSub, Nat.reduceLT, Nat.reduceLeDiff, Int.reduceLE, Int.reduceLT, reduceCtorEq]
  rfl
def goodMay (m : MayD) : Bool := decide (m.reg.length = 6) && decide (m.bits.length = 6) && decide (m.cell.length = 16) && decide (m.isset.length = 16) && m.reg.all gS && m.cell.all gS && m.bits.all gK
theorem neq_dec {a b : Nat} : ((a : Int) != (b : Int)) = !decide (a = b) := by
  by_cases h : a = b
  · subst h; simp
  · have : ((a : Int) != (b : Int)) = true := by simp; omega
    rw [this]; simp [h]
theorem eq_dec {a b : Nat} : ((a : Int) == (b : Int)) = decide (a = b) := by
  by_cases h : a = b
  · subst h; simp
  · have : ((a : Int) == (b : Int)) = false := by rw [beq_eq_false_iff_ne]; omega
    rw [this]; simp [h]
theorem impl_GoodMay.fc (m : MayD) (h : wMay m ≤ 4194304) : FCt prog F_impl_GoodMay [.ro] [m.d] (Bb (goodMay m)) [] := by
  refine fct_run impl_GoodMay.ok rfl ?_
  have h := h
  unfold wMay at h
  have e1 : ((m.reg.length : Int) != 6) = !decide (m.reg.length = 6) := neq_dec (b := 6)
  have e2 : ((m.bits.length : Int) != 6) = !decide (m.bits.length = 6) := neq_dec (b := 6)
  have e3 : ((m.cell.length : Int) != 16) = !decide (m.cell.length = 16) := neq_dec (b := 16)
  have e4 : ((m.isset.length : Int) != 16) = !decide (m.isset.length = 16) := neq_dec (b := 16)
  unfold goodMay
  by_cases h1 : m.reg.length = 6
  case neg => rw [decide_eq_false h1] at e1 ⊢; simp only [go_sem, ↓reduceIte, Nat.reduceEqDiff, Nat.reduceAdd, Nat.reduceMul, Nat.reduceBEq, Option.getD_none, Int.reduceToNat, Nat.reduceSub, Nat.reduceLT, Nat.reduceLeDiff, Int.reduceLE, Int.reduceLT, reduceCtorEq, e1]
  rw [decide_eq_true h1] at e1 ⊢
  by_cases h2 : m.bits.length = 6
  case neg => rw [decide_eq_false h2] at e2 ⊢; simp only [go_sem, ↓reduceIte, Nat.reduceEqDiff, Nat.reduceAdd, Nat.reduceMul, Nat.reduceBEq, Option.getD_none, Int.reduceToNat, Nat.reduceSub, Nat.reduceLT, Nat.reduceLeDiff, Int.reduceLE, Int.reduceLT, reduceCtorEq, e1, e2]
  rw [decide_eq_true h2] at e2 ⊢
  by_cases h3 : m.cell.length = 16
  case neg => rw [decide_eq_false h3] at e3 ⊢; simp only [go_sem, ↓reduceIte, Nat.reduceEqDiff, Nat.reduceAdd, Nat.reduceMul, Nat.reduceBEq, Option.getD_none, Int.reduceToNat, Nat.reduceSub, Nat.reduceLT, Nat.reduceLeDiff, Int.reduceLE, Int.reduceLT, reduceCtorEq, e1, e2, e3]
  rw [decide_eq_true h3] at e3 ⊢
  by_cases h4 : m.isset.length = 16
  case neg => rw [decide_eq_false h4] at e4 ⊢; simp only [go_sem, ↓reduceIte, Nat.reduceEqDiff, Nat.reduceAdd, Nat.reduceMul, Nat.reduceBEq, Option.getD_none, Int.reduceToNat, Nat.reduceSub, Nat.reduceLT, Nat.reduceLeDiff, Int.reduceLE, Int.reduceLT, reduceCtorEq, e1, e2, e3, e4]
  rw [decide_eq_true h4] at e4 ⊢
  have a1 : m.reg.any (fun x => !gS x) = !m.reg.all gS := by rw [List.not_all_eq_any_not]
  have a2 : m.cell.any (fun x => !gS x) = !m.cell.all gS := by rw [List.not_all_eq_any_not]
  have a3 : m.bits.any (fun x => !gK x) = !m.bits.all gK := by rw [List.not_all_eq_any_not]
  simp only [go_sem, ↓reduceIte, Nat.reduceEqDiff, Nat.reduceAdd, Nat.reduceMul, Nat.reduceBEq, Option.getD_none, Int.reduceToNat, Nat.reduceSub, Nat.reduceLT, Nat.reduceLeDiff, Int.reduceLE, Int.reduceLT, reduceCtorEq, e1, e2, e3, e4]
  refine fcW_bool (slices_ContainsFunc__sStretch_Stretch.fc m.reg F_impl_GoodMay_c1 [] (fun x => !gS x) (by omega) (fun x _ => impl_GoodMay_c1.fc x)) ?_
  rw [a1]
  cases m.reg.all gS with
  | false => simp only [go_sem, ↓reduceIte, Nat.reduceEqDiff, Nat.reduceAdd, Nat.reduceMul, Nat.reduceBEq, Option.getD_none, Int.reduceToNat, Nat.reduceSub, Nat.reduceLT, Nat.reduceLeDiff, Int.reduceLE, Int.reduceLT, reduceCtorEq, e1, e2, e3, e4]
  | true =>
    simp only [go_sem, ↓reduceIte, Nat.reduceEqDiff, Nat.reduceAdd, Nat.reduceMul, Nat.reduceBEq, Option.getD_none, Int.reduceToNat, Nat.reduceSub, Nat.reduceLT, Nat.reduceLeDiff, Int.reduceLE, Int.reduceLT, reduceCtorEq, e1, e2, e3, e4]
    refine fcW_bool (slices_ContainsFunc__sStretch_Stretch.fc m.cell F_impl_GoodMay_c1 [] (fun x => !gS x) (by omega) (fun x _ => impl_GoodMay_c1.fc x)) ?_
    rw [a2]
    cases m.cell.all gS with
    | false => simp only [go_sem, ↓reduceIte, Nat.reduceEqDiff, Nat.reduceAdd, Nat.reduceMul, Nat.reduceBEq, Option.getD_none, Int.reduceToNat, Nat.reduceSub, Nat.reduceLT, Nat.reduceLeDiff, Int.reduceLE, Int.reduceLT, reduceCtorEq, e1, e2, e3, e4]
    | true =>
      simp only [go_sem, ↓reduceIte, Nat.reduceEqDiff, Nat.reduceAdd, Nat.reduceMul, Nat.reduceBEq, Option.getD_none, Int.reduceToNat, Nat.reduceSub, Nat.reduceLT, Nat.reduceLeDiff, Int.reduceLE, Int.reduceLT, reduceCtorEq, e1, e2, e3, e4]
      refine fcW_bool (slices_ContainsFunc__sKnown_Known.fc m.bits F_impl_GoodMay_c2 [] (fun x => !gK x) (by omega) (fun x _ => impl_GoodMay_c2.fc x)) ?_
      rw [a3]
      cases m.bits.all gK <;> simp only [go_sem, ↓reduceIte, Nat.reduceEqDiff, Nat.reduceAdd, Nat.reduceMul, Nat.reduceBEq, Option.getD_none, Int.reduceToNat, Nat.reduceSub, Nat.reduceLT, Nat.reduceLeDiff, Int.reduceLE, Int.reduceLT, reduceCtorEq, e1, e2, e3, e4]
theorem spec_GoodMay.fc (m : MayD) (h : wMay m ≤ 4194304) : FCt prog F_spec_GoodMay [.ro] [m.d] (Bb (goodMay m)) [] := by
  refine fct_run spec_GoodMay.ok rfl ?_
  have h := h
  unfold wMay at h
  have f1 : m.reg.all gS = false → goodMay m = false := fun e => by simp only [goodMay, e, Bool.and_false, Bool.false_and]
  have f2 : m.bits.all gK = false → goodMay m = false := fun e => by simp only [goodMay, e, Bool.and_false]
  have f3 : m.cell.all gS = false → goodMay m = false := fun e => by simp only [goodMay, e, Bool.and_false, Bool.false_and]
  simp only [go_sem, ↓reduceIte, Nat.reduceEqDiff, Nat.reduceAdd, Nat.reduceMul, Nat.reduceBEq, Option.getD_none, Int.reduceToNat, Nat.reduceSub, Nat.reduceLT, Nat.reduceLeDiff, Int.reduceLE, Int.reduceLT, reduceCtorEq]
  refine R_loop (α := Nat) (fun k s' M' => k ≤ m.reg.length ∧ s' 12 = aI k ∧ (m.reg.take k).all gS = true ∧ M'.m 64 = some (.box 0 (.dat none m.d))) (fun k => m.reg.length - k) 0 ⟨by omega, by simp only [go_sem, ↓reduceIte, Nat.reduceEqDiff, Nat.reduceAdd, Nat.reduceMul, Nat.reduceBEq, Option.getD_none, Int.reduceToNat, Nat.reduceSub, Nat.reduceLT, Nat.reduceLeDiff, Int.reduceLE, Int.reduceLT, reduceCtorEq]; rfl, by simp, by simp only [go_sem, ↓reduceIte, Nat.reduceEqDiff, Nat.reduceAdd, Nat.reduceMul, Nat.reduceBEq, Option.getD_none, Int.reduceToNat, Nat.reduceSub, Nat.reduceLT, Nat.reduceLeDiff, Int.reduceLE, Int.reduceLT, reduceCtorEq]⟩ ?_
  rintro k s' M' ⟨hk, h12, hr0, hm⟩ ho
  unfold spec_GoodMay.b0
  have j1 : s' 1 = .ptr 64 0 0 none := by rw [ho 1 rfl]; simp only [go_sem, ↓reduceIte, Nat.reduceEqDiff, Nat.reduceAdd, Nat.reduceMul, Nat.reduceBEq, Option.getD_none, Int.reduceToNat, Nat.reduceSub, Nat.reduceLT, Nat.reduceLeDiff, Int.reduceLE, Int.reduceLT, reduceCtorEq]
  have j10 : s' 10 = .dat none (strs m.reg) := by rw [ho 10 rfl]; simp only [go_sem, ↓reduceIte, Nat.reduceEqDiff, Nat.reduceAdd, Nat.reduceMul, Nat.reduceBEq, Option.getD_none, Int.reduceToNat, Nat.reduceSub, Nat.reduceLT, Nat.reduceLeDiff, Int.reduceLE, Int.reduceLT, reduceCtorEq]
  have j11 : s' 11 = aI m.reg.length := by rw [ho 11 rfl]; simp only [go_sem, ↓reduceIte, Nat.reduceEqDiff, Nat.reduceAdd, Nat.reduceMul, Nat.reduceBEq, Option.getD_none, Int.reduceToNat, Nat.reduceSub, Nat.reduceLT, Nat.reduceLeDiff, Int.reduceLE, Int.reduceLT, reduceCtorEq]
  clear ho
  by_cases hlt : k < m.reg.length
  · have hi' : (k : Int) < m.reg.length := by omega
    have ga : m.reg[k]? = some m.reg[k] := List.getElem?_eq_getElem hlt
    have hw : IntKind.i64.wrap (k + 1) = ((k + 1 : Nat) : Int) := wrap_k hlt (by omega)
    simp only [go_sem, ↓reduceIte, Nat.reduceEqDiff, Nat.reduceAdd, Nat.reduceMul, Nat.reduceBEq, Option.getD_none, Int.reduceToNat, Nat.reduceSub, Nat.reduceLT, Nat.reduceLeDiff, Int.reduceLE, Int.reduceLT, reduceCtorEq, hi', ga, j1, j10, j11, h12, hm]
    refine fcW_bool (spec_GoodStretch.fc m.reg[k].1 m.reg[k].2) ?_
    cases hc : goodS m.reg[k].1 m.reg[k].2 with
    | false => simp only [go_sem, ↓reduceIte, Nat.reduceEqDiff, Nat.reduceAdd, Nat.reduceMul, Nat.reduceBEq, Option.getD_none, Int.reduceToNat, Nat.reduceSub, Nat.reduceLT, Nat.reduceLeDiff, Int.reduceLE, Int.reduceLT, reduceCtorEq, f1 (not_all hlt hc), j1, j10, j11, h12, hm]
    | true =>
      simp only [go_sem, ↓reduceIte, Nat.reduceEqDiff, Nat.reduceAdd, Nat.reduceMul, Nat.reduceBEq, Option.getD_none, Int.reduceToNat, Nat.reduceSub, Nat.reduceLT, Nat.reduceLeDiff, Int.reduceLE, Int.reduceLT, reduceCtorEq, hw, j1, j10, j11, h12, hm]
      exact ⟨k + 1, by dsimp only; omega, by omega, by simp only [go_sem, ↓reduceIte, Nat.reduceEqDiff, Nat.reduceAdd, Nat.reduceMul, Nat.reduceBEq, Option.getD_none, Int.reduceToNat, Nat.reduceSub, Nat.reduceLT, Nat.reduceLeDiff, Int.reduceLE, Int.reduceLT, reduceCtorEq, j1, j10, j11, h12, hm], all_take hlt hr0 hc, by simp only [go_sem, ↓reduceIte, Nat.reduceEqDiff, Nat.reduceAdd, Nat.reduceMul, Nat.reduceBEq, Option.getD_none, Int.reduceToNat, Nat.reduceSub, Nat.reduceLT, Nat.reduceLeDiff, Int.reduceLE, Int.reduceLT, reduceCtorEq, j1, j10, j11, h12, hm]⟩
  have hi' : ¬ (k : Int) < m.reg.length := by omega
  obtain rfl : k = m.reg.length := by omega
  rw [List.take_length] at hr0
  simp only [go_sem, ↓reduceIte, Nat.reduceEqDiff, Nat.reduceAdd, Nat.reduceMul, Nat.reduceBEq, Option.getD_none, Int.reduceToNat, Nat.reduceSub, Nat.reduceLT, Nat.reduceLeDiff, Int.reduceLE, Int.reduceLT, reduceCtorEq, hi', j1, j10, j11, h12, hm]
  refine R_loop (α := Nat) (fun k s' M' => k ≤ m.bits.length ∧ s' 23 = aI k ∧ (m.bits.take k).all gK = true ∧ M'.m 64 = some (.box 0 (.dat none m.d))) (fun k => m.bits.length - k) 0 ⟨by omega, by simp only [go_sem, ↓reduceIte, Nat.reduceEqDiff, Nat.reduceAdd, Nat.reduceMul, Nat.reduceBEq, Option.getD_none, Int.reduceToNat, Nat.reduceSub, Nat.reduceLT, Nat.reduceLeDiff, Int.reduceLE, Int.reduceLT, reduceCtorEq, j1, j10, j11, h12, hm]; rfl, by simp, by simp only [go_sem, ↓reduceIte, Nat.reduceEqDiff, Nat.reduceAdd, Nat.reduceMul, Nat.reduceBEq, Option.getD_none, Int.reduceToNat, Nat.reduceSub, Nat.reduceLT, Nat.reduceLeDiff, Int.reduceLE, Int.reduceLT, reduceCtorEq, j1, j10, j11, h12, hm]⟩ ?_
  rintro k s2 M' ⟨hk, h12, hr1, hm⟩ ho
  unfold spec_GoodMay.b1
  have g1 : s2 1 = .ptr 64 0 0 none := by rw [ho 1 rfl]; simp only [go_sem, ↓reduceIte, Nat.reduceEqDiff, Nat.reduceAdd, Nat.reduceMul, Nat.reduceBEq, Option.getD_none, Int.reduceToNat, Nat.reduceSub, Nat.reduceLT, Nat.reduceLeDiff, Int.reduceLE, Int.reduceLT, reduceCtorEq, j1, j10, j11, h12, hm]
  have g21 : s2 21 = .dat none (knowns m.bits) := by rw [ho 21 rfl]; simp only [go_sem, ↓reduceIte, Nat.reduceEqDiff, Nat.reduceAdd, Nat.reduceMul, Nat.reduceBEq, Option.getD_none, Int.reduceToNat, Nat.reduceSub, Nat.reduceLT, Nat.reduceLeDiff, Int.reduceLE, Int.reduceLT, reduceCtorEq, j1, j10, j11, h12, hm]
  have g22 : s2 22 = aI m.bits.length := by rw [ho 22 rfl]; simp only [go_sem, ↓reduceIte, Nat.reduceEqDiff, Nat.reduceAdd, Nat.reduceMul, Nat.reduceBEq, Option.getD_none, Int.reduceToNat, Nat.reduceSub, Nat.reduceLT, Nat.reduceLeDiff, Int.reduceLE, Int.reduceLT, reduceCtorEq, j1, j10, j11, h12, hm]
  clear ho
  by_cases hlt : k < m.bits.length
  · have hi' : (k : Int) < m.bits.length := by omega
    have ga : m.bits[k]? = some m.bits[k] := List.getElem?_eq_getElem hlt
    have hw : IntKind.i64.wrap (k + 1) = ((k + 1 : Nat) : Int) := wrap_k hlt (by omega)
    simp only [go_sem, ↓reduceIte, Nat.reduceEqDiff, Nat.reduceAdd, Nat.reduceMul, Nat.reduceBEq, Option.getD_none, Int.reduceToNat, Nat.reduceSub, Nat.reduceLT, Nat.reduceLeDiff, Int.reduceLE, Int.reduceLT, reduceCtorEq, hi', ga, j1, j10, j11, h12, hm, g1, g21, g22, h12, hm]
    refine fcW_bool (spec_GoodKnown.fc m.bits[k].1 m.bits[k].2) ?_
    cases hc : goodK m.bits[k].1 m.bits[k].2 with
    | false => simp only [go_sem, ↓reduceIte, Nat.reduceEqDiff, Nat.reduceAdd, Nat.reduceMul, Nat.reduceBEq, Option.getD_none, Int.reduceToNat, Nat.reduceSub, Nat.reduceLT, Nat.reduceLeDiff, Int.reduceLE, Int.reduceLT, reduceCtorEq, f2 (not_all hlt hc), j1, j10, j11, h12, hm, g1, g21, g22, h12, hm]
    | true =>
      simp only [go_sem, ↓reduceIte, Nat.reduceEqDiff, Nat.reduceAdd, Nat.reduceMul, Nat.reduceBEq, Option.getD_none, Int.reduceToNat, Nat.reduceSub, Nat.reduceLT, Nat.reduceLeDiff, Int.reduceLE, Int.reduceLT, reduceCtorEq, hw, j1, j10, j11, h12, hm, g1, g21, g22, h12, hm]
      exact ⟨k + 1, by dsimp only; omega, by omega, by simp only [go_sem, ↓reduceIte, Nat.reduceEqDiff, Nat.reduceAdd, Nat.reduceMul, Nat.reduceBEq, Option.getD_none, Int.reduceToNat, Nat.reduceSub, Nat.reduceLT, Nat.reduceLeDiff, Int.reduceLE, Int.reduceLT, reduceCtorEq, j1, j10, j11, h12, hm, g1, g21, g22, h12, hm], all_take hlt hr1 hc, by simp only [go_sem, ↓reduceIte, Nat.reduceEqDiff, Nat.reduceAdd, Nat.reduceMul, Nat.reduceBEq, Option.getD_none, Int.reduceToNat, Nat.reduceSub, Nat.reduceLT, Nat.reduceLeDiff, Int.reduceLE, Int.reduceLT, reduceCtorEq, j1, j10, j11, h12, hm, g1, g21, g22, h12, hm]⟩
  have hi' : ¬ (k : Int) < m.bits.length := by omega
  obtain rfl : k = m.bits.length := by omega
  rw [List.take_length] at hr1
  simp only [go_sem, ↓reduceIte, Nat.reduceEqDiff, Nat.reduceAdd, Nat.reduceMul, Nat.reduceBEq, Option.getD_none, Int.reduceToNat, Nat.reduceSub, Nat.reduceLT, Nat.reduceLeDiff, Int.reduceLE, Int.reduceLT, reduceCtorEq, hi', j1, j10, j11, h12, hm, g1, g21, g22, h12, hm]
  refine R_loop (α := Nat) (fun k s' M' => k ≤ m.cell.length ∧ s' 34 = aI k ∧ (m.cell.take k).all gS = true ∧ M'.m 64 = some (.box 0 (.dat none m.d))) (fun k => m.cell.length - k) 0 ⟨by omega, by simp only [go_sem, ↓reduceIte, Nat.reduceEqDiff, Nat.reduceAdd, Nat.reduceMul, Nat.reduceBEq, Option.getD_none, Int.reduceToNat, Nat.reduceSub, Nat.reduceLT, Nat.reduceLeDiff, Int.reduceLE, Int.reduceLT, reduceCtorEq, j1, j10, j11, h12, hm, g1, g21, g22, h12, hm]; rfl, by simp, by simp only [go_sem, ↓reduceIte, Nat.reduceEqDiff, Nat.reduceAdd, Nat.reduceMul, Nat.reduceBEq, Option.getD_none, Int.reduceToNat, Nat.reduceSub, Nat.reduceLT, Nat.reduceLeDiff, Int.reduceLE, Int.reduceLT, reduceCtorEq, j1, j10, j11, h12, hm, g1, g21, g22, h12, hm]⟩ ?_
  rintro k s3 M' ⟨hk, h12, hr2, hm⟩ ho
  unfold spec_GoodMay.b2
  have k1 : s3 1 = .ptr 64 0 0 none := by rw [ho 1 rfl]; simp only [go_sem, ↓reduceIte, Nat.reduceEqDiff, Nat.reduceAdd, Nat.reduceMul, Nat.reduceBEq, Option.getD_none, Int.reduceToNat, Nat.reduceSub, Nat.reduceLT, Nat.reduceLeDiff, Int.reduceLE, Int.reduceLT, reduceCtorEq, j1, j10, j11, h12, hm, g1, g21, g22, h12, hm]
  have k32 : s3 32 = .dat none (strs m.cell) := by rw [ho 32 rfl]; simp only [go_sem, ↓reduceIte, Nat.reduceEqDiff, Nat.reduceAdd, Nat.reduceMul, Nat.reduceBEq, Option.getD_none, Int.reduceToNat, Nat.reduceSub, Nat.reduceLT, Nat.reduceLeDiff, Int.reduceLE, Int.reduceLT, reduceCtorEq, j1, j10, j11, h12, hm, g1, g21, g22, h12, hm]
  have k33 : s3 33 = aI m.cell.length := by rw [ho 33 rfl]; simp only [go_sem, ↓reduceIte, Nat.reduceEqDiff, Nat.reduceAdd, Nat.reduceMul, Nat.reduceBEq, Option.getD_none, Int.reduceToNat, Nat.reduceSub, Nat.reduceLT, Nat.reduceLeDiff, Int.reduceLE, Int.reduceLT, reduceCtorEq, j1, j10, j11, h12, hm, g1, g21, g22, h12, hm]
  clear ho
  by_cases hlt : k < m.cell.length
  · have hi' : (k : Int) < m.cell.length := by omega
    have ga : m.cell[k]? = some m.cell[k] := List.getElem?_eq_getElem hlt
    have hw : IntKind.i64.wrap (k + 1) = ((k + 1 : Nat) : Int) := wrap_k hlt (by omega)
    simp only [go_sem, ↓reduceIte, Nat.reduceEqDiff, Nat.reduceAdd, Nat.reduceMul, Nat.reduceBEq, Option.getD_none, Int.reduceToNat, Nat.reduceSub, Nat.reduceLT, Nat.reduceLeDiff, Int.reduceLE, Int.reduceLT, reduceCtorEq, hi', ga, j1, j10, j11, h12, hm, g1, g21, g22, h12, hm, k1, k32, k33, h12, hm]
    refine fcW_bool (spec_GoodStretch.fc m.cell[k].1 m.cell[k].2) ?_
    cases hc : goodS m.cell[k].1 m.cell[k].2 with
    | false => simp only [go_sem, ↓reduceIte, Nat.reduceEqDiff, Nat.reduceAdd, Nat.reduceMul, Nat.reduceBEq, Option.getD_none, Int.reduceToNat, Nat.reduceSub, Nat.reduceLT, Nat.reduceLeDiff, Int.reduceLE, Int.reduceLT, reduceCtorEq, f3 (not_all hlt hc), j1, j10, j11, h12, hm, g1, g21, g22, h12, hm, k1, k32, k33, h12, hm]
    | true =>
      simp only [go_sem, ↓reduceIte, Nat.reduceEqDiff, Nat.reduceAdd, Nat.reduceMul, Nat.reduceBEq, Option.getD_none, Int.reduceToNat, Nat.reduceSub, Nat.reduceLT, Nat.reduceLeDiff, Int.reduceLE, Int.reduceLT, reduceCtorEq, hw, j1, j10, j11, h12, hm, g1, g21, g22, h12, hm, k1, k32, k33, h12, hm]
      exact ⟨k + 1, by dsimp only; omega, by omega, by simp only [go_sem, ↓reduceIte, Nat.reduceEqDiff, Nat.reduceAdd, Nat.reduceMul, Nat.reduceBEq, Option.getD_none, Int.reduceToNat, Nat.reduceSub, Nat.reduceLT, Nat.reduceLeDiff, Int.reduceLE, Int.reduceLT, reduceCtorEq, j1, j10, j11, h12, hm, g1, g21, g22, h12, hm, k1, k32, k33, h12, hm], all_take hlt hr2 hc, by simp only [go_sem, ↓reduceIte, Nat.reduceEqDiff, Nat.reduceAdd, Nat.reduceMul, Nat.reduceBEq, Option.getD_none, Int.reduceToNat, Nat.reduceSub, Nat.reduceLT, Nat.reduceLeDiff, Int.reduceLE, Int.reduceLT, reduceCtorEq, j1, j10, j11, h12, hm, g1, g21, g22, h12, hm, k1, k32, k33, h12, hm]⟩
  have hi' : ¬ (k : Int) < m.cell.length := by omega
  obtain rfl : k = m.cell.length := by omega
  rw [List.take_length] at hr2
  simp only [go_sem, ↓reduceIte, Nat.reduceEqDiff, Nat.reduceAdd, Nat.reduceMul, Nat.reduceBEq, Option.getD_none, Int.reduceToNat, Nat.reduceSub, Nat.reduceLT, Nat.reduceLeDiff, Int.reduceLE, Int.reduceLT, reduceCtorEq, hi', j1, j10, j11, h12, hm, g1, g21, g22, h12, hm, k1, k32, k33, h12, hm]
  have e1 : ((m.reg.length : Int) == 6) = decide (m.reg.length = 6) := eq_dec (b := 6)
  have e2 : ((m.bits.length : Int) == 6) = decide (m.bits.length = 6) := eq_dec (b := 6)
  have e3 : ((m.cell.length : Int) == 16) = decide (m.cell.length = 16) := eq_dec (b := 16)
  have e4 : ((m.isset.length : Int) == 16) = decide (m.isset.length = 16) := eq_dec (b := 16)
  unfold goodMay
  rw [hr0, hr1, hr2, ← e1, ← e2, ← e3, ← e4]
  cases b1 : ((m.reg.length : Int) == 6) with
  | false => simp only [go_sem, ↓reduceIte, Nat.reduceEqDiff, Nat.reduceAdd, Nat.reduceMul, Nat.reduceBEq, Option.getD_none, Int.reduceToNat, Nat.reduceSub, Nat.reduceLT, Nat.reduceLeDiff, Int.reduceLE, Int.reduceLT, reduceCtorEq, b1, j1, j10, j11, h12, hm, g1, g21, g22, h12, hm, k1, k32, k33, h12, hm]
  | true =>
    cases b2 : ((m.bits.length : Int) == 6) with
    | false => simp only [go_sem, ↓reduceIte, Nat.reduceEqDiff, Nat.reduceAdd, Nat.reduceMul, Nat.reduceBEq, Option.getD_none, Int.reduceToNat, Nat.reduceSub, Nat.reduceLT, Nat.reduceLeDiff, Int.reduceLE, Int.reduceLT, reduceCtorEq, b1, b2, j1, j10, j11, h12, hm, g1, g21, g22, h12, hm, k1, k32, k33, h12, hm]
    | true =>
      cases b3 : ((m.cell.length : Int) == 16) with
      | false => simp only [go_sem, ↓reduceIte, Nat.reduceEqDiff, Nat.reduceAdd, Nat.reduceMul, Nat.reduceBEq, Option.getD_none, Int.reduceToNat, Nat.reduceSub, Nat.reduceLT, Nat.reduceLeDiff, Int.reduceLE, Int.reduceLT, reduceCtorEq, b1, b2, b3, j1, j10, j11, h12, hm, g1, g21, g22, h12, hm, k1, k32, k33, h12, hm]
      | true => simp only [go_sem, ↓reduceIte, Nat.reduceEqDiff, Nat.reduceAdd, Nat.reduceMul, Nat.reduceBEq, Option.getD_none, Int.reduceToNat, Nat.reduceSub, Nat.reduceLT, Nat.reduceLeDiff, Int.reduceLE, Int.reduceLT, reduceCtorEq, b1, b2, b3, j1, j10, j11, h12, hm, g1, g21, g22, h12, hm, k1, k32, k33, h12, hm]
end Go.Vm.Ytmicgdfekpoajaa
