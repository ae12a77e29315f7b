/- What the functions that the law reaches return: part 1 (the conditions stand at each). -/
import Derived.Test.YtmicgdfekpoajaaIr
import Derived.Tactics
import Derived.Tactics2
import Derived.StillTactics
import Derived.Laws.Pointers
/- Words for data: whole numbers, rows of them. -/
namespace Go.Vm
open Go
set_option linter.unusedSimpArgs false
set_option linter.unusedVariables false

abbrev Ii (n : Int) : D := .int .i64 n
abbrev Bb (b : Bool) : D := .bool b
abbrev ints (l : List Int) : D := .sl 1 (l.map Ii)
abbrev aI (n : Int) : AV := .dat none (.int .i64 n)
/-- a whole number of 64 bits -/
def i64 (n : Int) : Prop := -9223372036854775808 ≤ n ∧ n ≤ 9223372036854775807
theorem wrap_k {k m : Nat} (h : k < m) (hm : m ≤ 9223372036854775807) : IntKind.i64.wrap ((k : Int) + 1) = ((k + 1 : Nat) : Int) := by
  rw [wrap_in (by omega) (by omega)]; rfl
theorem hasInt {d : D} (h : HasTy (.int .i64) d) : ∃ n, d = Ii n ∧ i64 n := by
  simp only [HasTy] at h
  obtain ⟨n, rfl, h⟩ := h
  refine ⟨n, rfl, ?_⟩
  simp [Lit.wf, IntKind.has, IntKind.min, IntKind.max, IntKind.signed, IntKind.bits] at h
  exact ⟨by omega, by omega⟩
theorem take_succ' {α : Type} {l : List α} {k : Nat} (h : k < l.length) : l.take (k + 1) = l.take k ++ [l[k]] := by
  rw [List.take_succ_eq_append_getElem h]
theorem all_take {α : Type} {p : α → Bool} {l : List α} {k : Nat} (h : k < l.length) (h1 : (l.take k).all p = true) (h2 : p l[k] = true) : (l.take (k + 1)).all p = true := by
  rw [take_succ' h, List.all_append, h1]; simpa using h2
theorem not_all {α : Type} {p : α → Bool} {l : List α} {k : Nat} (h : k < l.length) (h2 : p l[k] = false) : l.all p = false := by
  rw [← Bool.not_eq_true, List.all_eq_true]
  intro hh
  have := hh _ (List.getElem_mem h)
  rw [h2] at this; cases this
/-- a row that is filled from the left -/
def fill {α : Type} (f : α → D) (z : D) (l : List α) (k : Nat) : List D := (l.take k).map f ++ List.replicate (l.length - k) z
section
variable {α : Type} {f : α → D} {z : D} {l : List α} {k : Nat}
theorem fill_zero : List.replicate l.length z = fill f z l 0 := by simp [fill]
theorem fill_len (h : k ≤ l.length) : (fill f z l k).length = l.length := by simp [fill]; omega
theorem fill_get (h : k < l.length) : (fill f z l k)[k]? = some z := by
  simp only [fill]
  have e0 : ((l.take k).map f).length = k := by rw [List.length_map, List.length_take]; omega
  rw [List.getElem?_append_right (by omega), e0, Nat.sub_self, List.getElem?_replicate, if_pos (by omega)]
theorem fill_set (h : k < l.length) : (fill f z l k).set k (f l[k]) = fill f z l (k + 1) := by
  simp only [fill]
  have e0 : ((l.take k).map f).length = k := by rw [List.length_map, List.length_take]; omega
  have e2 : l.length - k = (l.length - (k + 1)) + 1 := by omega
  rw [List.set_append_right _ _ (by omega), take_succ' h, e0, Nat.sub_self, e2, List.replicate_succ, List.set_cons_zero, List.map_append, List.append_assoc]
  rfl
theorem fill_all : fill f z l l.length = l.map f := by simp [fill]
theorem take_map_len : (l.map f).take l.length = l.map f := by rw [List.take_of_length_le (by simp)]
end
/-- a row that is written over from the left -/
def ovr {α : Type} (A B : List α) (k : Nat) : List α := A.take k ++ B.drop k
section
variable {α : Type} {A B : List α} {k : Nat}
theorem ovr_zero : ovr A B 0 = B := by simp [ovr]
theorem ovr_all (h : A.length = B.length) : ovr A B B.length = A := by simp [ovr, ← h]
theorem ovr_len (h : A.length = B.length) (hk : k ≤ B.length) : (ovr A B k).length = B.length := by simp [ovr]; omega
theorem ovr_get (h : A.length = B.length) (hk : k < B.length) : (ovr A B k)[k]? = B[k]? := by
  have e : (A.take k).length = k := by rw [List.length_take]; omega
  rw [ovr, List.getElem?_append_right (by omega), e, Nat.sub_self, List.getElem?_drop]; rfl
theorem ovr_set {x : α} (h : A.length = B.length) (hk : k < B.length) (hx : A[k]? = some x) : (ovr A B k).set k x = ovr A B (k + 1) := by
  have e : (A.take k).length = k := by rw [List.length_take]; omega
  have hd : B.drop k = B[k] :: B.drop (k + 1) := List.drop_eq_getElem_cons hk
  have hkA : k < A.length := by omega
  have hx' : A[k] = x := by rw [List.getElem?_eq_getElem hkA] at hx; exact Option.some.inj hx
  rw [ovr, ovr, List.set_append_right _ _ (by omega), e, Nat.sub_self, hd, List.set_cons_zero, take_succ' hkA, hx', List.append_assoc]; rfl
end
/-- a row that grows: nil at first, then under one name -/
def RowAt (x : AV) (M : Mem) (nm sz : Nat) (ds : List D) : Prop := (ds = [] ∧ x = .nil sz) ∨ ∃ v, x = .sl nm v 0 ds.length sz ∧ M.m nm = some (.arr v true sz ds)
theorem RowAt.nil {M : Mem} {nm sz : Nat} : RowAt (.nil sz) M nm sz [] := .inl ⟨rfl, rfl⟩
theorem RowAt.sl {x : AV} {M : Mem} {nm sz v n : Nat} {ds : List D} (hx : x = .sl nm v 0 n sz) (hn : n = ds.length) (hm : M.m nm = some (.arr v true sz ds)) : RowAt x M nm sz ds := .inr ⟨v, by rw [hx, hn], hm⟩
section
variable {α : Type} {f : Int → α → α} {c : α → Nat}
end
theorem noRsL_all : ∀ {ds : List D}, (∀ d ∈ ds, noRs d = true) → noRsL ds = true
  | [], _ => rfl
  | d :: ds, h => by simp only [noRsL, Bool.and_eq_true]; exact ⟨h d List.mem_cons_self, noRsL_all fun x hx => h x (List.mem_cons_of_mem _ hx)⟩
theorem noRs_sl {sz : Nat} {ds : List D} (h : ∀ d ∈ ds, noRs d = true) : noRs (.sl sz ds) = true := by simp only [noRs]; exact noRsL_all h
/-! ### function values -/
section
variable {P : Program} {s : Nat → AV} {M : Mem} {nb ib : Nat}
theorem frzR_caps : ∀ (caps : List D), frzR s M ((caps.map bindC).map X.k) = some caps
  | [] => rfl
  | c :: caps => by simp only [List.map_cons, frzR, ev_k, frz_bindC, frzR_caps caps]
theorem frzR_app : ∀ (xs ys : List X), frzR s M (xs ++ ys) = match frzR s M xs, frzR s M ys with | some a, some b => some (a ++ b) | _, _ => none
  | [], ys => by simp only [List.nil_append, frzR]; cases frzR s M ys <;> rfl
  | x :: xs, ys => by
    simp only [List.cons_append, frzR, frzR_app xs ys]
    cases frz M 8 (x.ev s) <;> cases frzR s M xs <;> cases frzR s M ys <;> rfl
/-- a function value is called -/
theorem ccl_ro {f : FuncId} {caps : List D} {args : List X} {ds : List D} {K : AV → Mem → (Nat → Bool) → Prop} (ha : frzR s M args = some ds)
    (h : @fcW P f (args.map (fun _ => Md.ro) ++ caps.map fun _ => Md.ro) (ds ++ caps) false ((args ++ (caps.map bindC).map X.k).all fun x => coldA (x.ev s)) nb ib M ⟨K⟩) : @cW P (.clo f (caps.map bindC)) s M nb ib false args ⟨K⟩ := by
  rw [cW_clo, CR_ro, frzR_app, ha, frzR_caps]
  have e : ((args ++ (caps.map bindC).map X.k).map fun _ => Md.ro) = (args.map (fun _ => Md.ro) ++ caps.map fun _ => Md.ro) := by simp [List.map_map, Function.comp_def]
  rw [e]
  exact h
end
/-- the first place at which 'p' holds; -1: nowhere -/
def idxB {α : Type} (p : α → Bool) (l : List α) : Int := match l.findIdx? p with
  | some i => i
  | none => -1
theorem idxB_none {α : Type} {p : α → Bool} {l : List α} (h : l.all (fun x => !p x) = true) : idxB p l = -1 := by
  unfold idxB
  rw [List.findIdx?_eq_none_iff.2 (fun x hx => by simpa using List.all_eq_true.1 h x hx)]
theorem idxB_some {α : Type} {p : α → Bool} {l : List α} {k : Nat} (hk : k < l.length) (h : (l.take k).all (fun x => !p x) = true) (hp : p l[k] = true) : idxB p l = k := by
  unfold idxB
  rw [List.findIdx?_eq_some_iff_getElem.2 ⟨hk, hp, fun j hj => by
    have := List.all_eq_true.1 h l[j] (by rw [List.mem_take_iff_getElem]; exact ⟨j, by omega, rfl⟩)
    simpa using this⟩]
theorem idxB_any {α : Type} {p : α → Bool} {l : List α} : decide (0 ≤ idxB p l) = l.any p := by
  unfold idxB
  cases h : l.findIdx? p with
  | none =>
    rw [List.findIdx?_eq_none_iff] at h
    rw [List.any_eq_false.2 (fun x hx => by simp [h x hx])]; rfl
  | some i =>
    rw [List.findIdx?_eq_some_iff_getElem] at h
    obtain ⟨hi, hp, _⟩ := h
    rw [List.any_eq_true.2 ⟨l[i], List.getElem_mem hi, hp⟩]
    simp
end Go.Vm
/- Walks: small functions. -/
namespace Go.Vm.Ytmicgdfekpoajaa
open Go Go.Vm
set_option maxRecDepth 10000
set_option maxHeartbeats 4000000
set_option linter.unusedSimpArgs false
set_option linter.unusedVariables false

def inB (n lo hi : Int) : Bool := decide (lo ≤ n) && decide (n ≤ hi)
theorem impl_in.fc (n lo hi : Int) : FCt prog F_impl_in [.ro, .ro, .ro] [Ii n, Ii lo, Ii hi] (Bb (inB n lo hi)) [] := by
  refine fct_run impl_in.ok rfl ?_
  unfold inB
  by_cases h : lo ≤ n
  · simp only [go_sem, ↓reduceIte, Nat.reduceEqDiff, Nat.reduceAdd, Nat.reduceMul, Nat.reduceBEq, Option.getD_none, Int.reduceToNat, Nat.reduceSub, Nat.reduceLT, Nat.reduceLeDiff, Int.reduceLE, Int.reduceLT, reduceCtorEq, ge_iff_le, h]
  · simp only [go_sem, ↓reduceIte, Nat.reduceEqDiff, Nat.reduceAdd, Nat.reduceMul, Nat.reduceBEq, Option.getD_none, Int.reduceToNat, Nat.reduceSub, Nat.reduceLT, Nat.reduceLeDiff, Int.reduceLE, Int.reduceLT, reduceCtorEq, ge_iff_le, h]
theorem spec_l1In.fc (n lo hi : Int) : FCt prog F_spec_l1In [.ro, .ro, .ro] [Ii n, Ii lo, Ii hi] (Bb (inB n lo hi)) [] := by
  refine fct_run spec_l1In.ok rfl ?_
  unfold inB
  by_cases h : lo ≤ n
  · simp only [go_sem, ↓reduceIte, Nat.reduceEqDiff, Nat.reduceAdd, Nat.reduceMul, Nat.reduceBEq, Option.getD_none, Int.reduceToNat, Nat.reduceSub, Nat.reduceLT, Nat.reduceLeDiff, Int.reduceLE, Int.reduceLT, reduceCtorEq, ge_iff_le, h]
  · simp only [go_sem, ↓reduceIte, Nat.reduceEqDiff, Nat.reduceAdd, Nat.reduceMul, Nat.reduceBEq, Option.getD_none, Int.reduceToNat, Nat.reduceSub, Nat.reduceLT, Nat.reduceLeDiff, Int.reduceLE, Int.reduceLT, reduceCtorEq, ge_iff_le, h]

end Go.Vm.Ytmicgdfekpoajaa
/- Walks: rules are copied and weighed. -/
namespace Go.Vm.Ytmicgdfekpoajaa
open Go Go.Vm
set_option maxRecDepth 10000
set_option maxHeartbeats 4000000
set_option linter.unusedSimpArgs false
set_option linter.unusedVariables false

/-- a rule -/
structure RuleD where
  ifs : List Int
  thn : Int
  deriving DecidableEq
abbrev RuleD.d (r : RuleD) : D := .agg [ints r.ifs, Ii r.thn]
abbrev rules (l : List RuleD) : D := .sl 2 (l.map RuleD.d)
end Go.Vm.Ytmicgdfekpoajaa
/- Walks: rules are looked at. -/
namespace Go.Vm.Ytmicgdfekpoajaa
open Go Go.Vm
set_option maxRecDepth 10000
set_option maxHeartbeats 4000000
set_option linter.unusedSimpArgs false
set_option linter.unusedVariables false

end Go.Vm.Ytmicgdfekpoajaa
/- Walks: rules are looked at, by the program and by the reference. -/
namespace Go.Vm.Ytmicgdfekpoajaa
open Go Go.Vm
set_option maxRecDepth 10000
set_option maxHeartbeats 4000000
set_option linter.unusedSimpArgs false
set_option linter.unusedVariables false

end Go.Vm.Ytmicgdfekpoajaa
/- Walks: valid rules; rules are compared. -/
namespace Go.Vm.Ytmicgdfekpoajaa
open Go Go.Vm
set_option maxRecDepth 10000
set_option maxHeartbeats 4000000
set_option linter.unusedSimpArgs false
set_option linter.unusedVariables false

end Go.Vm.Ytmicgdfekpoajaa
/- Walks: results are marked and read again. -/
namespace Go.Vm.Ytmicgdfekpoajaa
open Go Go.Vm
set_option maxRecDepth 10000
set_option maxHeartbeats 4000000
set_option linter.unusedSimpArgs false
set_option linter.unusedVariables false

end Go.Vm.Ytmicgdfekpoajaa
/- Walks: intervals and known bits, reduced by each other. -/
namespace Go.Vm.Ytmicgdfekpoajaa
open Go Go.Vm
set_option maxRecDepth 10000
set_option maxHeartbeats 4000000
set_option linter.unusedSimpArgs false
set_option linter.unusedVariables false

abbrev pr (a b : Int) : D := .agg [Ii a, Ii b]
theorem spec_l1Word.fc (n : Int) : FCt prog F_spec_l1Word [.ro] [Ii n] (Bb (inB n 0 65535)) [] := by
  refine fct_run spec_l1Word.ok rfl ?_
  simp only [go_sem, ↓reduceIte, Nat.reduceEqDiff, Nat.reduceAdd, Nat.reduceMul, Nat.reduceBEq, Option.getD_none, Int.reduceToNat, Nat.reduceSub, Nat.reduceLT, Nat.reduceLeDiff, Int.reduceLE, Int.reduceLT, reduceCtorEq]
  refine fcW_bool (spec_l1In.fc ..) ?_
  simp only [go_sem, ↓reduceIte, Nat.reduceEqDiff, Nat.reduceAdd, Nat.reduceMul, Nat.reduceBEq, Option.getD_none, Int.reduceToNat, Nat.reduceSub, Nat.reduceLT, Nat.reduceLeDiff, Int.reduceLE, Int.reduceLT, reduceCtorEq]
theorem impl_isWord.fc (n : Int) : FCt prog F_impl_isWord [.ro] [Ii n] (Bb (inB n 0 65535)) [] := by
  refine fct_run impl_isWord.ok rfl ?_
  simp only [go_sem, ↓reduceIte, Nat.reduceEqDiff, Nat.reduceAdd, Nat.reduceMul, Nat.reduceBEq, Option.getD_none, Int.reduceToNat, Nat.reduceSub, Nat.reduceLT, Nat.reduceLeDiff, Int.reduceLE, Int.reduceLT, reduceCtorEq]
  refine fcW_bool (impl_in.fc ..) ?_
  simp only [go_sem, ↓reduceIte, Nat.reduceEqDiff, Nat.reduceAdd, Nat.reduceMul, Nat.reduceBEq, Option.getD_none, Int.reduceToNat, Nat.reduceSub, Nat.reduceLT, Nat.reduceLeDiff, Int.reduceLE, Int.reduceLT, reduceCtorEq]
def goodS (a b : Int) : Bool := inB a 0 65535 && inB b 0 65535 && decide (a ≤ b)
def andI (a b : Int) : Int := IntKind.i64.wrap (BitVec.ofInt IntKind.i64.bits a &&& BitVec.ofInt IntKind.i64.bits b).toNat
def andNotI (a b : Int) : Int := IntKind.i64.wrap (BitVec.ofInt IntKind.i64.bits a &&& ~~~BitVec.ofInt IntKind.i64.bits b).toNat
def goodK (a b : Int) : Bool := inB a 0 65535 && inB b 0 65535 && (andI a b == 0)
theorem spec_GoodStretch.fc (a b : Int) : FCt prog F_spec_GoodStretch [.ro] [pr a b] (Bb (goodS a b)) [] := by
  refine fct_run spec_GoodStretch.ok rfl ?_
  unfold goodS
  simp only [go_sem, ↓reduceIte, Nat.reduceEqDiff, Nat.reduceAdd, Nat.reduceMul, Nat.reduceBEq, Option.getD_none, Int.reduceToNat, Nat.reduceSub, Nat.reduceLT, Nat.reduceLeDiff, Int.reduceLE, Int.reduceLT, reduceCtorEq]
  refine fcW_bool (spec_l1Word.fc ..) ?_
  cases h1 : inB a 0 65535
  · simp only [go_sem, ↓reduceIte, Nat.reduceEqDiff, Nat.reduceAdd, Nat.reduceMul, Nat.reduceBEq, Option.getD_none, Int.reduceToNat, Nat.reduceSub, Nat.reduceLT, Nat.reduceLeDiff, Int.reduceLE, Int.reduceLT, reduceCtorEq]
  · simp only [go_sem, ↓reduceIte, Nat.reduceEqDiff, Nat.reduceAdd, Nat.reduceMul, Nat.reduceBEq, Option.getD_none, Int.reduceToNat, Nat.reduceSub, Nat.reduceLT, Nat.reduceLeDiff, Int.reduceLE, Int.reduceLT, reduceCtorEq]
    refine fcW_bool (spec_l1Word.fc ..) ?_
    cases h2 : inB b 0 65535
    · simp only [go_sem, ↓reduceIte, Nat.reduceEqDiff, Nat.reduceAdd, Nat.reduceMul, Nat.reduceBEq, Option.getD_none, Int.reduceToNat, Nat.reduceSub, Nat.reduceLT, Nat.reduceLeDiff, Int.reduceLE, Int.reduceLT, reduceCtorEq]
    · simp only [go_sem, ↓reduceIte, Nat.reduceEqDiff, Nat.reduceAdd, Nat.reduceMul, Nat.reduceBEq, Option.getD_none, Int.reduceToNat, Nat.reduceSub, Nat.reduceLT, Nat.reduceLeDiff, Int.reduceLE, Int.reduceLT, reduceCtorEq]
theorem impl_GoodStretch.fc (a b : Int) : FCt prog F_impl_GoodStretch [.ro] [pr a b] (Bb (goodS a b)) [] := by
  refine fct_run impl_GoodStretch.ok rfl ?_
  unfold goodS
  simp only [go_sem, ↓reduceIte, Nat.reduceEqDiff, Nat.reduceAdd, Nat.reduceMul, Nat.reduceBEq, Option.getD_none, Int.reduceToNat, Nat.reduceSub, Nat.reduceLT, Nat.reduceLeDiff, Int.reduceLE, Int.reduceLT, reduceCtorEq]
  refine fcW_bool (impl_isWord.fc ..) ?_
  cases h1 : inB a 0 65535
  · simp only [go_sem, ↓reduceIte, Nat.reduceEqDiff, Nat.reduceAdd, Nat.reduceMul, Nat.reduceBEq, Option.getD_none, Int.reduceToNat, Nat.reduceSub, Nat.reduceLT, Nat.reduceLeDiff, Int.reduceLE, Int.reduceLT, reduceCtorEq]
  · simp only [go_sem, ↓reduceIte, Nat.reduceEqDiff, Nat.reduceAdd, Nat.reduceMul, Nat.reduceBEq, Option.getD_none, Int.reduceToNat, Nat.reduceSub, Nat.reduceLT, Nat.reduceLeDiff, Int.reduceLE, Int.reduceLT, reduceCtorEq]
    refine fcW_bool (impl_isWord.fc ..) ?_
    cases h2 : inB b 0 65535
    · simp only [go_sem, ↓reduceIte, Nat.reduceEqDiff, Nat.reduceAdd, Nat.reduceMul, Nat.reduceBEq, Option.getD_none, Int.reduceToNat, Nat.reduceSub, Nat.reduceLT, Nat.reduceLeDiff, Int.reduceLE, Int.reduceLT, reduceCtorEq]
    · simp only [go_sem, ↓reduceIte, Nat.reduceEqDiff, Nat.reduceAdd, Nat.reduceMul, Nat.reduceBEq, Option.getD_none, Int.reduceToNat, Nat.reduceSub, Nat.reduceLT, Nat.reduceLeDiff, Int.reduceLE, Int.reduceLT, reduceCtorEq]
theorem spec_GoodKnown.fc (a b : Int) : FCt prog F_spec_GoodKnown [.ro] [pr a b] (Bb (goodK a b)) [] := by
  refine fct_run spec_GoodKnown.ok rfl ?_
  unfold goodK andI
  simp only [go_sem, ↓reduceIte, Nat.reduceEqDiff, Nat.reduceAdd, Nat.reduceMul, Nat.reduceBEq, Option.getD_none, Int.reduceToNat, Nat.reduceSub, Nat.reduceLT, Nat.reduceLeDiff, Int.reduceLE, Int.reduceLT, reduceCtorEq]
  refine fcW_bool (spec_l1Word.fc ..) ?_
  cases h1 : inB a 0 65535
  · simp only [go_sem, ↓reduceIte, Nat.reduceEqDiff, Nat.reduceAdd, Nat.reduceMul, Nat.reduceBEq, Option.getD_none, Int.reduceToNat, Nat.reduceSub, Nat.reduceLT, Nat.reduceLeDiff, Int.reduceLE, Int.reduceLT, reduceCtorEq]
  · simp only [go_sem, ↓reduceIte, Nat.reduceEqDiff, Nat.reduceAdd, Nat.reduceMul, Nat.reduceBEq, Option.getD_none, Int.reduceToNat, Nat.reduceSub, Nat.reduceLT, Nat.reduceLeDiff, Int.reduceLE, Int.reduceLT, reduceCtorEq]
    refine fcW_bool (spec_l1Word.fc ..) ?_
    cases h2 : inB b 0 65535
    · simp only [go_sem, ↓reduceIte, Nat.reduceEqDiff, Nat.reduceAdd, Nat.reduceMul, Nat.reduceBEq, Option.getD_none, Int.reduceToNat, Nat.reduceSub, Nat.reduceLT, Nat.reduceLeDiff, Int.reduceLE, Int.reduceLT, reduceCtorEq]
    · simp only [go_sem, ↓reduceIte, Nat.reduceEqDiff, Nat.reduceAdd, Nat.reduceMul, Nat.reduceBEq, Option.getD_none, Int.reduceToNat, Nat.reduceSub, Nat.reduceLT, Nat.reduceLeDiff, Int.reduceLE, Int.reduceLT, reduceCtorEq]
theorem impl_GoodKnown.fc (a b : Int) : FCt prog F_impl_GoodKnown [.ro] [pr a b] (Bb (goodK a b)) [] := by
  refine fct_run impl_GoodKnown.ok rfl ?_
  unfold goodK andI
  simp only [go_sem, ↓reduceIte, Nat.reduceEqDiff, Nat.reduceAdd, Nat.reduceMul, Nat.reduceBEq, Option.getD_none, Int.reduceToNat, Nat.reduceSub, Nat.reduceLT, Nat.reduceLeDiff, Int.reduceLE, Int.reduceLT, reduceCtorEq]
  refine fcW_bool (impl_isWord.fc ..) ?_
  cases h1 : inB a 0 65535
  · simp only [go_sem, ↓reduceIte, Nat.reduceEqDiff, Nat.reduceAdd, Nat.reduceMul, Nat.reduceBEq, Option.getD_none, Int.reduceToNat, Nat.reduceSub, Nat.reduceLT, Nat.reduceLeDiff, Int.reduceLE, Int.reduceLT, reduceCtorEq]
  · simp only [go_sem, ↓reduceIte, Nat.reduceEqDiff, Nat.reduceAdd, Nat.reduceMul, Nat.reduceBEq, Option.getD_none, Int.reduceToNat, Nat.reduceSub, Nat.reduceLT, Nat.reduceLeDiff, Int.reduceLE, Int.reduceLT, reduceCtorEq]
    refine fcW_bool (impl_isWord.fc ..) ?_
    cases h2 : inB b 0 65535
    · simp only [go_sem, ↓reduceIte, Nat.reduceEqDiff, Nat.reduceAdd, Nat.reduceMul, Nat.reduceBEq, Option.getD_none, Int.reduceToNat, Nat.reduceSub, Nat.reduceLT, Nat.reduceLeDiff, Int.reduceLE, Int.reduceLT, reduceCtorEq]
    · simp only [go_sem, ↓reduceIte, Nat.reduceEqDiff, Nat.reduceAdd, Nat.reduceMul, Nat.reduceBEq, Option.getD_none, Int.reduceToNat, Nat.reduceSub, Nat.reduceLT, Nat.reduceLeDiff, Int.reduceLE, Int.reduceLT, reduceCtorEq]
theorem spec_l1Most.fc (a b : Int) : FCt prog F_spec_l1Most [.ro, .ro] [Ii a, Ii b] (Ii (if b > a then b else a)) [] := by
  refine fct_run spec_l1Most.ok rfl ?_
  by_cases h : a > b
  · have e : (if b > a then b else a) = a := by split <;> omega
    simp only [go_sem, ↓reduceIte, Nat.reduceEqDiff, Nat.reduceAdd, Nat.reduceMul, Nat.reduceBEq, Option.getD_none, Int.reduceToNat, Nat.reduceSub, Nat.reduceLT, Nat.reduceLeDiff, Int.reduceLE, Int.reduceLT, reduceCtorEq, h, e]
  · have e : (if b > a then b else a) = b := by split <;> omega
    simp only [go_sem, ↓reduceIte, Nat.reduceEqDiff, Nat.reduceAdd, Nat.reduceMul, Nat.reduceBEq, Option.getD_none, Int.reduceToNat, Nat.reduceSub, Nat.reduceLT, Nat.reduceLeDiff, Int.reduceLE, Int.reduceLT, reduceCtorEq, h, e]
theorem spec_l1Least.fc (a b : Int) : FCt prog F_spec_l1Least [.ro, .ro] [Ii a, Ii b] (Ii (if b < a then b else a)) [] := by
  refine fct_run spec_l1Least.ok rfl ?_
  by_cases h : a < b
  · have e : (if b < a then b else a) = a := by split <;> omega
    simp only [go_sem, ↓reduceIte, Nat.reduceEqDiff, Nat.reduceAdd, Nat.reduceMul, Nat.reduceBEq, Option.getD_none, Int.reduceToNat, Nat.reduceSub, Nat.reduceLT, Nat.reduceLeDiff, Int.reduceLE, Int.reduceLT, reduceCtorEq, h, e]
  · have e : (if b < a then b else a) = b := by split <;> omega
    simp only [go_sem, ↓reduceIte, Nat.reduceEqDiff, Nat.reduceAdd, Nat.reduceMul, Nat.reduceBEq, Option.getD_none, Int.reduceToNat, Nat.reduceSub, Nat.reduceLT, Nat.reduceLeDiff, Int.reduceLE, Int.reduceLT, reduceCtorEq, h, e]
end Go.Vm.Ytmicgdfekpoajaa
/- Walks: arcs. -/
namespace Go.Vm.Ytmicgdfekpoajaa
open Go Go.Vm
set_option maxRecDepth 10000
set_option maxHeartbeats 4000000
set_option linter.unusedSimpArgs false
set_option linter.unusedVariables false

abbrev arcD (a : Int × Int) : D := pr a.1 a.2
abbrev arcs (l : List (Int × Int)) : D := .sl 2 (l.map arcD)
end Go.Vm.Ytmicgdfekpoajaa
/- Walks: valid arcs. -/
namespace Go.Vm.Ytmicgdfekpoajaa
open Go Go.Vm
set_option maxRecDepth 10000
set_option maxHeartbeats 4000000
set_option linter.unusedSimpArgs false
set_option linter.unusedVariables false

end Go.Vm.Ytmicgdfekpoajaa
/- Walks: rows of rows; clauses. -/
namespace Go.Vm.Ytmicgdfekpoajaa
open Go Go.Vm
set_option maxRecDepth 10000
set_option maxHeartbeats 4000000
set_option linter.unusedSimpArgs false
set_option linter.unusedVariables false

end Go.Vm.Ytmicgdfekpoajaa
/- Walks: sorted rows. -/
namespace Go.Vm.Ytmicgdfekpoajaa
open Go Go.Vm
set_option maxRecDepth 10000
set_option maxHeartbeats 4000000
set_option linter.unusedSimpArgs false
set_option linter.unusedVariables false

/-- where x belongs -/
def putK (l : List Int) (x : Int) : Nat := l.findIdx (fun y => !decide (y < x))
def putI (l : List Int) (x : Int) : List Int := if l[putK l x]? = some x then l else l.take (putK l x) ++ x :: l.drop (putK l x)
end Go.Vm.Ytmicgdfekpoajaa
/- Walks: what is reached. -/
namespace Go.Vm.Ytmicgdfekpoajaa
open Go Go.Vm
set_option maxRecDepth 10000
set_option maxHeartbeats 4000000
set_option linter.unusedSimpArgs false
set_option linter.unusedVariables false

end Go.Vm.Ytmicgdfekpoajaa
/- Walks: facts and rules that hold. -/
namespace Go.Vm.Ytmicgdfekpoajaa
open Go Go.Vm
set_option maxRecDepth 10000
set_option maxHeartbeats 4000000
set_option linter.unusedSimpArgs false
set_option linter.unusedVariables false

abbrev bools (l : List Bool) : D := .sl 1 (l.map Bb)
def hasI (so : List Int) (x : Int) : Bool := so.any (· == x)
end Go.Vm.Ytmicgdfekpoajaa
/- Walks: lists of the places where a condition holds. -/
namespace Go.Vm.Ytmicgdfekpoajaa
open Go Go.Vm
set_option maxRecDepth 10000
set_option maxHeartbeats 4000000
set_option linter.unusedSimpArgs false
set_option linter.unusedVariables false

/-- the numbers below n for which p holds -/
def listI (n : Nat) (p : Nat → Bool) : List Int := ((List.range n).filter p).map fun (i : Nat) => (i : Int)
theorem noRs_bools {l : List Bool} : noRs (bools l) = true := noRs_sl (by
  intro d hd; obtain ⟨x, _, rfl⟩ := List.mem_map.1 hd; rfl)
theorem allScB {l : List Bool} : (l.map Bb).all isSc = true := by
  rw [List.all_eq_true]; intro d hd; obtain ⟨x, _, rfl⟩ := List.mem_map.1 hd; rfl
theorem slices_Clone__sbool_bool.fc (b : Bool) (l : List Bool) (hl : l.length ≤ 4294967296) : FCt prog F_slices_Clone__sbool_bool [.ro] [bools (b :: l)] (bools (b :: l)) [] := by
  refine fct_run slices_Clone__sbool_bool.ok rfl ?_
  have hb : (l.length + 1) * 1 ≤ 70368744177664 := by omega
  have htk : (l.map Bb).take l.length = l.map Bb := List.take_of_length_le (by simp)
  simp only [go_sem, ↓reduceIte, Nat.reduceEqDiff, Nat.reduceAdd, Nat.reduceMul, Nat.reduceBEq, Option.getD_none, Int.reduceToNat, Nat.reduceSub, Nat.reduceLT, Nat.reduceLeDiff, Int.reduceLE, Int.reduceLT, reduceCtorEq, allScB, hb, Nat.zero_le, htk]
  rfl
end Go.Vm.Ytmicgdfekpoajaa
/- Walks: what is reached, by rows of marks. -/
namespace Go.Vm.Ytmicgdfekpoajaa
open Go Go.Vm
set_option maxRecDepth 10000
set_option maxHeartbeats 4000000
set_option linter.unusedSimpArgs false
set_option linter.unusedVariables false

theorem slices_Clone__sbool_bool.fc1 (l : List Bool) (h : 0 < l.length) (hl : l.length ≤ 4294967296) : FCt prog F_slices_Clone__sbool_bool [.ro] [bools l] (bools l) [] := by
  cases l with
  | nil => simp at h
  | cons b l => exact slices_Clone__sbool_bool.fc b l (by simpa using Nat.le_of_succ_le hl)
end Go.Vm.Ytmicgdfekpoajaa
/- Plain law: rows of marks and sorted rows. -/
namespace Go.Vm.Ytmicgdfekpoajaa
open Go Go.Vm
set_option maxRecDepth 10000
set_option maxHeartbeats 4000000
set_option linter.unusedSimpArgs false
set_option linter.unusedVariables false

end Go.Vm.Ytmicgdfekpoajaa
/- Walks: what is reached within so many steps. -/
namespace Go.Vm.Ytmicgdfekpoajaa
open Go Go.Vm
set_option maxRecDepth 10000
set_option maxHeartbeats 4000000
set_option linter.unusedSimpArgs false
set_option linter.unusedVariables false

end Go.Vm.Ytmicgdfekpoajaa
/- Walks: arcs that lead back. -/
namespace Go.Vm.Ytmicgdfekpoajaa
open Go Go.Vm
set_option maxRecDepth 10000
set_option maxHeartbeats 4000000
set_option linter.unusedSimpArgs false
set_option linter.unusedVariables false

end Go.Vm.Ytmicgdfekpoajaa
/- Walks: the laws' own helpers, in one form. -/
namespace Go.Vm.Ytmicgdfekpoajaa
open Go Go.Vm
set_option maxRecDepth 10000
set_option maxHeartbeats 4000000
set_option linter.unusedSimpArgs false
set_option linter.unusedVariables false

theorem noRs_agg {fs : List D} (h : ∀ d ∈ fs, noRs d = true) : noRs (.agg fs) = true := by simp only [noRs]; exact noRsL_all h
theorem hasBool {d : D} (h : HasTy .bool d) : ∃ b, d = Bb b := by simpa only [HasTy] using h
theorem hasSl {α : Type} {f : α → D} {p : α → Prop} {T : Ty} (one : ∀ x, HasTy T x → ∃ a, x = f a ∧ p a) {d : D} (h : HasTy (.sl T) d) : ∃ l : List α, d = .sl T.cells (l.map f) ∧ l.length ≤ 9223372036854775807 ∧ ∀ a ∈ l, p a := by
  simp only [HasTy] at h
  obtain ⟨xs, rfl, hl, h⟩ := h
  have : ∀ xs : List D, (∀ x ∈ xs, HasTy T x) → ∃ l : List α, xs = l.map f ∧ ∀ a ∈ l, p a := by
    intro xs
    induction xs with
    | nil => intro _; exact ⟨[], rfl, by simp⟩
    | cons x xs ih =>
      intro h
      obtain ⟨a, rfl, hp⟩ := one x (h x List.mem_cons_self)
      obtain ⟨l, rfl, hl⟩ := ih fun y hy => h y (List.mem_cons_of_mem _ hy)
      exact ⟨a :: l, rfl, fun b hb => by
        rcases List.mem_cons.1 hb with rfl | hb
        · exact hp
        · exact hl b hb⟩
  obtain ⟨l, rfl, hp⟩ := this xs h
  exact ⟨l, rfl, by simpa [maxLen] using hl, hp⟩
theorem noRs_t2 {a b : D} (h1 : noRs a = true) (h2 : noRs b = true) : noRs (.tup [a, b]) = true := by simp only [noRs, noRsL, h1, h2, Bool.and_self]
theorem noRs_t3 {a b c : D} (h1 : noRs a = true) (h2 : noRs b = true) (h3 : noRs c = true) : noRs (.tup [a, b, c]) = true := by simp only [noRs, noRsL, h1, h2, h3, Bool.and_self]
end Go.Vm.Ytmicgdfekpoajaa
/- Walks: the laws' own helpers, in one form: rules, rows of rows. -/
namespace Go.Vm.Ytmicgdfekpoajaa
open Go Go.Vm
set_option maxRecDepth 10000
set_option maxHeartbeats 4000000
set_option linter.unusedSimpArgs false
set_option linter.unusedVariables false

end Go.Vm.Ytmicgdfekpoajaa
/- Walks: what is put into a row that is handed over; the least facts. -/
namespace Go.Vm.Ytmicgdfekpoajaa
open Go Go.Vm
set_option maxRecDepth 10000
set_option maxHeartbeats 4000000
set_option linter.unusedSimpArgs false
set_option linter.unusedVariables false

end Go.Vm.Ytmicgdfekpoajaa
/- Walks: do rules hold among facts? -/
namespace Go.Vm.Ytmicgdfekpoajaa
open Go Go.Vm
set_option maxRecDepth 10000
set_option maxHeartbeats 4000000
set_option linter.unusedSimpArgs false
set_option linter.unusedVariables false

end Go.Vm.Ytmicgdfekpoajaa
/- Plain law: the least facts. -/
namespace Go.Vm.Ytmicgdfekpoajaa
open Go Go.Vm
set_option maxRecDepth 10000
set_option maxHeartbeats 4000000
set_option linter.unusedSimpArgs false
set_option linter.unusedVariables false

/-- how many are not there -/
def lackN (n : Nat) (so : List Int) : Nat := ((List.range (n + 1)).filter fun (i : Nat) => !hasI so (i : Int)).length
theorem lack_le {n : Nat} {so : List Int} : lackN n so ≤ n + 1 := by
  unfold lackN
  exact Nat.le_trans (List.length_filter_le _ _) (by simp)
/-- a rule that gives a new fact -/
def readyR (so : List Int) (r : RuleD) : Bool := decide (r.thn > 0) && !hasI so r.thn && r.ifs.all (hasI so)
def ruleAt (l : List RuleD) (i : Nat) : RuleD := l.getD i ⟨[], 0⟩
def leastI (l : List RuleD) : Nat → List Int → List Int → List Int × List Int
  | 0, so, ap => (so, ap)
  | f + 1, so, ap => match l.findIdx? (readyR so) with
    | none => (so, ap)
    | some i => leastI l f (putI so (ruleAt l i).thn) (ap ++ [(i : Int)])
/-- the least facts and what was applied -/
def leastP (l : List RuleD) : List Int × List Int := leastI l 14 [] []
/-- what is known all along -/
structure LeastOk (n : Nat) (l : List RuleD) (so ap : List Int) : Prop where
  same : leastI l 14 so ap = leastP l
  sort : so = listI (n + 1) fun i => hasI so (i : Int)
  few : so.length ≤ ap.length
  left : ap.length + lackN n so ≤ n + 1
  apl : ∀ i ∈ ap, 0 ≤ i ∧ i < l.length ∧ 0 < (ruleAt l i.toNat).thn
theorem LeastOk.start {n : Nat} {l : List RuleD} : LeastOk n l [] [] where
  same := rfl
  sort := by
    have : listI (n + 1) (fun i => hasI [] (i : Int)) = [] := by
      unfold listI; rw [List.filter_eq_nil_iff.2 (by intro i _; simp [hasI])]; rfl
    rw [this]
  few := by simp
  left := by have := lack_le (n := n) (so := []); simpa using this
  apl := by simp
theorem LeastOk.len {n : Nat} {l : List RuleD} {so ap : List Int} (h : LeastOk n l so ap) (hn : n ≤ 12) : so.length ≤ 13 ∧ ap.length ≤ 13 := by
  have := h.few; have := h.left; omega
end Go.Vm.Ytmicgdfekpoajaa
/- Walks: the least facts. -/
namespace Go.Vm.Ytmicgdfekpoajaa
open Go Go.Vm
set_option maxRecDepth 10000
set_option maxHeartbeats 4000000
set_option linter.unusedSimpArgs false
set_option linter.unusedVariables false

end Go.Vm.Ytmicgdfekpoajaa
/- Walks: the least facts by the reference; why a fact holds. -/
namespace Go.Vm.Ytmicgdfekpoajaa
open Go Go.Vm
set_option maxRecDepth 10000
set_option maxHeartbeats 4000000
set_option linter.unusedSimpArgs false
set_option linter.unusedVariables false

end Go.Vm.Ytmicgdfekpoajaa
/- Walks: literals and clauses. -/
namespace Go.Vm.Ytmicgdfekpoajaa
open Go Go.Vm
set_option maxRecDepth 10000
set_option maxHeartbeats 4000000
set_option linter.unusedSimpArgs false
set_option linter.unusedVariables false

end Go.Vm.Ytmicgdfekpoajaa
/- Walks: rules as clauses. -/
namespace Go.Vm.Ytmicgdfekpoajaa
open Go Go.Vm
set_option maxRecDepth 10000
set_option maxHeartbeats 4000000
set_option linter.unusedSimpArgs false
set_option linter.unusedVariables false

end Go.Vm.Ytmicgdfekpoajaa
/- Walks: copies, and what is struck out of a row. -/
namespace Go.Vm.Ytmicgdfekpoajaa
open Go Go.Vm
set_option maxRecDepth 10000
set_option maxHeartbeats 4000000
set_option linter.unusedSimpArgs false
set_option linter.unusedVariables false

end Go.Vm.Ytmicgdfekpoajaa
/- Walks: what two sets of facts share; Horn clauses. -/
namespace Go.Vm.Ytmicgdfekpoajaa
open Go Go.Vm
set_option maxRecDepth 10000
set_option maxHeartbeats 4000000
set_option linter.unusedSimpArgs false
set_option linter.unusedVariables false

end Go.Vm.Ytmicgdfekpoajaa
/- Walks: the laws' own helpers for what may be. -/
namespace Go.Vm.Ytmicgdfekpoajaa
open Go Go.Vm
set_option maxRecDepth 10000
set_option maxHeartbeats 4000000
set_option linter.unusedSimpArgs false
set_option linter.unusedVariables false

abbrev strD (x : (Int × Int)) : D := .agg [Ii x.1, Ii x.2]
abbrev TyStretch : Ty := .st [(.int .i64), (.int .i64)]
theorem hasStretch {d : D} (h : HasTy TyStretch d) : ∃ x : (Int × Int), d = strD x ∧ True := by
  simp only [HasTy] at h
  obtain ⟨ys, rfl, h⟩ := h
  simp only [HasTys] at h
  obtain ⟨d0, s0, rfl, h0, d1, s1, rfl, h1, rfl⟩ := h
  obtain ⟨x0, rfl, _⟩ := hasInt h0
  obtain ⟨x1, rfl, _⟩ := hasInt h1
  exact ⟨⟨x0, x1⟩, rfl, trivial⟩
abbrev knownD (x : (Int × Int)) : D := .agg [Ii x.1, Ii x.2]
abbrev TyKnown : Ty := .st [(.int .i64), (.int .i64)]
theorem hasKnown {d : D} (h : HasTy TyKnown d) : ∃ x : (Int × Int), d = knownD x ∧ True := by
  simp only [HasTy] at h
  obtain ⟨ys, rfl, h⟩ := h
  simp only [HasTys] at h
  obtain ⟨d0, s0, rfl, h0, d1, s1, rfl, h1, rfl⟩ := h
  obtain ⟨x0, rfl, _⟩ := hasInt h0
  obtain ⟨x1, rfl, _⟩ := hasInt h1
  exact ⟨⟨x0, x1⟩, rfl, trivial⟩
theorem laws_toStretch.fcu (x : (Int × Int)) :
    FCt prog F_laws_toStretch [.ro] [strD x] (strD x) [] := by
  refine fct_run laws_toStretch.ok rfl ?_
  simp only [go_sem, ↓reduceIte, Nat.reduceEqDiff, Nat.reduceAdd, Nat.reduceMul, Nat.reduceBEq, Option.getD_none, Int.reduceToNat, Nat.reduceSub, Nat.reduceLT, Nat.reduceLeDiff, Int.reduceLE, Int.reduceLT, reduceCtorEq]
theorem laws_eqStretch.fcu (x : (Int × Int)) :
    FCt prog F_laws_eqStretch [.ro, .ro] [strD x, strD x] (Bb true) [] := by
  refine fct_run laws_eqStretch.ok rfl ?_
  simp only [go_sem, ↓reduceIte, Nat.reduceEqDiff, Nat.reduceAdd, Nat.reduceMul, Nat.reduceBEq, Option.getD_none, Int.reduceToNat, Nat.reduceSub, Nat.reduceLT, Nat.reduceLeDiff, Int.reduceLE, Int.reduceLT, reduceCtorEq]
theorem laws_toKnown.fcu (x : (Int × Int)) :
    FCt prog F_laws_toKnown [.ro] [knownD x] (knownD x) [] := by
  refine fct_run laws_toKnown.ok rfl ?_
  simp only [go_sem, ↓reduceIte, Nat.reduceEqDiff, Nat.reduceAdd, Nat.reduceMul, Nat.reduceBEq, Option.getD_none, Int.reduceToNat, Nat.reduceSub, Nat.reduceLT, Nat.reduceLeDiff, Int.reduceLE, Int.reduceLT, reduceCtorEq]
theorem laws_eqKnown.fcu (x : (Int × Int)) :
    FCt prog F_laws_eqKnown [.ro, .ro] [knownD x, knownD x] (Bb true) [] := by
  refine fct_run laws_eqKnown.ok rfl ?_
  simp only [go_sem, ↓reduceIte, Nat.reduceEqDiff, Nat.reduceAdd, Nat.reduceMul, Nat.reduceBEq, Option.getD_none, Int.reduceToNat, Nat.reduceSub, Nat.reduceLT, Nat.reduceLeDiff, Int.reduceLE, Int.reduceLT, reduceCtorEq]

abbrev strs (l : List (Int × Int)) : D := .sl 2 (l.map strD)
theorem noRs_strs {l : List (Int × Int)} : noRs (strs l) = true := noRs_sl (by
  intro d hd
  obtain ⟨x, _, rfl⟩ := List.mem_map.1 hd
  exact rfl)
def mkStretchS (n : Int) (l : List (Int × Int)) : List (Int × Int) := (List.range l.length).map fun (i : Nat) => ⟨n + 2 * (i : Int), n + 2 * (i : Int) + 1⟩
theorem mkStretchS_len {n : Int} {l : List (Int × Int)} : (mkStretchS n l).length = l.length := by simp [mkStretchS]
theorem mkStretchS_take {n : Int} {l : List (Int × Int)} : ((mkStretchS n l).map strD).take l.length = (mkStretchS n l).map strD := List.take_of_length_le (by simp [mkStretchS_len])
theorem hasStretchS {d : D} (h : HasTy (.sl TyStretch) d) : ∃ l : List (Int × Int), d = strs l ∧ l.length ≤ 9223372036854775807 := by
  obtain ⟨l, rfl, hl, hp⟩ := hasSl (f := strD) (p := fun x => True) (fun x h => hasStretch h) h
  exact ⟨l, rfl, hl⟩
abbrev knowns (l : List (Int × Int)) : D := .sl 2 (l.map knownD)
theorem noRs_knowns {l : List (Int × Int)} : noRs (knowns l) = true := noRs_sl (by
  intro d hd
  obtain ⟨x, _, rfl⟩ := List.mem_map.1 hd
  exact rfl)
def mkKnownS (n : Int) (l : List (Int × Int)) : List (Int × Int) := (List.range l.length).map fun (i : Nat) => ⟨n + 2 * (i : Int), n + 2 * (i : Int) + 1⟩
theorem mkKnownS_len {n : Int} {l : List (Int × Int)} : (mkKnownS n l).length = l.length := by simp [mkKnownS]
theorem mkKnownS_take {n : Int} {l : List (Int × Int)} : ((mkKnownS n l).map knownD).take l.length = (mkKnownS n l).map knownD := List.take_of_length_le (by simp [mkKnownS_len])
theorem hasKnownS {d : D} (h : HasTy (.sl TyKnown) d) : ∃ l : List (Int × Int), d = knowns l ∧ l.length ≤ 9223372036854775807 := by
  obtain ⟨l, rfl, hl, hp⟩ := hasSl (f := knownD) (p := fun x => True) (fun x h => hasKnown h) h
  exact ⟨l, rfl, hl⟩
def mkBoolS (n : Int) (l : List Bool) : List Bool := (List.range l.length).map fun (i : Nat) => (n + (i : Int)).tmod 3 == 0
theorem mkBoolS_len {n : Int} {l : List Bool} : (mkBoolS n l).length = l.length := by simp [mkBoolS]
theorem mkBoolS_take {n : Int} {l : List Bool} : ((mkBoolS n l).map Bb).take l.length = (mkBoolS n l).map Bb := List.take_of_length_le (by simp [mkBoolS_len])
theorem hasBoolS {d : D} (h : HasTy (.sl .bool) d) : ∃ l : List Bool, d = bools l ∧ l.length ≤ 9223372036854775807 := by
  obtain ⟨l, rfl, hl, hp⟩ := hasSl (f := Bb) (p := fun x => True) (fun x h => by obtain ⟨a, rfl⟩ := hasBool h; exact ⟨a, rfl, trivial⟩) h
  exact ⟨l, rfl, hl⟩
theorem laws_toStretchS.fcu (x : List (Int × Int)) (h : x.length ≤ 1048576) :
    FCt prog F_laws_toStretchS [.ro] [strs x] (strs x) [] := by
  refine fct_run laws_toStretchS.ok rfl ?_
  have h0 := h
  have c1 : (x.length : Int) * (16 : Nat) ≤ 70368744177664 := by omega
  simp only [go_sem, ↓reduceIte, Nat.reduceEqDiff, Nat.reduceAdd, Nat.reduceMul, Nat.reduceBEq, Option.getD_none, Int.reduceToNat, Nat.reduceSub, Nat.reduceLT, Nat.reduceLeDiff, Int.reduceLE, Int.reduceLT, reduceCtorEq, Int.le_refl, c1]
  refine R_loop (α := Nat) (fun k s' M' => k ≤ x.length ∧ s' 4 = aI k ∧ ∃ v, s' 3 = .sl 256 v 0 x.length 2 ∧ M'.m 256 = some (.arr v true 2 (fill strD (.agg [Ii 0, Ii 0]) x k))) (fun k => x.length - k) 0
    ⟨by omega, by simp only [go_sem, ↓reduceIte, Nat.reduceEqDiff, Nat.reduceAdd, Nat.reduceMul, Nat.reduceBEq, Option.getD_none, Int.reduceToNat, Nat.reduceSub, Nat.reduceLT, Nat.reduceLeDiff, Int.reduceLE, Int.reduceLT, reduceCtorEq]; rfl, _, by simp only [go_sem, ↓reduceIte, Nat.reduceEqDiff, Nat.reduceAdd, Nat.reduceMul, Nat.reduceBEq, Option.getD_none, Int.reduceToNat, Nat.reduceSub, Nat.reduceLT, Nat.reduceLeDiff, Int.reduceLE, Int.reduceLT, reduceCtorEq]; rfl, by simp only [go_sem, ↓reduceIte, Nat.reduceEqDiff, Nat.reduceAdd, Nat.reduceMul, Nat.reduceBEq, Option.getD_none, Int.reduceToNat, Nat.reduceSub, Nat.reduceLT, Nat.reduceLeDiff, Int.reduceLE, Int.reduceLT, reduceCtorEq]; rw [fill_zero]⟩ ?_
  rintro k s' M' ⟨hk, h4, v, h3, hm⟩ ho
  unfold laws_toStretchS.b0
  have k0 : s' 0 = .dat none (strs x) := by rw [ho 0 rfl]; simp only [go_sem, ↓reduceIte, Nat.reduceEqDiff, Nat.reduceAdd, Nat.reduceMul, Nat.reduceBEq, Option.getD_none, Int.reduceToNat, Nat.reduceSub, Nat.reduceLT, Nat.reduceLeDiff, Int.reduceLE, Int.reduceLT, reduceCtorEq]
  clear ho
  by_cases hlt : k < x.length
  · have hi' : (k : Int) < x.length := by omega
    have ga : x[k]? = some x[k] := List.getElem?_eq_getElem hlt
    have hw : IntKind.i64.wrap (k + 1) = ((k + 1 : Nat) : Int) := wrap_k hlt (by omega)
    have hf := fill_get (f := strD) (z := (.agg [Ii 0, Ii 0])) hlt
    simp only [go_sem, ↓reduceIte, Nat.reduceEqDiff, Nat.reduceAdd, Nat.reduceMul, Nat.reduceBEq, Option.getD_none, Int.reduceToNat, Nat.reduceSub, Nat.reduceLT, Nat.reduceLeDiff, Int.reduceLE, Int.reduceLT, reduceCtorEq, h4, h3, hi', ga, hw, hm, hf, k0]
    refine fcW_bd (laws_toStretch.fcu _) rfl ?_
    simp only [go_sem, ↓reduceIte, Nat.reduceEqDiff, Nat.reduceAdd, Nat.reduceMul, Nat.reduceBEq, Option.getD_none, Int.reduceToNat, Nat.reduceSub, Nat.reduceLT, Nat.reduceLeDiff, Int.reduceLE, Int.reduceLT, reduceCtorEq, h4, h3, hi', ga, hw, hm, hf, take_map_len, k0]
    refine ⟨k + 1, by dsimp only; omega, by omega, by simp only [go_sem, ↓reduceIte, Nat.reduceEqDiff, Nat.reduceAdd, Nat.reduceMul, Nat.reduceBEq, Option.getD_none, Int.reduceToNat, Nat.reduceSub, Nat.reduceLT, Nat.reduceLeDiff, Int.reduceLE, Int.reduceLT, reduceCtorEq, k0], v, by simp only [go_sem, ↓reduceIte, Nat.reduceEqDiff, Nat.reduceAdd, Nat.reduceMul, Nat.reduceBEq, Option.getD_none, Int.reduceToNat, Nat.reduceSub, Nat.reduceLT, Nat.reduceLeDiff, Int.reduceLE, Int.reduceLT, reduceCtorEq, h3, k0], by simp only [go_sem, ↓reduceIte, Nat.reduceEqDiff, Nat.reduceAdd, Nat.reduceMul, Nat.reduceBEq, Option.getD_none, Int.reduceToNat, Nat.reduceSub, Nat.reduceLT, Nat.reduceLeDiff, Int.reduceLE, Int.reduceLT, reduceCtorEq, k0]; rw [← fill_set hlt]⟩
  · have hi' : ¬ (k : Int) < x.length := by omega
    obtain rfl : k = x.length := by omega
    have hlen := fill_len (f := strD) (z := (.agg [Ii 0, Ii 0])) (Nat.le_refl x.length)
    simp only [go_sem, ↓reduceIte, Nat.reduceEqDiff, Nat.reduceAdd, Nat.reduceMul, Nat.reduceBEq, Option.getD_none, Int.reduceToNat, Nat.reduceSub, Nat.reduceLT, Nat.reduceLeDiff, Int.reduceLE, Int.reduceLT, reduceCtorEq, h4, h3, hi', hm, hlen, k0]
    simp only [fill_all, mkR_one, take_map_len]
theorem laws_toKnownS.fcu (x : List (Int × Int)) (h : x.length ≤ 1048576) :
    FCt prog F_laws_toKnownS [.ro] [knowns x] (knowns x) [] := by
  refine fct_run laws_toKnownS.ok rfl ?_
  have h0 := h
  have c1 : (x.length : Int) * (16 : Nat) ≤ 70368744177664 := by omega
  simp only [go_sem, ↓reduceIte, Nat.reduceEqDiff, Nat.reduceAdd, Nat.reduceMul, Nat.reduceBEq, Option.getD_none, Int.reduceToNat, Nat.reduceSub, Nat.reduceLT, Nat.reduceLeDiff, Int.reduceLE, Int.reduceLT, reduceCtorEq, Int.le_refl, c1]
  refine R_loop (α := Nat) (fun k s' M' => k ≤ x.length ∧ s' 4 = aI k ∧ ∃ v, s' 3 = .sl 256 v 0 x.length 2 ∧ M'.m 256 = some (.arr v true 2 (fill knownD (.agg [Ii 0, Ii 0]) x k))) (fun k => x.length - k) 0
    ⟨by omega, by simp only [go_sem, ↓reduceIte, Nat.reduceEqDiff, Nat.reduceAdd, Nat.reduceMul, Nat.reduceBEq, Option.getD_none, Int.reduceToNat, Nat.reduceSub, Nat.reduceLT, Nat.reduceLeDiff, Int.reduceLE, Int.reduceLT, reduceCtorEq]; rfl, _, by simp only [go_sem, ↓reduceIte, Nat.reduceEqDiff, Nat.reduceAdd, Nat.reduceMul, Nat.reduceBEq, Option.getD_none, Int.reduceToNat, Nat.reduceSub, Nat.reduceLT, Nat.reduceLeDiff, Int.reduceLE, Int.reduceLT, reduceCtorEq]; rfl, by simp only [go_sem, ↓reduceIte, Nat.reduceEqDiff, Nat.reduceAdd, Nat.reduceMul, Nat.reduceBEq, Option.getD_none, Int.reduceToNat, Nat.reduceSub, Nat.reduceLT, Nat.reduceLeDiff, Int.reduceLE, Int.reduceLT, reduceCtorEq]; rw [fill_zero]⟩ ?_
  rintro k s' M' ⟨hk, h4, v, h3, hm⟩ ho
  unfold laws_toKnownS.b0
  have k0 : s' 0 = .dat none (knowns x) := by rw [ho 0 rfl]; simp only [go_sem, ↓reduceIte, Nat.reduceEqDiff, Nat.reduceAdd, Nat.reduceMul, Nat.reduceBEq, Option.getD_none, Int.reduceToNat, Nat.reduceSub, Nat.reduceLT, Nat.reduceLeDiff, Int.reduceLE, Int.reduceLT, reduceCtorEq]
  clear ho
  by_cases hlt : k < x.length
  · have hi' : (k : Int) < x.length := by omega
    have ga : x[k]? = some x[k] := List.getElem?_eq_getElem hlt
    have hw : IntKind.i64.wrap (k + 1) = ((k + 1 : Nat) : Int) := wrap_k hlt (by omega)
    have hf := fill_get (f := knownD) (z := (.agg [Ii 0, Ii 0])) hlt
    simp only [go_sem, ↓reduceIte, Nat.reduceEqDiff, Nat.reduceAdd, Nat.reduceMul, Nat.reduceBEq, Option.getD_none, Int.reduceToNat, Nat.reduceSub, Nat.reduceLT, Nat.reduceLeDiff, Int.reduceLE, Int.reduceLT, reduceCtorEq, h4, h3, hi', ga, hw, hm, hf, k0]
    refine fcW_bd (laws_toKnown.fcu _) rfl ?_
    simp only [go_sem, ↓reduceIte, Nat.reduceEqDiff, Nat.reduceAdd, Nat.reduceMul, Nat.reduceBEq, Option.getD_none, Int.reduceToNat, Nat.reduceSub, Nat.reduceLT, Nat.reduceLeDiff, Int.reduceLE, Int.reduceLT, reduceCtorEq, h4, h3, hi', ga, hw, hm, hf, take_map_len, k0]
    refine ⟨k + 1, by dsimp only; omega, by omega, by simp only [go_sem, ↓reduceIte, Nat.reduceEqDiff, Nat.reduceAdd, Nat.reduceMul, Nat.reduceBEq, Option.getD_none, Int.reduceToNat, Nat.reduceSub, Nat.reduceLT, Nat.reduceLeDiff, Int.reduceLE, Int.reduceLT, reduceCtorEq, k0], v, by simp only [go_sem, ↓reduceIte, Nat.reduceEqDiff, Nat.reduceAdd, Nat.reduceMul, Nat.reduceBEq, Option.getD_none, Int.reduceToNat, Nat.reduceSub, Nat.reduceLT, Nat.reduceLeDiff, Int.reduceLE, Int.reduceLT, reduceCtorEq, h3, k0], by simp only [go_sem, ↓reduceIte, Nat.reduceEqDiff, Nat.reduceAdd, Nat.reduceMul, Nat.reduceBEq, Option.getD_none, Int.reduceToNat, Nat.reduceSub, Nat.reduceLT, Nat.reduceLeDiff, Int.reduceLE, Int.reduceLT, reduceCtorEq, k0]; rw [← fill_set hlt]⟩
  · have hi' : ¬ (k : Int) < x.length := by omega
    obtain rfl : k = x.length := by omega
    have hlen := fill_len (f := knownD) (z := (.agg [Ii 0, Ii 0])) (Nat.le_refl x.length)
    simp only [go_sem, ↓reduceIte, Nat.reduceEqDiff, Nat.reduceAdd, Nat.reduceMul, Nat.reduceBEq, Option.getD_none, Int.reduceToNat, Nat.reduceSub, Nat.reduceLT, Nat.reduceLeDiff, Int.reduceLE, Int.reduceLT, reduceCtorEq, h4, h3, hi', hm, hlen, k0]
    simp only [fill_all, mkR_one, take_map_len]
theorem laws_toBoolS.fcu (x : List Bool) (h : x.length ≤ 1048576) :
    FCt prog F_laws_toBoolS [.ro] [bools x] (bools x) [] := by
  refine fct_run laws_toBoolS.ok rfl ?_
  have h0 := h
  have c1 : (x.length : Int) * (1 : Nat) ≤ 70368744177664 := by omega
  simp only [go_sem, ↓reduceIte, Nat.reduceEqDiff, Nat.reduceAdd, Nat.reduceMul, Nat.reduceBEq, Option.getD_none, Int.reduceToNat, Nat.reduceSub, Nat.reduceLT, Nat.reduceLeDiff, Int.reduceLE, Int.reduceLT, reduceCtorEq, Int.le_refl, c1]
  refine R_loop (α := Nat) (fun k s' M' => k ≤ x.length ∧ s' 4 = aI k ∧ ∃ v, s' 3 = .sl 256 v 0 x.length 1 ∧ M'.m 256 = some (.arr v true 1 (fill Bb (Bb false) x k))) (fun k => x.length - k) 0
    ⟨by omega, by simp only [go_sem, ↓reduceIte, Nat.reduceEqDiff, Nat.reduceAdd, Nat.reduceMul, Nat.reduceBEq, Option.getD_none, Int.reduceToNat, Nat.reduceSub, Nat.reduceLT, Nat.reduceLeDiff, Int.reduceLE, Int.reduceLT, reduceCtorEq]; rfl, _, by simp only [go_sem, ↓reduceIte, Nat.reduceEqDiff, Nat.reduceAdd, Nat.reduceMul, Nat.reduceBEq, Option.getD_none, Int.reduceToNat, Nat.reduceSub, Nat.reduceLT, Nat.reduceLeDiff, Int.reduceLE, Int.reduceLT, reduceCtorEq]; rfl, by simp only [go_sem, ↓reduceIte, Nat.reduceEqDiff, Nat.reduceAdd, Nat.reduceMul, Nat.reduceBEq, Option.getD_none, Int.reduceToNat, Nat.reduceSub, Nat.reduceLT, Nat.reduceLeDiff, Int.reduceLE, Int.reduceLT, reduceCtorEq]; rw [fill_zero]⟩ ?_
  rintro k s' M' ⟨hk, h4, v, h3, hm⟩ ho
  unfold laws_toBoolS.b0
  have k0 : s' 0 = .dat none (bools x) := by rw [ho 0 rfl]; simp only [go_sem, ↓reduceIte, Nat.reduceEqDiff, Nat.reduceAdd, Nat.reduceMul, Nat.reduceBEq, Option.getD_none, Int.reduceToNat, Nat.reduceSub, Nat.reduceLT, Nat.reduceLeDiff, Int.reduceLE, Int.reduceLT, reduceCtorEq]
  clear ho
  by_cases hlt : k < x.length
  · have hi' : (k : Int) < x.length := by omega
    have ga : x[k]? = some x[k] := List.getElem?_eq_getElem hlt
    have hw : IntKind.i64.wrap (k + 1) = ((k + 1 : Nat) : Int) := wrap_k hlt (by omega)
    have hf := fill_get (f := Bb) (z := (Bb false)) hlt
    simp only [go_sem, ↓reduceIte, Nat.reduceEqDiff, Nat.reduceAdd, Nat.reduceMul, Nat.reduceBEq, Option.getD_none, Int.reduceToNat, Nat.reduceSub, Nat.reduceLT, Nat.reduceLeDiff, Int.reduceLE, Int.reduceLT, reduceCtorEq, h4, h3, hi', ga, hw, hm, hf, k0]
    refine ⟨k + 1, by dsimp only; omega, by omega, by simp only [go_sem, ↓reduceIte, Nat.reduceEqDiff, Nat.reduceAdd, Nat.reduceMul, Nat.reduceBEq, Option.getD_none, Int.reduceToNat, Nat.reduceSub, Nat.reduceLT, Nat.reduceLeDiff, Int.reduceLE, Int.reduceLT, reduceCtorEq, k0], v, by simp only [go_sem, ↓reduceIte, Nat.reduceEqDiff, Nat.reduceAdd, Nat.reduceMul, Nat.reduceBEq, Option.getD_none, Int.reduceToNat, Nat.reduceSub, Nat.reduceLT, Nat.reduceLeDiff, Int.reduceLE, Int.reduceLT, reduceCtorEq, h3, k0], by simp only [go_sem, ↓reduceIte, Nat.reduceEqDiff, Nat.reduceAdd, Nat.reduceMul, Nat.reduceBEq, Option.getD_none, Int.reduceToNat, Nat.reduceSub, Nat.reduceLT, Nat.reduceLeDiff, Int.reduceLE, Int.reduceLT, reduceCtorEq, k0]; rw [← fill_set hlt]⟩
  · have hi' : ¬ (k : Int) < x.length := by omega
    obtain rfl : k = x.length := by omega
    have hlen := fill_len (f := Bb) (z := (Bb false)) (Nat.le_refl x.length)
    simp only [go_sem, ↓reduceIte, Nat.reduceEqDiff, Nat.reduceAdd, Nat.reduceMul, Nat.reduceBEq, Option.getD_none, Int.reduceToNat, Nat.reduceSub, Nat.reduceLT, Nat.reduceLeDiff, Int.reduceLE, Int.reduceLT, reduceCtorEq, h4, h3, hi', hm, hlen, k0]
    simp only [fill_all, mkR_one, take_map_len]
theorem laws_eqStretchS.fcu (x : List (Int × Int)) (h : x.length ≤ 1048576) :
    FCt prog F_laws_eqStretchS [.ro, .ro] [strs x, strs x] (Bb true) [] := by
  refine fct_run laws_eqStretchS.ok rfl ?_
  have h0 := h
  simp only [go_sem, ↓reduceIte, Nat.reduceEqDiff, Nat.reduceAdd, Nat.reduceMul, Nat.reduceBEq, Option.getD_none, Int.reduceToNat, Nat.reduceSub, Nat.reduceLT, Nat.reduceLeDiff, Int.reduceLE, Int.reduceLT, reduceCtorEq]
  refine R_loop (α := Nat) (fun k s' M' => k ≤ x.length ∧ s' 5 = aI k) (fun k => x.length - k) 0 ⟨by omega, by simp only [go_sem, ↓reduceIte, Nat.reduceEqDiff, Nat.reduceAdd, Nat.reduceMul, Nat.reduceBEq, Option.getD_none, Int.reduceToNat, Nat.reduceSub, Nat.reduceLT, Nat.reduceLeDiff, Int.reduceLE, Int.reduceLT, reduceCtorEq]; rfl⟩ ?_
  rintro k s' M' ⟨hk, h5⟩ ho
  unfold laws_eqStretchS.b0
  have k0 : s' 0 = .dat none (strs x) := by rw [ho 0 rfl]; simp only [go_sem, ↓reduceIte, Nat.reduceEqDiff, Nat.reduceAdd, Nat.reduceMul, Nat.reduceBEq, Option.getD_none, Int.reduceToNat, Nat.reduceSub, Nat.reduceLT, Nat.reduceLeDiff, Int.reduceLE, Int.reduceLT, reduceCtorEq]
  have k1 : s' 1 = .dat none (strs x) := by rw [ho 1 rfl]; simp only [go_sem, ↓reduceIte, Nat.reduceEqDiff, Nat.reduceAdd, Nat.reduceMul, Nat.reduceBEq, Option.getD_none, Int.reduceToNat, Nat.reduceSub, Nat.reduceLT, Nat.reduceLeDiff, Int.reduceLE, Int.reduceLT, reduceCtorEq]
  clear ho
  by_cases hlt : k < x.length
  · have hi' : (k : Int) < x.length := by omega
    have ga : x[k]? = some x[k] := List.getElem?_eq_getElem hlt
    have hw : IntKind.i64.wrap (k + 1) = ((k + 1 : Nat) : Int) := wrap_k hlt (by omega)
    simp only [go_sem, ↓reduceIte, Nat.reduceEqDiff, Nat.reduceAdd, Nat.reduceMul, Nat.reduceBEq, Option.getD_none, Int.reduceToNat, Nat.reduceSub, Nat.reduceLT, Nat.reduceLeDiff, Int.reduceLE, Int.reduceLT, reduceCtorEq, h5, hi', ga, hw, k0, k1]
    refine fcW_bool (laws_eqStretch.fcu _) ?_
    simp only [go_sem, ↓reduceIte, Nat.reduceEqDiff, Nat.reduceAdd, Nat.reduceMul, Nat.reduceBEq, Option.getD_none, Int.reduceToNat, Nat.reduceSub, Nat.reduceLT, Nat.reduceLeDiff, Int.reduceLE, Int.reduceLT, reduceCtorEq, h5, hw, k0, k1]
    exact ⟨k + 1, by dsimp only; omega, by omega, by simp only [go_sem, ↓reduceIte, Nat.reduceEqDiff, Nat.reduceAdd, Nat.reduceMul, Nat.reduceBEq, Option.getD_none, Int.reduceToNat, Nat.reduceSub, Nat.reduceLT, Nat.reduceLeDiff, Int.reduceLE, Int.reduceLT, reduceCtorEq, k0, k1]⟩
  · have hi' : ¬ (k : Int) < x.length := by omega
    obtain rfl : k = x.length := by omega
    simp only [go_sem, ↓reduceIte, Nat.reduceEqDiff, Nat.reduceAdd, Nat.reduceMul, Nat.reduceBEq, Option.getD_none, Int.reduceToNat, Nat.reduceSub, Nat.reduceLT, Nat.reduceLeDiff, Int.reduceLE, Int.reduceLT, reduceCtorEq, h5, hi', k0, k1]
theorem laws_eqKnownS.fcu (x : List (Int × Int)) (h : x.length ≤ 1048576) :
    FCt prog F_laws_eqKnownS [.ro, .ro] [knowns x, knowns x] (Bb true) [] := by
  refine fct_run laws_eqKnownS.ok rfl ?_
  have h0 := h
  simp only [go_sem, ↓reduceIte, Nat.reduceEqDiff, Nat.reduceAdd, Nat.reduceMul, Nat.reduceBEq, Option.getD_none, Int.reduceToNat, Nat.reduceSub, Nat.reduceLT, Nat.reduceLeDiff, Int.reduceLE, Int.reduceLT, reduceCtorEq]
  refine R_loop (α := Nat) (fun k s' M' => k ≤ x.length ∧ s' 5 = aI k) (fun k => x.length - k) 0 ⟨by omega, by simp only [go_sem, ↓reduceIte, Nat.reduceEqDiff, Nat.reduceAdd, Nat.reduceMul, Nat.reduceBEq, Option.getD_none, Int.reduceToNat, Nat.reduceSub, Nat.reduceLT, Nat.reduceLeDiff, Int.reduceLE, Int.reduceLT, reduceCtorEq]; rfl⟩ ?_
  rintro k s' M' ⟨hk, h5⟩ ho
  unfold laws_eqKnownS.b0
  have k0 : s' 0 = .dat none (knowns x) := by rw [ho 0 rfl]; simp only [go_sem, ↓reduceIte, Nat.reduceEqDiff, Nat.reduceAdd, Nat.reduceMul, Nat.reduceBEq, Option.getD_none, Int.reduceToNat, Nat.reduceSub, Nat.reduceLT, Nat.reduceLeDiff, Int.reduceLE, Int.reduceLT, reduceCtorEq]
  have k1 : s' 1 = .dat none (knowns x) := by rw [ho 1 rfl]; simp only [go_sem, ↓reduceIte, Nat.reduceEqDiff, Nat.reduceAdd, Nat.reduceMul, Nat.reduceBEq, Option.getD_none, Int.reduceToNat, Nat.reduceSub, Nat.reduceLT, Nat.reduceLeDiff, Int.reduceLE, Int.reduceLT, reduceCtorEq]
  clear ho
  by_cases hlt : k < x.length
  · have hi' : (k : Int) < x.length := by omega
    have ga : x[k]? = some x[k] := List.getElem?_eq_getElem hlt
    have hw : IntKind.i64.wrap (k + 1) = ((k + 1 : Nat) : Int) := wrap_k hlt (by omega)
    simp only [go_sem, ↓reduceIte, Nat.reduceEqDiff, Nat.reduceAdd, Nat.reduceMul, Nat.reduceBEq, Option.getD_none, Int.reduceToNat, Nat.reduceSub, Nat.reduceLT, Nat.reduceLeDiff, Int.reduceLE, Int.reduceLT, reduceCtorEq, h5, hi', ga, hw, k0, k1]
    refine fcW_bool (laws_eqKnown.fcu _) ?_
    simp only [go_sem, ↓reduceIte, Nat.reduceEqDiff, Nat.reduceAdd, Nat.reduceMul, Nat.reduceBEq, Option.getD_none, Int.reduceToNat, Nat.reduceSub, Nat.reduceLT, Nat.reduceLeDiff, Int.reduceLE, Int.reduceLT, reduceCtorEq, h5, hw, k0, k1]
    exact ⟨k + 1, by dsimp only; omega, by omega, by simp only [go_sem, ↓reduceIte, Nat.reduceEqDiff, Nat.reduceAdd, Nat.reduceMul, Nat.reduceBEq, Option.getD_none, Int.reduceToNat, Nat.reduceSub, Nat.reduceLT, Nat.reduceLeDiff, Int.reduceLE, Int.reduceLT, reduceCtorEq, k0, k1]⟩
  · have hi' : ¬ (k : Int) < x.length := by omega
    obtain rfl : k = x.length := by omega
    simp only [go_sem, ↓reduceIte, Nat.reduceEqDiff, Nat.reduceAdd, Nat.reduceMul, Nat.reduceBEq, Option.getD_none, Int.reduceToNat, Nat.reduceSub, Nat.reduceLT, Nat.reduceLeDiff, Int.reduceLE, Int.reduceLT, reduceCtorEq, h5, hi', k0, k1]
theorem laws_eqBoolS.fcu (x : List Bool) (h : x.length ≤ 1048576) :
    FCt prog F_laws_eqBoolS [.ro, .ro] [bools x, bools x] (Bb true) [] := by
  refine fct_run laws_eqBoolS.ok rfl ?_
  have h0 := h
  simp only [go_sem, ↓reduceIte, Nat.reduceEqDiff, Nat.reduceAdd, Nat.reduceMul, Nat.reduceBEq, Option.getD_none, Int.reduceToNat, Nat.reduceSub, Nat.reduceLT, Nat.reduceLeDiff, Int.reduceLE, Int.reduceLT, reduceCtorEq]
  refine R_loop (α := Nat) (fun k s' M' => k ≤ x.length ∧ s' 5 = aI k) (fun k => x.length - k) 0 ⟨by omega, by simp only [go_sem, ↓reduceIte, Nat.reduceEqDiff, Nat.reduceAdd, Nat.reduceMul, Nat.reduceBEq, Option.getD_none, Int.reduceToNat, Nat.reduceSub, Nat.reduceLT, Nat.reduceLeDiff, Int.reduceLE, Int.reduceLT, reduceCtorEq]; rfl⟩ ?_
  rintro k s' M' ⟨hk, h5⟩ ho
  unfold laws_eqBoolS.b0
  have k0 : s' 0 = .dat none (bools x) := by rw [ho 0 rfl]; simp only [go_sem, ↓reduceIte, Nat.reduceEqDiff, Nat.reduceAdd, Nat.reduceMul, Nat.reduceBEq, Option.getD_none, Int.reduceToNat, Nat.reduceSub, Nat.reduceLT, Nat.reduceLeDiff, Int.reduceLE, Int.reduceLT, reduceCtorEq]
  have k1 : s' 1 = .dat none (bools x) := by rw [ho 1 rfl]; simp only [go_sem, ↓reduceIte, Nat.reduceEqDiff, Nat.reduceAdd, Nat.reduceMul, Nat.reduceBEq, Option.getD_none, Int.reduceToNat, Nat.reduceSub, Nat.reduceLT, Nat.reduceLeDiff, Int.reduceLE, Int.reduceLT, reduceCtorEq]
  clear ho
  by_cases hlt : k < x.length
  · have hi' : (k : Int) < x.length := by omega
    have ga : x[k]? = some x[k] := List.getElem?_eq_getElem hlt
    have hw : IntKind.i64.wrap (k + 1) = ((k + 1 : Nat) : Int) := wrap_k hlt (by omega)
    have hbb : (x[k] == x[k]) = true := by simp
    simp only [go_sem, ↓reduceIte, Nat.reduceEqDiff, Nat.reduceAdd, Nat.reduceMul, Nat.reduceBEq, Option.getD_none, Int.reduceToNat, Nat.reduceSub, Nat.reduceLT, Nat.reduceLeDiff, Int.reduceLE, Int.reduceLT, reduceCtorEq, h5, hi', ga, hw, hbb, k0, k1]
    exact ⟨k + 1, by dsimp only; omega, by omega, by simp only [go_sem, ↓reduceIte, Nat.reduceEqDiff, Nat.reduceAdd, Nat.reduceMul, Nat.reduceBEq, Option.getD_none, Int.reduceToNat, Nat.reduceSub, Nat.reduceLT, Nat.reduceLeDiff, Int.reduceLE, Int.reduceLT, reduceCtorEq, k0, k1]⟩
  · have hi' : ¬ (k : Int) < x.length := by omega
    obtain rfl : k = x.length := by omega
    simp only [go_sem, ↓reduceIte, Nat.reduceEqDiff, Nat.reduceAdd, Nat.reduceMul, Nat.reduceBEq, Option.getD_none, Int.reduceToNat, Nat.reduceSub, Nat.reduceLT, Nat.reduceLeDiff, Int.reduceLE, Int.reduceLT, reduceCtorEq, h5, hi', k0, k1]
theorem laws_szStretchS.fcu (x : List (Int × Int)) (n : Int) (hn : 0 ≤ n ∧ n ≤ 1048576) (hw : x.length ≤ 9223372036854775807) :
    FCt prog F_laws_szStretchS [.ro, .ro] [strs x, Ii n] (Ii (if n < (x.length : Nat) then -1 else n - (x.length : Nat))) [] := by
  refine fct_run laws_szStretchS.ok rfl ?_
  have hx : IntKind.i64.wrap (n - x.length) = n - x.length := wrap_in (by omega) (by omega)
  by_cases h : n < (x.length : Nat)
  · have h' : n - x.length < 0 := by omega
    simp only [go_sem, ↓reduceIte, Nat.reduceEqDiff, Nat.reduceAdd, Nat.reduceMul, Nat.reduceBEq, Option.getD_none, Int.reduceToNat, Nat.reduceSub, Nat.reduceLT, Nat.reduceLeDiff, Int.reduceLE, Int.reduceLT, reduceCtorEq, hx, h, h']
  · have h' : ¬ n - x.length < 0 := by omega
    simp only [go_sem, ↓reduceIte, Nat.reduceEqDiff, Nat.reduceAdd, Nat.reduceMul, Nat.reduceBEq, Option.getD_none, Int.reduceToNat, Nat.reduceSub, Nat.reduceLT, Nat.reduceLeDiff, Int.reduceLE, Int.reduceLT, reduceCtorEq, hx, h, h']
theorem laws_szKnownS.fcu (x : List (Int × Int)) (n : Int) (hn : 0 ≤ n ∧ n ≤ 1048576) (hw : x.length ≤ 9223372036854775807) :
    FCt prog F_laws_szKnownS [.ro, .ro] [knowns x, Ii n] (Ii (if n < (x.length : Nat) then -1 else n - (x.length : Nat))) [] := by
  refine fct_run laws_szKnownS.ok rfl ?_
  have hx : IntKind.i64.wrap (n - x.length) = n - x.length := wrap_in (by omega) (by omega)
  by_cases h : n < (x.length : Nat)
  · have h' : n - x.length < 0 := by omega
    simp only [go_sem, ↓reduceIte, Nat.reduceEqDiff, Nat.reduceAdd, Nat.reduceMul, Nat.reduceBEq, Option.getD_none, Int.reduceToNat, Nat.reduceSub, Nat.reduceLT, Nat.reduceLeDiff, Int.reduceLE, Int.reduceLT, reduceCtorEq, hx, h, h']
  · have h' : ¬ n - x.length < 0 := by omega
    simp only [go_sem, ↓reduceIte, Nat.reduceEqDiff, Nat.reduceAdd, Nat.reduceMul, Nat.reduceBEq, Option.getD_none, Int.reduceToNat, Nat.reduceSub, Nat.reduceLT, Nat.reduceLeDiff, Int.reduceLE, Int.reduceLT, reduceCtorEq, hx, h, h']
theorem laws_szBoolS.fcu (x : List Bool) (n : Int) (hn : 0 ≤ n ∧ n ≤ 1048576) (hw : x.length ≤ 9223372036854775807) :
    FCt prog F_laws_szBoolS [.ro, .ro] [bools x, Ii n] (Ii (if n < (x.length : Nat) then -1 else n - (x.length : Nat))) [] := by
  refine fct_run laws_szBoolS.ok rfl ?_
  have hx : IntKind.i64.wrap (n - x.length) = n - x.length := wrap_in (by omega) (by omega)
  by_cases h : n < (x.length : Nat)
  · have h' : n - x.length < 0 := by omega
    simp only [go_sem, ↓reduceIte, Nat.reduceEqDiff, Nat.reduceAdd, Nat.reduceMul, Nat.reduceBEq, Option.getD_none, Int.reduceToNat, Nat.reduceSub, Nat.reduceLT, Nat.reduceLeDiff, Int.reduceLE, Int.reduceLT, reduceCtorEq, hx, h, h']
  · have h' : ¬ n - x.length < 0 := by omega
    simp only [go_sem, ↓reduceIte, Nat.reduceEqDiff, Nat.reduceAdd, Nat.reduceMul, Nat.reduceBEq, Option.getD_none, Int.reduceToNat, Nat.reduceSub, Nat.reduceLT, Nat.reduceLeDiff, Int.reduceLE, Int.reduceLT, reduceCtorEq, hx, h, h']

theorem laws_markStretchS.fcu (x : List (Int × Int)) (n : Int) (h : x.length ≤ 1048576) (hc : (2 * x.length) ≤ 16777216) (hn : 0 ≤ n ∧ n + ((2 * x.length) : Nat) ≤ 576460752303423488) :
    FCt prog F_laws_markStretchS [.io, .ro] [strs x, Ii n] (Ii (n + ((2 * x.length) : Nat))) [strs (mkStretchS n x)] := by
  refine fct_run laws_markStretchS.ok rfl ?_
  have hL : ((mkStretchS n x).map strD).length = (x.map strD).length := by simp [mkStretchS_len]
  simp only [go_sem, ↓reduceIte, Nat.reduceEqDiff, Nat.reduceAdd, Nat.reduceMul, Nat.reduceBEq, Option.getD_none, Int.reduceToNat, Nat.reduceSub, Nat.reduceLT, Nat.reduceLeDiff, Int.reduceLE, Int.reduceLT, reduceCtorEq]
  refine R_loop (α := Nat) (fun k s' M' => k ≤ x.length ∧ s' 5 = aI k ∧ s' 1 = aI (n + 2 * k) ∧ M'.m 0 = some (.arr 0 true 2 (ovr ((mkStretchS n x).map strD) (x.map strD) k))) (fun k => x.length - k) 0
    ⟨by omega, by simp only [go_sem, ↓reduceIte, Nat.reduceEqDiff, Nat.reduceAdd, Nat.reduceMul, Nat.reduceBEq, Option.getD_none, Int.reduceToNat, Nat.reduceSub, Nat.reduceLT, Nat.reduceLeDiff, Int.reduceLE, Int.reduceLT, reduceCtorEq]; rfl, by simp only [go_sem, ↓reduceIte, Nat.reduceEqDiff, Nat.reduceAdd, Nat.reduceMul, Nat.reduceBEq, Option.getD_none, Int.reduceToNat, Nat.reduceSub, Nat.reduceLT, Nat.reduceLeDiff, Int.reduceLE, Int.reduceLT, reduceCtorEq]; simp, by simp only [go_sem, ↓reduceIte, Nat.reduceEqDiff, Nat.reduceAdd, Nat.reduceMul, Nat.reduceBEq, Option.getD_none, Int.reduceToNat, Nat.reduceSub, Nat.reduceLT, Nat.reduceLeDiff, Int.reduceLE, Int.reduceLT, reduceCtorEq]; simp [ovr_zero]⟩ ?_
  rintro k s' M' ⟨hk, h5, h1, hm⟩ ho
  unfold laws_markStretchS.b0
  have k0 : s' 0 = .sl 0 0 0 x.length 2 := by rw [ho 0 rfl]; simp only [go_sem, ↓reduceIte, Nat.reduceEqDiff, Nat.reduceAdd, Nat.reduceMul, Nat.reduceBEq, Option.getD_none, Int.reduceToNat, Nat.reduceSub, Nat.reduceLT, Nat.reduceLeDiff, Int.reduceLE, Int.reduceLT, reduceCtorEq]
  clear ho
  by_cases hlt : k < x.length
  · have hi' : (k : Int) < x.length := by omega
    have ga : x[k]? = some x[k] := List.getElem?_eq_getElem hlt
    have hw : IntKind.i64.wrap (k + 1) = ((k + 1 : Nat) : Int) := wrap_k hlt (by omega)
    have hw1 : IntKind.i64.wrap (n + 2 * k + 1) = n + 2 * k + 1 := by rw [wrap_in (by omega) (by omega)]; try omega
    have hw2 : IntKind.i64.wrap (n + 2 * k + 1 + 1) = n + 2 * (k + 1 : Nat) := by rw [wrap_in (by omega) (by omega)]; try omega
    have hmk : (mkStretchS n x)[k]? = some (⟨n + 2 * (k : Int), n + 2 * (k : Int) + 1⟩) := by simp [mkStretchS, hlt]
    have hg : (ovr ((mkStretchS n x).map strD) (x.map strD) k)[k]? = some (strD x[k]) := by rw [ovr_get hL (by simpa using hlt)]; simp [hlt]
    have hkl : k < (ovr ((mkStretchS n x).map strD) (x.map strD) k).length := by rw [ovr_len hL (by simp; omega)]; simpa using hlt
    have hg2 : ∀ d, ((ovr ((mkStretchS n x).map strD) (x.map strD) k).set k d)[k]? = some d := fun d => by rw [List.getElem?_set, if_pos rfl, if_pos hkl]
    have hs : (ovr ((mkStretchS n x).map strD) (x.map strD) k).set k (.agg [.int .i64 (n + 2 * k), .int .i64 (n + 2 * k + 1)]) = ovr ((mkStretchS n x).map strD) (x.map strD) (k + 1) := ovr_set hL (by simpa using hlt) (by rw [List.getElem?_map, hmk]; rfl)
    simp only [go_sem, ↓reduceIte, Nat.reduceEqDiff, Nat.reduceAdd, Nat.reduceMul, Nat.reduceBEq, Option.getD_none, Int.reduceToNat, Nat.reduceSub, Nat.reduceLT, Nat.reduceLeDiff, Int.reduceLE, Int.reduceLT, reduceCtorEq, hi', hw, hw1, hw2, hg, hg2, List.set_set, hs, k0, h1, h5, hm]
    exact ⟨k + 1, by dsimp only; omega, by omega, by simp only [go_sem, ↓reduceIte, Nat.reduceEqDiff, Nat.reduceAdd, Nat.reduceMul, Nat.reduceBEq, Option.getD_none, Int.reduceToNat, Nat.reduceSub, Nat.reduceLT, Nat.reduceLeDiff, Int.reduceLE, Int.reduceLT, reduceCtorEq, k0, h1, h5, hm], by simp only [go_sem, ↓reduceIte, Nat.reduceEqDiff, Nat.reduceAdd, Nat.reduceMul, Nat.reduceBEq, Option.getD_none, Int.reduceToNat, Nat.reduceSub, Nat.reduceLT, Nat.reduceLeDiff, Int.reduceLE, Int.reduceLT, reduceCtorEq, k0, h1, h5, hm], by simp only [go_sem, ↓reduceIte, Nat.reduceEqDiff, Nat.reduceAdd, Nat.reduceMul, Nat.reduceBEq, Option.getD_none, Int.reduceToNat, Nat.reduceSub, Nat.reduceLT, Nat.reduceLeDiff, Int.reduceLE, Int.reduceLT, reduceCtorEq, k0, h1, h5, hm]⟩
  · have hi' : ¬ (k : Int) < x.length := by omega
    obtain rfl : k = x.length := by omega
    have hall : ovr ((mkStretchS n x).map strD) (x.map strD) x.length = (mkStretchS n x).map strD := by have := ovr_all hL; simpa using this
    have htk : ((mkStretchS n x).map strD).take x.length = (mkStretchS n x).map strD := List.take_of_length_le (by simp [mkStretchS_len])
    have hce : (((2 * x.length) : Nat) : Int) = 2 * x.length := by omega
    simp only [go_sem, ↓reduceIte, Nat.reduceEqDiff, Nat.reduceAdd, Nat.reduceMul, Nat.reduceBEq, Option.getD_none, Int.reduceToNat, Nat.reduceSub, Nat.reduceLT, Nat.reduceLeDiff, Int.reduceLE, Int.reduceLT, reduceCtorEq, hi', hall, mkStretchS_len, htk, hce, k0, h1, h5, hm]
    try rfl
theorem laws_markKnownS.fcu (x : List (Int × Int)) (n : Int) (h : x.length ≤ 1048576) (hc : (2 * x.length) ≤ 16777216) (hn : 0 ≤ n ∧ n + ((2 * x.length) : Nat) ≤ 576460752303423488) :
    FCt prog F_laws_markKnownS [.io, .ro] [knowns x, Ii n] (Ii (n + ((2 * x.length) : Nat))) [knowns (mkKnownS n x)] := by
  refine fct_run laws_markKnownS.ok rfl ?_
  have hL : ((mkKnownS n x).map knownD).length = (x.map knownD).length := by simp [mkKnownS_len]
  simp only [go_sem, ↓reduceIte, Nat.reduceEqDiff, Nat.reduceAdd, Nat.reduceMul, Nat.reduceBEq, Option.getD_none, Int.reduceToNat, Nat.reduceSub, Nat.reduceLT, Nat.reduceLeDiff, Int.reduceLE, Int.reduceLT, reduceCtorEq]
  refine R_loop (α := Nat) (fun k s' M' => k ≤ x.length ∧ s' 5 = aI k ∧ s' 1 = aI (n + 2 * k) ∧ M'.m 0 = some (.arr 0 true 2 (ovr ((mkKnownS n x).map knownD) (x.map knownD) k))) (fun k => x.length - k) 0
    ⟨by omega, by simp only [go_sem, ↓reduceIte, Nat.reduceEqDiff, Nat.reduceAdd, Nat.reduceMul, Nat.reduceBEq, Option.getD_none, Int.reduceToNat, Nat.reduceSub, Nat.reduceLT, Nat.reduceLeDiff, Int.reduceLE, Int.reduceLT, reduceCtorEq]; rfl, by simp only [go_sem, ↓reduceIte, Nat.reduceEqDiff, Nat.reduceAdd, Nat.reduceMul, Nat.reduceBEq, Option.getD_none, Int.reduceToNat, Nat.reduceSub, Nat.reduceLT, Nat.reduceLeDiff, Int.reduceLE, Int.reduceLT, reduceCtorEq]; simp, by simp only [go_sem, ↓reduceIte, Nat.reduceEqDiff, Nat.reduceAdd, Nat.reduceMul, Nat.reduceBEq, Option.getD_none, Int.reduceToNat, Nat.reduceSub, Nat.reduceLT, Nat.reduceLeDiff, Int.reduceLE, Int.reduceLT, reduceCtorEq]; simp [ovr_zero]⟩ ?_
  rintro k s' M' ⟨hk, h5, h1, hm⟩ ho
  unfold laws_markKnownS.b0
  have k0 : s' 0 = .sl 0 0 0 x.length 2 := by rw [ho 0 rfl]; simp only [go_sem, ↓reduceIte, Nat.reduceEqDiff, Nat.reduceAdd, Nat.reduceMul, Nat.reduceBEq, Option.getD_none, Int.reduceToNat, Nat.reduceSub, Nat.reduceLT, Nat.reduceLeDiff, Int.reduceLE, Int.reduceLT, reduceCtorEq]
  clear ho
  by_cases hlt : k < x.length
  · have hi' : (k : Int) < x.length := by omega
    have ga : x[k]? = some x[k] := List.getElem?_eq_getElem hlt
    have hw : IntKind.i64.wrap (k + 1) = ((k + 1 : Nat) : Int) := wrap_k hlt (by omega)
    have hw1 : IntKind.i64.wrap (n + 2 * k + 1) = n + 2 * k + 1 := by rw [wrap_in (by omega) (by omega)]; try omega
    have hw2 : IntKind.i64.wrap (n + 2 * k + 1 + 1) = n + 2 * (k + 1 : Nat) := by rw [wrap_in (by omega) (by omega)]; try omega
    have hmk : (mkKnownS n x)[k]? = some (⟨n + 2 * (k : Int), n + 2 * (k : Int) + 1⟩) := by simp [mkKnownS, hlt]
    have hg : (ovr ((mkKnownS n x).map knownD) (x.map knownD) k)[k]? = some (knownD x[k]) := by rw [ovr_get hL (by simpa using hlt)]; simp [hlt]
    have hkl : k < (ovr ((mkKnownS n x).map knownD) (x.map knownD) k).length := by rw [ovr_len hL (by simp; omega)]; simpa using hlt
    have hg2 : ∀ d, ((ovr ((mkKnownS n x).map knownD) (x.map knownD) k).set k d)[k]? = some d := fun d => by rw [List.getElem?_set, if_pos rfl, if_pos hkl]
    have hs : (ovr ((mkKnownS n x).map knownD) (x.map knownD) k).set k (.agg [.int .i64 (n + 2 * k), .int .i64 (n + 2 * k + 1)]) = ovr ((mkKnownS n x).map knownD) (x.map knownD) (k + 1) := ovr_set hL (by simpa using hlt) (by rw [List.getElem?_map, hmk]; rfl)
    simp only [go_sem, ↓reduceIte, Nat.reduceEqDiff, Nat.reduceAdd, Nat.reduceMul, Nat.reduceBEq, Option.getD_none, Int.reduceToNat, Nat.reduceSub, Nat.reduceLT, Nat.reduceLeDiff, Int.reduceLE, Int.reduceLT, reduceCtorEq, hi', hw, hw1, hw2, hg, hg2, List.set_set, hs, k0, h1, h5, hm]
    exact ⟨k + 1, by dsimp only; omega, by omega, by simp only [go_sem, ↓reduceIte, Nat.reduceEqDiff, Nat.reduceAdd, Nat.reduceMul, Nat.reduceBEq, Option.getD_none, Int.reduceToNat, Nat.reduceSub, Nat.reduceLT, Nat.reduceLeDiff, Int.reduceLE, Int.reduceLT, reduceCtorEq, k0, h1, h5, hm], by simp only [go_sem, ↓reduceIte, Nat.reduceEqDiff, Nat.reduceAdd, Nat.reduceMul, Nat.reduceBEq, Option.getD_none, Int.reduceToNat, Nat.reduceSub, Nat.reduceLT, Nat.reduceLeDiff, Int.reduceLE, Int.reduceLT, reduceCtorEq, k0, h1, h5, hm], by simp only [go_sem, ↓reduceIte, Nat.reduceEqDiff, Nat.reduceAdd, Nat.reduceMul, Nat.reduceBEq, Option.getD_none, Int.reduceToNat, Nat.reduceSub, Nat.reduceLT, Nat.reduceLeDiff, Int.reduceLE, Int.reduceLT, reduceCtorEq, k0, h1, h5, hm]⟩
  · have hi' : ¬ (k : Int) < x.length := by omega
    obtain rfl : k = x.length := by omega
    have hall : ovr ((mkKnownS n x).map knownD) (x.map knownD) x.length = (mkKnownS n x).map knownD := by have := ovr_all hL; simpa using this
    have htk : ((mkKnownS n x).map knownD).take x.length = (mkKnownS n x).map knownD := List.take_of_length_le (by simp [mkKnownS_len])
    have hce : (((2 * x.length) : Nat) : Int) = 2 * x.length := by omega
    simp only [go_sem, ↓reduceIte, Nat.reduceEqDiff, Nat.reduceAdd, Nat.reduceMul, Nat.reduceBEq, Option.getD_none, Int.reduceToNat, Nat.reduceSub, Nat.reduceLT, Nat.reduceLeDiff, Int.reduceLE, Int.reduceLT, reduceCtorEq, hi', hall, mkKnownS_len, htk, hce, k0, h1, h5, hm]
    try rfl
theorem laws_markBoolS.fcu (x : List Bool) (n : Int) (h : x.length ≤ 1048576) (hc : x.length ≤ 16777216) (hn : 0 ≤ n ∧ n + (x.length : Nat) ≤ 576460752303423488) :
    FCt prog F_laws_markBoolS [.io, .ro] [bools x, Ii n] (Ii (n + (x.length : Nat))) [bools (mkBoolS n x)] := by
  refine fct_run laws_markBoolS.ok rfl ?_
  have hL : ((mkBoolS n x).map Bb).length = (x.map Bb).length := by simp [mkBoolS_len]
  simp only [go_sem, ↓reduceIte, Nat.reduceEqDiff, Nat.reduceAdd, Nat.reduceMul, Nat.reduceBEq, Option.getD_none, Int.reduceToNat, Nat.reduceSub, Nat.reduceLT, Nat.reduceLeDiff, Int.reduceLE, Int.reduceLT, reduceCtorEq]
  refine R_loop (α := Nat) (fun k s' M' => k ≤ x.length ∧ s' 5 = aI k ∧ s' 1 = aI (n + k) ∧ M'.m 0 = some (.arr 0 true 1 (ovr ((mkBoolS n x).map Bb) (x.map Bb) k))) (fun k => x.length - k) 0
    ⟨by omega, by simp only [go_sem, ↓reduceIte, Nat.reduceEqDiff, Nat.reduceAdd, Nat.reduceMul, Nat.reduceBEq, Option.getD_none, Int.reduceToNat, Nat.reduceSub, Nat.reduceLT, Nat.reduceLeDiff, Int.reduceLE, Int.reduceLT, reduceCtorEq]; rfl, by simp only [go_sem, ↓reduceIte, Nat.reduceEqDiff, Nat.reduceAdd, Nat.reduceMul, Nat.reduceBEq, Option.getD_none, Int.reduceToNat, Nat.reduceSub, Nat.reduceLT, Nat.reduceLeDiff, Int.reduceLE, Int.reduceLT, reduceCtorEq]; simp, by simp only [go_sem, ↓reduceIte, Nat.reduceEqDiff, Nat.reduceAdd, Nat.reduceMul, Nat.reduceBEq, Option.getD_none, Int.reduceToNat, Nat.reduceSub, Nat.reduceLT, Nat.reduceLeDiff, Int.reduceLE, Int.reduceLT, reduceCtorEq]; simp [ovr_zero]⟩ ?_
  rintro k s' M' ⟨hk, h5, h1, hm⟩ ho
  unfold laws_markBoolS.b0
  have k0 : s' 0 = .sl 0 0 0 x.length 1 := by rw [ho 0 rfl]; simp only [go_sem, ↓reduceIte, Nat.reduceEqDiff, Nat.reduceAdd, Nat.reduceMul, Nat.reduceBEq, Option.getD_none, Int.reduceToNat, Nat.reduceSub, Nat.reduceLT, Nat.reduceLeDiff, Int.reduceLE, Int.reduceLT, reduceCtorEq]
  clear ho
  by_cases hlt : k < x.length
  · have hi' : (k : Int) < x.length := by omega
    have ga : x[k]? = some x[k] := List.getElem?_eq_getElem hlt
    have hw : IntKind.i64.wrap (k + 1) = ((k + 1 : Nat) : Int) := wrap_k hlt (by omega)
    have hw1 : IntKind.i64.wrap (n + k + 1) = n + (k + 1 : Nat) := by rw [wrap_in (by omega) (by omega)]; try omega
    have hmk : (mkBoolS n x)[k]? = some (((n + (k : Int)).tmod 3 == 0)) := by simp [mkBoolS, hlt]
    have hg : (ovr ((mkBoolS n x).map Bb) (x.map Bb) k)[k]? = some (Bb x[k]) := by rw [ovr_get hL (by simpa using hlt)]; simp [hlt]
    have hkl : k < (ovr ((mkBoolS n x).map Bb) (x.map Bb) k).length := by rw [ovr_len hL (by simp; omega)]; simpa using hlt
    have hg2 : ∀ d, ((ovr ((mkBoolS n x).map Bb) (x.map Bb) k).set k d)[k]? = some d := fun d => by rw [List.getElem?_set, if_pos rfl, if_pos hkl]
    have hs : (ovr ((mkBoolS n x).map Bb) (x.map Bb) k).set k (.bool ((n + (k : Int)).tmod 3 == 0)) = ovr ((mkBoolS n x).map Bb) (x.map Bb) (k + 1) := ovr_set hL (by simpa using hlt) (by rw [List.getElem?_map, hmk]; rfl)
    simp only [go_sem, ↓reduceIte, Nat.reduceEqDiff, Nat.reduceAdd, Nat.reduceMul, Nat.reduceBEq, Option.getD_none, Int.reduceToNat, Nat.reduceSub, Nat.reduceLT, Nat.reduceLeDiff, Int.reduceLE, Int.reduceLT, reduceCtorEq, hi', hw, hw1, hg, hg2, List.set_set, hs, show ¬ (3 : Int) = 0 by omega, k0, h1, h5, hm]
    exact ⟨k + 1, by dsimp only; omega, by omega, by simp only [go_sem, ↓reduceIte, Nat.reduceEqDiff, Nat.reduceAdd, Nat.reduceMul, Nat.reduceBEq, Option.getD_none, Int.reduceToNat, Nat.reduceSub, Nat.reduceLT, Nat.reduceLeDiff, Int.reduceLE, Int.reduceLT, reduceCtorEq, k0, h1, h5, hm], by simp only [go_sem, ↓reduceIte, Nat.reduceEqDiff, Nat.reduceAdd, Nat.reduceMul, Nat.reduceBEq, Option.getD_none, Int.reduceToNat, Nat.reduceSub, Nat.reduceLT, Nat.reduceLeDiff, Int.reduceLE, Int.reduceLT, reduceCtorEq, k0, h1, h5, hm], by simp only [go_sem, ↓reduceIte, Nat.reduceEqDiff, Nat.reduceAdd, Nat.reduceMul, Nat.reduceBEq, Option.getD_none, Int.reduceToNat, Nat.reduceSub, Nat.reduceLT, Nat.reduceLeDiff, Int.reduceLE, Int.reduceLT, reduceCtorEq, k0, h1, h5, hm]⟩
  · have hi' : ¬ (k : Int) < x.length := by omega
    obtain rfl : k = x.length := by omega
    have hall : ovr ((mkBoolS n x).map Bb) (x.map Bb) x.length = (mkBoolS n x).map Bb := by have := ovr_all hL; simpa using this
    have htk : ((mkBoolS n x).map Bb).take x.length = (mkBoolS n x).map Bb := List.take_of_length_le (by simp [mkBoolS_len])
    have hce : ((x.length : Nat) : Int) = x.length := by omega
    simp only [go_sem, ↓reduceIte, Nat.reduceEqDiff, Nat.reduceAdd, Nat.reduceMul, Nat.reduceBEq, Option.getD_none, Int.reduceToNat, Nat.reduceSub, Nat.reduceLT, Nat.reduceLeDiff, Int.reduceLE, Int.reduceLT, reduceCtorEq, hi', hall, mkBoolS_len, htk, hce, k0, h1, h5, hm]
    try rfl
theorem laws_heldStretchS.fcu (x : List (Int × Int)) (n : Int) (h : x.length ≤ 1048576) (hc : (2 * x.length) ≤ 16777216) (hn : 0 ≤ n ∧ n + ((2 * x.length) : Nat) ≤ 576460752303423488) :
    FCt prog F_laws_heldStretchS [.ro, .ro] [strs (mkStretchS n x), Ii n] (Ii (n + ((2 * x.length) : Nat))) [] := by
  refine fct_run laws_heldStretchS.ok rfl ?_
  simp only [go_sem, ↓reduceIte, Nat.reduceEqDiff, Nat.reduceAdd, Nat.reduceMul, Nat.reduceBEq, Option.getD_none, Int.reduceToNat, Nat.reduceSub, Nat.reduceLT, Nat.reduceLeDiff, Int.reduceLE, Int.reduceLT, reduceCtorEq]
  refine R_loop (α := Nat) (fun k s' M' => k ≤ x.length ∧ s' 5 = aI k ∧ s' 1 = aI (n + 2 * k)) (fun k => x.length - k) 0 ⟨by omega, by simp only [go_sem, ↓reduceIte, Nat.reduceEqDiff, Nat.reduceAdd, Nat.reduceMul, Nat.reduceBEq, Option.getD_none, Int.reduceToNat, Nat.reduceSub, Nat.reduceLT, Nat.reduceLeDiff, Int.reduceLE, Int.reduceLT, reduceCtorEq]; rfl, by simp only [go_sem, ↓reduceIte, Nat.reduceEqDiff, Nat.reduceAdd, Nat.reduceMul, Nat.reduceBEq, Option.getD_none, Int.reduceToNat, Nat.reduceSub, Nat.reduceLT, Nat.reduceLeDiff, Int.reduceLE, Int.reduceLT, reduceCtorEq]; simp⟩ ?_
  rintro k s' M' ⟨hk, h5, h1⟩ ho
  unfold laws_heldStretchS.b0
  have k0 : s' 0 = .dat none (strs (mkStretchS n x)) := by rw [ho 0 rfl]; simp only [go_sem, ↓reduceIte, Nat.reduceEqDiff, Nat.reduceAdd, Nat.reduceMul, Nat.reduceBEq, Option.getD_none, Int.reduceToNat, Nat.reduceSub, Nat.reduceLT, Nat.reduceLeDiff, Int.reduceLE, Int.reduceLT, reduceCtorEq]
  clear ho
  by_cases hlt : k < x.length
  · have hi' : (k : Int) < x.length := by omega
    have hw : IntKind.i64.wrap (k + 1) = ((k + 1 : Nat) : Int) := wrap_k hlt (by omega)
    have hw1 : IntKind.i64.wrap (n + 2 * k + 1) = n + 2 * k + 1 := by rw [wrap_in (by omega) (by omega)]; try omega
    have hw2 : IntKind.i64.wrap (n + 2 * k + 1 + 1) = n + 2 * (k + 1 : Nat) := by rw [wrap_in (by omega) (by omega)]; try omega
    have hmk : (mkStretchS n x)[k]? = some (⟨n + 2 * (k : Int), n + 2 * (k : Int) + 1⟩) := by simp [mkStretchS, hlt]
    simp only [go_sem, ↓reduceIte, Nat.reduceEqDiff, Nat.reduceAdd, Nat.reduceMul, Nat.reduceBEq, Option.getD_none, Int.reduceToNat, Nat.reduceSub, Nat.reduceLT, Nat.reduceLeDiff, Int.reduceLE, Int.reduceLT, reduceCtorEq, hi', hw, hw1, hw2, hmk, k0, h1, h5, mkStretchS_len]
    exact ⟨k + 1, by dsimp only; omega, by omega, by simp only [go_sem, ↓reduceIte, Nat.reduceEqDiff, Nat.reduceAdd, Nat.reduceMul, Nat.reduceBEq, Option.getD_none, Int.reduceToNat, Nat.reduceSub, Nat.reduceLT, Nat.reduceLeDiff, Int.reduceLE, Int.reduceLT, reduceCtorEq, k0, h1, h5, mkStretchS_len], by simp only [go_sem, ↓reduceIte, Nat.reduceEqDiff, Nat.reduceAdd, Nat.reduceMul, Nat.reduceBEq, Option.getD_none, Int.reduceToNat, Nat.reduceSub, Nat.reduceLT, Nat.reduceLeDiff, Int.reduceLE, Int.reduceLT, reduceCtorEq, k0, h1, h5, mkStretchS_len]⟩
  · have hi' : ¬ (k : Int) < x.length := by omega
    obtain rfl : k = x.length := by omega
    have hce : (((2 * x.length) : Nat) : Int) = 2 * x.length := by omega
    simp only [go_sem, ↓reduceIte, Nat.reduceEqDiff, Nat.reduceAdd, Nat.reduceMul, Nat.reduceBEq, Option.getD_none, Int.reduceToNat, Nat.reduceSub, Nat.reduceLT, Nat.reduceLeDiff, Int.reduceLE, Int.reduceLT, reduceCtorEq, hi', hce, k0, h1, h5, mkStretchS_len]
theorem laws_heldKnownS.fcu (x : List (Int × Int)) (n : Int) (h : x.length ≤ 1048576) (hc : (2 * x.length) ≤ 16777216) (hn : 0 ≤ n ∧ n + ((2 * x.length) : Nat) ≤ 576460752303423488) :
    FCt prog F_laws_heldKnownS [.ro, .ro] [knowns (mkKnownS n x), Ii n] (Ii (n + ((2 * x.length) : Nat))) [] := by
  refine fct_run laws_heldKnownS.ok rfl ?_
  simp only [go_sem, ↓reduceIte, Nat.reduceEqDiff, Nat.reduceAdd, Nat.reduceMul, Nat.reduceBEq, Option.getD_none, Int.reduceToNat, Nat.reduceSub, Nat.reduceLT, Nat.reduceLeDiff, Int.reduceLE, Int.reduceLT, reduceCtorEq]
  refine R_loop (α := Nat) (fun k s' M' => k ≤ x.length ∧ s' 5 = aI k ∧ s' 1 = aI (n + 2 * k)) (fun k => x.length - k) 0 ⟨by omega, by simp only [go_sem, ↓reduceIte, Nat.reduceEqDiff, Nat.reduceAdd, Nat.reduceMul, Nat.reduceBEq, Option.getD_none, Int.reduceToNat, Nat.reduceSub, Nat.reduceLT, Nat.reduceLeDiff, Int.reduceLE, Int.reduceLT, reduceCtorEq]; rfl, by simp only [go_sem, ↓reduceIte, Nat.reduceEqDiff, Nat.reduceAdd, Nat.reduceMul, Nat.reduceBEq, Option.getD_none, Int.reduceToNat, Nat.reduceSub, Nat.reduceLT, Nat.reduceLeDiff, Int.reduceLE, Int.reduceLT, reduceCtorEq]; simp⟩ ?_
  rintro k s' M' ⟨hk, h5, h1⟩ ho
  unfold laws_heldKnownS.b0
  have k0 : s' 0 = .dat none (knowns (mkKnownS n x)) := by rw [ho 0 rfl]; simp only [go_sem, ↓reduceIte, Nat.reduceEqDiff, Nat.reduceAdd, Nat.reduceMul, Nat.reduceBEq, Option.getD_none, Int.reduceToNat, Nat.reduceSub, Nat.reduceLT, Nat.reduceLeDiff, Int.reduceLE, Int.reduceLT, reduceCtorEq]
  clear ho
  by_cases hlt : k < x.length
  · have hi' : (k : Int) < x.length := by omega
    have hw : IntKind.i64.wrap (k + 1) = ((k + 1 : Nat) : Int) := wrap_k hlt (by omega)
    have hw1 : IntKind.i64.wrap (n + 2 * k + 1) = n + 2 * k + 1 := by rw [wrap_in (by omega) (by omega)]; try omega
    have hw2 : IntKind.i64.wrap (n + 2 * k + 1 + 1) = n + 2 * (k + 1 : Nat) := by rw [wrap_in (by omega) (by omega)]; try omega
    have hmk : (mkKnownS n x)[k]? = some (⟨n + 2 * (k : Int), n + 2 * (k : Int) + 1⟩) := by simp [mkKnownS, hlt]
    simp only [go_sem, ↓reduceIte, Nat.reduceEqDiff, Nat.reduceAdd, Nat.reduceMul, Nat.reduceBEq, Option.getD_none, Int.reduceToNat, Nat.reduceSub, Nat.reduceLT, Nat.reduceLeDiff, Int.reduceLE, Int.reduceLT, reduceCtorEq, hi', hw, hw1, hw2, hmk, k0, h1, h5, mkKnownS_len]
    exact ⟨k + 1, by dsimp only; omega, by omega, by simp only [go_sem, ↓reduceIte, Nat.reduceEqDiff, Nat.reduceAdd, Nat.reduceMul, Nat.reduceBEq, Option.getD_none, Int.reduceToNat, Nat.reduceSub, Nat.reduceLT, Nat.reduceLeDiff, Int.reduceLE, Int.reduceLT, reduceCtorEq, k0, h1, h5, mkKnownS_len], by simp only [go_sem, ↓reduceIte, Nat.reduceEqDiff, Nat.reduceAdd, Nat.reduceMul, Nat.reduceBEq, Option.getD_none, Int.reduceToNat, Nat.reduceSub, Nat.reduceLT, Nat.reduceLeDiff, Int.reduceLE, Int.reduceLT, reduceCtorEq, k0, h1, h5, mkKnownS_len]⟩
  · have hi' : ¬ (k : Int) < x.length := by omega
    obtain rfl : k = x.length := by omega
    have hce : (((2 * x.length) : Nat) : Int) = 2 * x.length := by omega
    simp only [go_sem, ↓reduceIte, Nat.reduceEqDiff, Nat.reduceAdd, Nat.reduceMul, Nat.reduceBEq, Option.getD_none, Int.reduceToNat, Nat.reduceSub, Nat.reduceLT, Nat.reduceLeDiff, Int.reduceLE, Int.reduceLT, reduceCtorEq, hi', hce, k0, h1, h5, mkKnownS_len]
theorem laws_heldBoolS.fcu (x : List Bool) (n : Int) (h : x.length ≤ 1048576) (hc : x.length ≤ 16777216) (hn : 0 ≤ n ∧ n + (x.length : Nat) ≤ 576460752303423488) :
    FCt prog F_laws_heldBoolS [.ro, .ro] [bools (mkBoolS n x), Ii n] (Ii (n + (x.length : Nat))) [] := by
  refine fct_run laws_heldBoolS.ok rfl ?_
  simp only [go_sem, ↓reduceIte, Nat.reduceEqDiff, Nat.reduceAdd, Nat.reduceMul, Nat.reduceBEq, Option.getD_none, Int.reduceToNat, Nat.reduceSub, Nat.reduceLT, Nat.reduceLeDiff, Int.reduceLE, Int.reduceLT, reduceCtorEq]
  refine R_loop (α := Nat) (fun k s' M' => k ≤ x.length ∧ s' 5 = aI k ∧ s' 1 = aI (n + k)) (fun k => x.length - k) 0 ⟨by omega, by simp only [go_sem, ↓reduceIte, Nat.reduceEqDiff, Nat.reduceAdd, Nat.reduceMul, Nat.reduceBEq, Option.getD_none, Int.reduceToNat, Nat.reduceSub, Nat.reduceLT, Nat.reduceLeDiff, Int.reduceLE, Int.reduceLT, reduceCtorEq]; rfl, by simp only [go_sem, ↓reduceIte, Nat.reduceEqDiff, Nat.reduceAdd, Nat.reduceMul, Nat.reduceBEq, Option.getD_none, Int.reduceToNat, Nat.reduceSub, Nat.reduceLT, Nat.reduceLeDiff, Int.reduceLE, Int.reduceLT, reduceCtorEq]; simp⟩ ?_
  rintro k s' M' ⟨hk, h5, h1⟩ ho
  unfold laws_heldBoolS.b0
  have k0 : s' 0 = .dat none (bools (mkBoolS n x)) := by rw [ho 0 rfl]; simp only [go_sem, ↓reduceIte, Nat.reduceEqDiff, Nat.reduceAdd, Nat.reduceMul, Nat.reduceBEq, Option.getD_none, Int.reduceToNat, Nat.reduceSub, Nat.reduceLT, Nat.reduceLeDiff, Int.reduceLE, Int.reduceLT, reduceCtorEq]
  clear ho
  by_cases hlt : k < x.length
  · have hi' : (k : Int) < x.length := by omega
    have hw : IntKind.i64.wrap (k + 1) = ((k + 1 : Nat) : Int) := wrap_k hlt (by omega)
    have hw1 : IntKind.i64.wrap (n + k + 1) = n + (k + 1 : Nat) := by rw [wrap_in (by omega) (by omega)]; try omega
    have hmk : (mkBoolS n x)[k]? = some (((n + (k : Int)).tmod 3 == 0)) := by simp [mkBoolS, hlt]
    simp only [go_sem, ↓reduceIte, Nat.reduceEqDiff, Nat.reduceAdd, Nat.reduceMul, Nat.reduceBEq, Option.getD_none, Int.reduceToNat, Nat.reduceSub, Nat.reduceLT, Nat.reduceLeDiff, Int.reduceLE, Int.reduceLT, reduceCtorEq, hi', hw, hw1, hmk, show ¬ (3 : Int) = 0 by omega, k0, h1, h5, mkBoolS_len]
    exact ⟨k + 1, by dsimp only; omega, by omega, by simp only [go_sem, ↓reduceIte, Nat.reduceEqDiff, Nat.reduceAdd, Nat.reduceMul, Nat.reduceBEq, Option.getD_none, Int.reduceToNat, Nat.reduceSub, Nat.reduceLT, Nat.reduceLeDiff, Int.reduceLE, Int.reduceLT, reduceCtorEq, k0, h1, h5, mkBoolS_len], by simp only [go_sem, ↓reduceIte, Nat.reduceEqDiff, Nat.reduceAdd, Nat.reduceMul, Nat.reduceBEq, Option.getD_none, Int.reduceToNat, Nat.reduceSub, Nat.reduceLT, Nat.reduceLeDiff, Int.reduceLE, Int.reduceLT, reduceCtorEq, k0, h1, h5, mkBoolS_len]⟩
  · have hi' : ¬ (k : Int) < x.length := by omega
    obtain rfl : k = x.length := by omega
    have hce : ((x.length : Nat) : Int) = x.length := by omega
    simp only [go_sem, ↓reduceIte, Nat.reduceEqDiff, Nat.reduceAdd, Nat.reduceMul, Nat.reduceBEq, Option.getD_none, Int.reduceToNat, Nat.reduceSub, Nat.reduceLT, Nat.reduceLeDiff, Int.reduceLE, Int.reduceLT, reduceCtorEq, hi', hce, k0, h1, h5, mkBoolS_len]

structure MayD where
  reg : List (Int × Int)
  bits : List (Int × Int)
  cell : List (Int × Int)
  isset : List Bool
  deriving DecidableEq
abbrev MayD.d (x : MayD) : D := .agg [strs x.reg, knowns x.bits, strs x.cell, bools x.isset]
abbrev TyMay : Ty := .st [(.sl TyStretch), (.sl TyKnown), (.sl TyStretch), (.sl .bool)]
theorem noRs_May {x : MayD} : noRs (MayD.d x) = true := noRs_agg fun d hd => by
  rcases List.mem_cons.1 hd with rfl | hd
  · exact noRs_strs
  rcases List.mem_cons.1 hd with rfl | hd
  · exact noRs_knowns
  rcases List.mem_cons.1 hd with rfl | hd
  · exact noRs_strs
  rcases List.mem_cons.1 hd with rfl | hd
  · exact noRs_bools
  cases hd
def wMay (x : MayD) : Nat := x.reg.length + x.bits.length + x.cell.length + x.isset.length
def wfMay (x : MayD) : Prop := x.reg.length ≤ 9223372036854775807 ∧ x.bits.length ≤ 9223372036854775807 ∧ x.cell.length ≤ 9223372036854775807 ∧ x.isset.length ≤ 9223372036854775807
def cMay (x : MayD) : Nat := (2 * x.reg.length) + (2 * x.bits.length) + (2 * x.cell.length) + x.isset.length
def mkMay (n : Int) (x : MayD) : MayD := { x with reg := mkStretchS (n) x.reg, bits := mkKnownS (n + (2 * x.reg.length)) x.bits, cell := mkStretchS (n + (2 * x.reg.length) + (2 * x.bits.length)) x.cell, isset := mkBoolS (n + (2 * x.reg.length) + (2 * x.bits.length) + (2 * x.cell.length)) x.isset }
theorem cMay_le (x : MayD) : cMay x ≤ 8 * wMay x := by
  unfold cMay wMay; omega
theorem hasMay {d : D} (h : HasTy TyMay d) : ∃ x : MayD, d = MayD.d x ∧ wfMay x := by
  simp only [HasTy] at h
  obtain ⟨ys, rfl, h⟩ := h
  simp only [HasTys] at h
  obtain ⟨d0, s0, rfl, h0, d1, s1, rfl, h1, d2, s2, rfl, h2, d3, s3, rfl, h3, rfl⟩ := h
  obtain ⟨x0, rfl, w0⟩ := hasStretchS h0
  obtain ⟨x1, rfl, w1⟩ := hasKnownS h1
  obtain ⟨x2, rfl, w2⟩ := hasStretchS h2
  obtain ⟨x3, rfl, w3⟩ := hasBoolS h3
  exact ⟨⟨x0, x1, x2, x3⟩, rfl, ⟨w0, w1, w2, w3⟩⟩
theorem laws_toMay.fcu (x : MayD) (h : wMay x ≤ 1048576) :
    FCt prog F_laws_toMay [.ro] [MayD.d x] (MayD.d x) [] := by
  refine fct_run laws_toMay.ok rfl ?_
  have h := h
  unfold wMay at h
  simp only [go_sem, ↓reduceIte, Nat.reduceEqDiff, Nat.reduceAdd, Nat.reduceMul, Nat.reduceBEq, Option.getD_none, Int.reduceToNat, Nat.reduceSub, Nat.reduceLT, Nat.reduceLeDiff, Int.reduceLE, Int.reduceLT, reduceCtorEq]
  refine fcW_bd (laws_toStretchS.fcu x.reg (by omega)) noRs_strs ?_
  simp only [go_sem, ↓reduceIte, Nat.reduceEqDiff, Nat.reduceAdd, Nat.reduceMul, Nat.reduceBEq, Option.getD_none, Int.reduceToNat, Nat.reduceSub, Nat.reduceLT, Nat.reduceLeDiff, Int.reduceLE, Int.reduceLT, reduceCtorEq, take_map_len]
  refine fcW_bd (laws_toKnownS.fcu x.bits (by omega)) noRs_knowns ?_
  simp only [go_sem, ↓reduceIte, Nat.reduceEqDiff, Nat.reduceAdd, Nat.reduceMul, Nat.reduceBEq, Option.getD_none, Int.reduceToNat, Nat.reduceSub, Nat.reduceLT, Nat.reduceLeDiff, Int.reduceLE, Int.reduceLT, reduceCtorEq, take_map_len]
  refine fcW_bd (laws_toStretchS.fcu x.cell (by omega)) noRs_strs ?_
  simp only [go_sem, ↓reduceIte, Nat.reduceEqDiff, Nat.reduceAdd, Nat.reduceMul, Nat.reduceBEq, Option.getD_none, Int.reduceToNat, Nat.reduceSub, Nat.reduceLT, Nat.reduceLeDiff, Int.reduceLE, Int.reduceLT, reduceCtorEq, take_map_len]
  refine fcW_bd (laws_toBoolS.fcu x.isset (by omega)) noRs_bools ?_
  simp only [go_sem, ↓reduceIte, Nat.reduceEqDiff, Nat.reduceAdd, Nat.reduceMul, Nat.reduceBEq, Option.getD_none, Int.reduceToNat, Nat.reduceSub, Nat.reduceLT, Nat.reduceLeDiff, Int.reduceLE, Int.reduceLT, reduceCtorEq, take_map_len]
theorem laws_eqMay.fcu (x : MayD) (h : wMay x ≤ 1048576) :
    FCt prog F_laws_eqMay [.ro, .ro] [MayD.d x, MayD.d x] (Bb true) [] := by
  refine fct_run laws_eqMay.ok rfl ?_
  unfold wMay at h
  simp only [go_sem, ↓reduceIte, Nat.reduceEqDiff, Nat.reduceAdd, Nat.reduceMul, Nat.reduceBEq, Option.getD_none, Int.reduceToNat, Nat.reduceSub, Nat.reduceLT, Nat.reduceLeDiff, Int.reduceLE, Int.reduceLT, reduceCtorEq]
  refine fcW_bool (laws_eqStretchS.fcu x.reg (by omega)) ?_
  simp only [go_sem, ↓reduceIte, Nat.reduceEqDiff, Nat.reduceAdd, Nat.reduceMul, Nat.reduceBEq, Option.getD_none, Int.reduceToNat, Nat.reduceSub, Nat.reduceLT, Nat.reduceLeDiff, Int.reduceLE, Int.reduceLT, reduceCtorEq]
  refine fcW_bool (laws_eqKnownS.fcu x.bits (by omega)) ?_
  simp only [go_sem, ↓reduceIte, Nat.reduceEqDiff, Nat.reduceAdd, Nat.reduceMul, Nat.reduceBEq, Option.getD_none, Int.reduceToNat, Nat.reduceSub, Nat.reduceLT, Nat.reduceLeDiff, Int.reduceLE, Int.reduceLT, reduceCtorEq]
  refine fcW_bool (laws_eqStretchS.fcu x.cell (by omega)) ?_
  simp only [go_sem, ↓reduceIte, Nat.reduceEqDiff, Nat.reduceAdd, Nat.reduceMul, Nat.reduceBEq, Option.getD_none, Int.reduceToNat, Nat.reduceSub, Nat.reduceLT, Nat.reduceLeDiff, Int.reduceLE, Int.reduceLT, reduceCtorEq]
  refine fcW_bool (laws_eqBoolS.fcu x.isset (by omega)) ?_
  simp only [go_sem, ↓reduceIte, Nat.reduceEqDiff, Nat.reduceAdd, Nat.reduceMul, Nat.reduceBEq, Option.getD_none, Int.reduceToNat, Nat.reduceSub, Nat.reduceLT, Nat.reduceLeDiff, Int.reduceLE, Int.reduceLT, reduceCtorEq]
theorem laws_szMay.fcu (x : MayD) (n : Int) (hn : 0 ≤ n ∧ n ≤ 1048576) (hw : wfMay x) :
    FCt prog F_laws_szMay [.ro, .ro] [MayD.d x, Ii n] (Ii (if n < (wMay x : Nat) then -1 else n - (wMay x : Nat))) [] := by
  refine fct_run laws_szMay.ok rfl ?_
  unfold wMay
  obtain ⟨hw0, hw1, hw2, hw3⟩ := hw
  simp only [go_sem, ↓reduceIte, Nat.reduceEqDiff, Nat.reduceAdd, Nat.reduceMul, Nat.reduceBEq, Option.getD_none, Int.reduceToNat, Nat.reduceSub, Nat.reduceLT, Nat.reduceLeDiff, Int.reduceLE, Int.reduceLT, reduceCtorEq]
  refine fcW_int (laws_szStretchS.fcu x.reg _ (by omega) hw0) ?_
  by_cases g0 : n < (x.reg.length : Nat)
  · have e : n < ((x.reg.length + x.bits.length + x.cell.length + x.isset.length : Nat) : Int) := by omega
    simp only [go_sem, ↓reduceIte, Nat.reduceEqDiff, Nat.reduceAdd, Nat.reduceMul, Nat.reduceBEq, Option.getD_none, Int.reduceToNat, Nat.reduceSub, Nat.reduceLT, Nat.reduceLeDiff, Int.reduceLE, Int.reduceLT, reduceCtorEq, if_pos g0, if_pos e]
  have e0 : ¬ (n - (x.reg.length : Nat) < 0) := by omega
  rw [if_neg g0]
  simp only [go_sem, ↓reduceIte, Nat.reduceEqDiff, Nat.reduceAdd, Nat.reduceMul, Nat.reduceBEq, Option.getD_none, Int.reduceToNat, Nat.reduceSub, Nat.reduceLT, Nat.reduceLeDiff, Int.reduceLE, Int.reduceLT, reduceCtorEq, e0]
  refine fcW_int (laws_szKnownS.fcu x.bits _ (by omega) hw1) ?_
  by_cases g1 : n - (x.reg.length : Nat) < (x.bits.length : Nat)
  · have e : n < ((x.reg.length + x.bits.length + x.cell.length + x.isset.length : Nat) : Int) := by omega
    simp only [go_sem, ↓reduceIte, Nat.reduceEqDiff, Nat.reduceAdd, Nat.reduceMul, Nat.reduceBEq, Option.getD_none, Int.reduceToNat, Nat.reduceSub, Nat.reduceLT, Nat.reduceLeDiff, Int.reduceLE, Int.reduceLT, reduceCtorEq, if_pos g1, if_pos e, e0]
  have e1 : ¬ (n - (x.reg.length : Nat) - (x.bits.length : Nat) < 0) := by omega
  rw [if_neg g1]
  simp only [go_sem, ↓reduceIte, Nat.reduceEqDiff, Nat.reduceAdd, Nat.reduceMul, Nat.reduceBEq, Option.getD_none, Int.reduceToNat, Nat.reduceSub, Nat.reduceLT, Nat.reduceLeDiff, Int.reduceLE, Int.reduceLT, reduceCtorEq, e0, e1]
  refine fcW_int (laws_szStretchS.fcu x.cell _ (by omega) hw2) ?_
  by_cases g2 : n - (x.reg.length : Nat) - (x.bits.length : Nat) < (x.cell.length : Nat)
  · have e : n < ((x.reg.length + x.bits.length + x.cell.length + x.isset.length : Nat) : Int) := by omega
    simp only [go_sem, ↓reduceIte, Nat.reduceEqDiff, Nat.reduceAdd, Nat.reduceMul, Nat.reduceBEq, Option.getD_none, Int.reduceToNat, Nat.reduceSub, Nat.reduceLT, Nat.reduceLeDiff, Int.reduceLE, Int.reduceLT, reduceCtorEq, if_pos g2, if_pos e, e0, e1]
  have e2 : ¬ (n - (x.reg.length : Nat) - (x.bits.length : Nat) - (x.cell.length : Nat) < 0) := by omega
  rw [if_neg g2]
  simp only [go_sem, ↓reduceIte, Nat.reduceEqDiff, Nat.reduceAdd, Nat.reduceMul, Nat.reduceBEq, Option.getD_none, Int.reduceToNat, Nat.reduceSub, Nat.reduceLT, Nat.reduceLeDiff, Int.reduceLE, Int.reduceLT, reduceCtorEq, e0, e1, e2]
  refine fcW_int (laws_szBoolS.fcu x.isset _ (by omega) hw3) ?_
  by_cases g3 : n - (x.reg.length : Nat) - (x.bits.length : Nat) - (x.cell.length : Nat) < (x.isset.length : Nat)
  · have e : n < ((x.reg.length + x.bits.length + x.cell.length + x.isset.length : Nat) : Int) := by omega
    simp only [go_sem, ↓reduceIte, Nat.reduceEqDiff, Nat.reduceAdd, Nat.reduceMul, Nat.reduceBEq, Option.getD_none, Int.reduceToNat, Nat.reduceSub, Nat.reduceLT, Nat.reduceLeDiff, Int.reduceLE, Int.reduceLT, reduceCtorEq, if_pos g3, if_pos e, e0, e1, e2]
  have e3 : ¬ (n - (x.reg.length : Nat) - (x.bits.length : Nat) - (x.cell.length : Nat) - (x.isset.length : Nat) < 0) := by omega
  rw [if_neg g3]
  have e : ¬ n < ((x.reg.length + x.bits.length + x.cell.length + x.isset.length : Nat) : Int) := by omega
  have eF : n - ((x.reg.length + x.bits.length + x.cell.length + x.isset.length : Nat) : Int) = n - (x.reg.length : Nat) - (x.bits.length : Nat) - (x.cell.length : Nat) - (x.isset.length : Nat) := by omega
  first | rw [if_neg e, eF] | skip
  simp only [go_sem, ↓reduceIte, Nat.reduceEqDiff, Nat.reduceAdd, Nat.reduceMul, Nat.reduceBEq, Option.getD_none, Int.reduceToNat, Nat.reduceSub, Nat.reduceLT, Nat.reduceLeDiff, Int.reduceLE, Int.reduceLT, reduceCtorEq, e0, e1, e2, e3]
theorem laws_markMay.fcu (x : MayD) (n : Int) (h : wMay x ≤ 1048576) (hc : cMay x ≤ 16777216) (hn : 0 ≤ n ∧ n + (cMay x : Nat) ≤ 576460752303423488) :
    FCt prog F_laws_markMay [.io, .ro] [MayD.d x, Ii n] (Ii (n + (cMay x : Nat))) [MayD.d (mkMay n x)] := by
  refine fct_run laws_markMay.ok rfl ?_
  unfold wMay at h
  unfold cMay at hc hn ⊢
  unfold mkMay
  simp only [go_sem, ↓reduceIte, Nat.reduceEqDiff, Nat.reduceAdd, Nat.reduceMul, Nat.reduceBEq, Option.getD_none, Int.reduceToNat, Nat.reduceSub, Nat.reduceLT, Nat.reduceLeDiff, Int.reduceLE, Int.reduceLT, reduceCtorEq, take_map_len]
  refine coW_of (laws_markStretchS.fcu x.reg (n) (by omega) (by omega) (by omega)) rfl (by simp only [noRsL, noRs_strs, Bool.and_self]) ?_
  simp only [go_sem, ↓reduceIte, Nat.reduceEqDiff, Nat.reduceAdd, Nat.reduceMul, Nat.reduceBEq, Option.getD_none, Int.reduceToNat, Nat.reduceSub, Nat.reduceLT, Nat.reduceLeDiff, Int.reduceLE, Int.reduceLT, reduceCtorEq, mkBoolS_len, mkBoolS_take, mkKnownS_len, mkKnownS_take, mkStretchS_len, mkStretchS_take, take_map_len]
  refine coW_of (laws_markKnownS.fcu x.bits (n + ((2 * x.reg.length) : Nat)) (by omega) (by omega) (by omega)) rfl (by simp only [noRsL, noRs_knowns, Bool.and_self]) ?_
  simp only [go_sem, ↓reduceIte, Nat.reduceEqDiff, Nat.reduceAdd, Nat.reduceMul, Nat.reduceBEq, Option.getD_none, Int.reduceToNat, Nat.reduceSub, Nat.reduceLT, Nat.reduceLeDiff, Int.reduceLE, Int.reduceLT, reduceCtorEq, mkBoolS_len, mkBoolS_take, mkKnownS_len, mkKnownS_take, mkStretchS_len, mkStretchS_take, take_map_len]
  refine coW_of (laws_markStretchS.fcu x.cell (n + ((2 * x.reg.length) : Nat) + ((2 * x.bits.length) : Nat)) (by omega) (by omega) (by omega)) rfl (by simp only [noRsL, noRs_strs, Bool.and_self]) ?_
  simp only [go_sem, ↓reduceIte, Nat.reduceEqDiff, Nat.reduceAdd, Nat.reduceMul, Nat.reduceBEq, Option.getD_none, Int.reduceToNat, Nat.reduceSub, Nat.reduceLT, Nat.reduceLeDiff, Int.reduceLE, Int.reduceLT, reduceCtorEq, mkBoolS_len, mkBoolS_take, mkKnownS_len, mkKnownS_take, mkStretchS_len, mkStretchS_take, take_map_len]
  refine coW_of (laws_markBoolS.fcu x.isset (n + ((2 * x.reg.length) : Nat) + ((2 * x.bits.length) : Nat) + ((2 * x.cell.length) : Nat)) (by omega) (by omega) (by omega)) rfl (by simp only [noRsL, noRs_bools, Bool.and_self]) ?_
  simp only [go_sem, ↓reduceIte, Nat.reduceEqDiff, Nat.reduceAdd, Nat.reduceMul, Nat.reduceBEq, Option.getD_none, Int.reduceToNat, Nat.reduceSub, Nat.reduceLT, Nat.reduceLeDiff, Int.reduceLE, Int.reduceLT, reduceCtorEq, mkBoolS_len, mkBoolS_take, mkKnownS_len, mkKnownS_take, mkStretchS_len, mkStretchS_take, take_map_len]
  try simp [Int.add_assoc, List.take_of_length_le, mkBoolS_len, mkKnownS_len, mkStretchS_len]
theorem laws_heldMay.fcu (x : MayD) (n : Int) (h : wMay x ≤ 1048576) (hc : cMay x ≤ 16777216) (hn : 0 ≤ n ∧ n + (cMay x : Nat) ≤ 576460752303423488) :
    FCt prog F_laws_heldMay [.ro, .ro] [MayD.d (mkMay n x), Ii n] (Ii (n + (cMay x : Nat))) [] := by
  refine fct_run laws_heldMay.ok rfl ?_
  unfold wMay at h
  unfold cMay at hc hn ⊢
  unfold mkMay
  simp only [go_sem, ↓reduceIte, Nat.reduceEqDiff, Nat.reduceAdd, Nat.reduceMul, Nat.reduceBEq, Option.getD_none, Int.reduceToNat, Nat.reduceSub, Nat.reduceLT, Nat.reduceLeDiff, Int.reduceLE, Int.reduceLT, reduceCtorEq]
  refine fcW_int (laws_heldStretchS.fcu x.reg (n) (by omega) (by omega) (by omega)) ?_
  have hng : ¬ (n + ((2 * x.reg.length) : Nat) < 0) := by omega
  simp only [go_sem, ↓reduceIte, Nat.reduceEqDiff, Nat.reduceAdd, Nat.reduceMul, Nat.reduceBEq, Option.getD_none, Int.reduceToNat, Nat.reduceSub, Nat.reduceLT, Nat.reduceLeDiff, Int.reduceLE, Int.reduceLT, reduceCtorEq, hng]
  refine fcW_int (laws_heldKnownS.fcu x.bits (n + ((2 * x.reg.length) : Nat)) (by omega) (by omega) (by omega)) ?_
  have hng : ¬ (n + ((2 * x.reg.length) : Nat) + ((2 * x.bits.length) : Nat) < 0) := by omega
  simp only [go_sem, ↓reduceIte, Nat.reduceEqDiff, Nat.reduceAdd, Nat.reduceMul, Nat.reduceBEq, Option.getD_none, Int.reduceToNat, Nat.reduceSub, Nat.reduceLT, Nat.reduceLeDiff, Int.reduceLE, Int.reduceLT, reduceCtorEq, hng]
  refine fcW_int (laws_heldStretchS.fcu x.cell (n + ((2 * x.reg.length) : Nat) + ((2 * x.bits.length) : Nat)) (by omega) (by omega) (by omega)) ?_
  have hng : ¬ (n + ((2 * x.reg.length) : Nat) + ((2 * x.bits.length) : Nat) + ((2 * x.cell.length) : Nat) < 0) := by omega
  simp only [go_sem, ↓reduceIte, Nat.reduceEqDiff, Nat.reduceAdd, Nat.reduceMul, Nat.reduceBEq, Option.getD_none, Int.reduceToNat, Nat.reduceSub, Nat.reduceLT, Nat.reduceLeDiff, Int.reduceLE, Int.reduceLT, reduceCtorEq, hng]
  refine fcW_int (laws_heldBoolS.fcu x.isset (n + ((2 * x.reg.length) : Nat) + ((2 * x.bits.length) : Nat) + ((2 * x.cell.length) : Nat)) (by omega) (by omega) (by omega)) ?_
  have hng : ¬ (n + ((2 * x.reg.length) : Nat) + ((2 * x.bits.length) : Nat) + ((2 * x.cell.length) : Nat) + (x.isset.length : Nat) < 0) := by omega
  simp only [go_sem, ↓reduceIte, Nat.reduceEqDiff, Nat.reduceAdd, Nat.reduceMul, Nat.reduceBEq, Option.getD_none, Int.reduceToNat, Nat.reduceSub, Nat.reduceLT, Nat.reduceLeDiff, Int.reduceLE, Int.reduceLT, reduceCtorEq, hng]
  try simp [Int.add_assoc]

end Go.Vm.Ytmicgdfekpoajaa
/- Walks: good may-states. -/
namespace Go.Vm.Ytmicgdfekpoajaa
open Go Go.Vm
set_option maxRecDepth 10000
set_option maxHeartbeats 4000000
set_option linter.unusedSimpArgs false
set_option linter.unusedVariables false

theorem slices_IndexFunc__sStretch_Stretch.fc (l : List (Int × Int)) (f : FuncId) (caps : List D) (p : (Int × Int) → Bool) (hl : l.length ≤ 4294967296)
    (h : ∀ x ∈ l, FCt prog f (.ro :: caps.map fun _ => .ro) (strD x :: caps) (Bb (p x)) []) : FCt prog F_slices_IndexFunc__sStretch_Stretch [.ro, .ro] [strs l, .clo f caps] (Ii (idxB p l)) [] := by
  refine fct_run slices_IndexFunc__sStretch_Stretch.ok rfl ?_
  simp only [go_sem, ↓reduceIte, Nat.reduceEqDiff, Nat.reduceAdd, Nat.reduceMul, Nat.reduceBEq, Option.getD_none, Int.reduceToNat, Nat.reduceSub, Nat.reduceLT, Nat.reduceLeDiff, Int.reduceLE, Int.reduceLT, reduceCtorEq]
  refine R_loop (α := Nat) (fun k s' M' => k ≤ l.length ∧ s' 8 = aI k ∧ (l.take k).all (fun x => !p x) = true) (fun k => l.length - k) 0 ⟨by omega, by simp only [go_sem, ↓reduceIte, Nat.reduceEqDiff, Nat.reduceAdd, Nat.reduceMul, Nat.reduceBEq, Option.getD_none, Int.reduceToNat, Nat.reduceSub, Nat.reduceLT, Nat.reduceLeDiff, Int.reduceLE, Int.reduceLT, reduceCtorEq]; rfl, by simp⟩ ?_
  rintro k s' M' ⟨hk, h8, hr⟩ ho
  have h0 : s' 0 = .dat none (strs l) := by rw [ho 0 rfl]; simp only [go_sem, ↓reduceIte, Nat.reduceEqDiff, Nat.reduceAdd, Nat.reduceMul, Nat.reduceBEq, Option.getD_none, Int.reduceToNat, Nat.reduceSub, Nat.reduceLT, Nat.reduceLeDiff, Int.reduceLE, Int.reduceLT, reduceCtorEq]
  have h1 : s' 1 = .clo f (caps.map bindC) := by rw [ho 1 rfl]; simp only [go_sem, ↓reduceIte, Nat.reduceEqDiff, Nat.reduceAdd, Nat.reduceMul, Nat.reduceBEq, Option.getD_none, Int.reduceToNat, Nat.reduceSub, Nat.reduceLT, Nat.reduceLeDiff, Int.reduceLE, Int.reduceLT, reduceCtorEq]
  have h7 : s' 7 = aI l.length := by rw [ho 7 rfl]; simp only [go_sem, ↓reduceIte, Nat.reduceEqDiff, Nat.reduceAdd, Nat.reduceMul, Nat.reduceBEq, Option.getD_none, Int.reduceToNat, Nat.reduceSub, Nat.reduceLT, Nat.reduceLeDiff, Int.reduceLE, Int.reduceLT, reduceCtorEq]
  clear ho
  unfold slices_IndexFunc__sStretch_Stretch.b0
  by_cases hlt : k < l.length
  · have hi' : (k : Int) < l.length := by omega
    have ga : l[k]? = some l[k] := List.getElem?_eq_getElem hlt
    have hw : IntKind.i64.wrap (k + 1) = ((k + 1 : Nat) : Int) := wrap_k hlt (by omega)
    simp only [go_sem, ↓reduceIte, Nat.reduceEqDiff, Nat.reduceAdd, Nat.reduceMul, Nat.reduceBEq, Option.getD_none, Int.reduceToNat, Nat.reduceSub, Nat.reduceLT, Nat.reduceLeDiff, Int.reduceLE, Int.reduceLT, reduceCtorEq, h0, h1, h7, h8, hi', ga]
    refine ccl_ro (ds := [strD l[k]]) (by simp only [go_sem, ↓reduceIte, Nat.reduceEqDiff, Nat.reduceAdd, Nat.reduceMul, Nat.reduceBEq, Option.getD_none, Int.reduceToNat, Nat.reduceSub, Nat.reduceLT, Nat.reduceLeDiff, Int.reduceLE, Int.reduceLT, reduceCtorEq]) ?_
    refine fcW_bool (h _ (List.getElem_mem hlt)) ?_
    cases hp : p l[k] with
    | true => simp only [go_sem, ↓reduceIte, Nat.reduceEqDiff, Nat.reduceAdd, Nat.reduceMul, Nat.reduceBEq, Option.getD_none, Int.reduceToNat, Nat.reduceSub, Nat.reduceLT, Nat.reduceLeDiff, Int.reduceLE, Int.reduceLT, reduceCtorEq, idxB_some hlt hr hp]
    | false =>
      simp only [go_sem, ↓reduceIte, Nat.reduceEqDiff, Nat.reduceAdd, Nat.reduceMul, Nat.reduceBEq, Option.getD_none, Int.reduceToNat, Nat.reduceSub, Nat.reduceLT, Nat.reduceLeDiff, Int.reduceLE, Int.reduceLT, reduceCtorEq, h8, hw]
      exact ⟨k + 1, by dsimp only; omega, by omega, by simp only [go_sem, ↓reduceIte, Nat.reduceEqDiff, Nat.reduceAdd, Nat.reduceMul, Nat.reduceBEq, Option.getD_none, Int.reduceToNat, Nat.reduceSub, Nat.reduceLT, Nat.reduceLeDiff, Int.reduceLE, Int.reduceLT, reduceCtorEq], all_take hlt hr (by simp [hp])⟩
  · have hi' : ¬ (k : Int) < l.length := by omega
    rw [List.take_of_length_le (by omega)] at hr
    simp only [go_sem, ↓reduceIte, Nat.reduceEqDiff, Nat.reduceAdd, Nat.reduceMul, Nat.reduceBEq, Option.getD_none, Int.reduceToNat, Nat.reduceSub, Nat.reduceLT, Nat.reduceLeDiff, Int.reduceLE, Int.reduceLT, reduceCtorEq, h0, h1, h7, h8, hi', idxB_none hr]
theorem slices_ContainsFunc__sStretch_Stretch.fc (l : List (Int × Int)) (f : FuncId) (caps : List D) (p : (Int × Int) → Bool) (hl : l.length ≤ 4294967296)
    (h : ∀ x ∈ l, FCt prog f (.ro :: caps.map fun _ => .ro) (strD x :: caps) (Bb (p x)) []) : FCt prog F_slices_ContainsFunc__sStretch_Stretch [.ro, .ro] [strs l, .clo f caps] (Bb (l.any p)) [] := by
  refine fct_run slices_ContainsFunc__sStretch_Stretch.ok rfl ?_
  simp only [go_sem, ↓reduceIte, Nat.reduceEqDiff, Nat.reduceAdd, Nat.reduceMul, Nat.reduceBEq, Option.getD_none, Int.reduceToNat, Nat.reduceSub, Nat.reduceLT, Nat.reduceLeDiff, Int.reduceLE, Int.reduceLT, reduceCtorEq]
  refine fcW_int (slices_IndexFunc__sStretch_Stretch.fc l f caps p hl h) ?_
  simp only [go_sem, ↓reduceIte, Nat.reduceEqDiff, Nat.reduceAdd, Nat.reduceMul, Nat.reduceBEq, Option.getD_none, Int.reduceToNat, Nat.reduceSub, Nat.reduceLT, Nat.reduceLeDiff, Int.reduceLE, Int.reduceLT, reduceCtorEq, ge_iff_le, idxB_any]

theorem slices_IndexFunc__sKnown_Known.fc (l : List (Int × Int)) (f : FuncId) (caps : List D) (p : (Int × Int) → Bool) (hl : l.length ≤ 4294967296)
    (h : ∀ x ∈ l, FCt prog f (.ro :: caps.map fun _ => .ro) (knownD x :: caps) (Bb (p x)) []) : FCt prog F_slices_IndexFunc__sKnown_Known [.ro, .ro] [knowns l, .clo f caps] (Ii (idxB p l)) [] := by
  refine fct_run slices_IndexFunc__sKnown_Known.ok rfl ?_
  simp only [go_sem, ↓reduceIte, Nat.reduceEqDiff, Nat.reduceAdd, Nat.reduceMul, Nat.reduceBEq, Option.getD_none, Int.reduceToNat, Nat.reduceSub, Nat.reduceLT, Nat.reduceLeDiff, Int.reduceLE, Int.reduceLT, reduceCtorEq]
  refine R_loop (α := Nat) (fun k s' M' => k ≤ l.length ∧ s' 8 = aI k ∧ (l.take k).all (fun x => !p x) = true) (fun k => l.length - k) 0 ⟨by omega, by simp only [go_sem, ↓reduceIte, Nat.reduceEqDiff, Nat.reduceAdd, Nat.reduceMul, Nat.reduceBEq, Option.getD_none, Int.reduceToNat, Nat.reduceSub, Nat.reduceLT, Nat.reduceLeDiff, Int.reduceLE, Int.reduceLT, reduceCtorEq]; rfl, by simp⟩ ?_
  rintro k s' M' ⟨hk, h8, hr⟩ ho
  have h0 : s' 0 = .dat none (knowns l) := by rw [ho 0 rfl]; simp only [go_sem, ↓reduceIte, Nat.reduceEqDiff, Nat.reduceAdd, Nat.reduceMul, Nat.reduceBEq, Option.getD_none, Int.reduceToNat, Nat.reduceSub, Nat.reduceLT, Nat.reduceLeDiff, Int.reduceLE, Int.reduceLT, reduceCtorEq]
  have h1 : s' 1 = .clo f (caps.map bindC) := by rw [ho 1 rfl]; simp only [go_sem, ↓reduceIte, Nat.reduceEqDiff, Nat.reduceAdd, Nat.reduceMul, Nat.reduceBEq, Option.getD_none, Int.reduceToNat, Nat.reduceSub, Nat.reduceLT, Nat.reduceLeDiff, Int.reduceLE, Int.reduceLT, reduceCtorEq]
  have h7 : s' 7 = aI l.length := by rw [ho 7 rfl]; simp only [go_sem, ↓reduceIte, Nat.reduceEqDiff, Nat.reduceAdd, Nat.reduceMul, Nat.reduceBEq, Option.getD_none, Int.reduceToNat, Nat.reduceSub, Nat.reduceLT, Nat.reduceLeDiff, Int.reduceLE, Int.reduceLT, reduceCtorEq]
  clear ho
  unfold slices_IndexFunc__sKnown_Known.b0
  by_cases hlt : k < l.length
  · have hi' : (k : Int) < l.length := by omega
    have ga : l[k]? = some l[k] := List.getElem?_eq_getElem hlt
    have hw : IntKind.i64.wrap (k + 1) = ((k + 1 : Nat) : Int) := wrap_k hlt (by omega)
    simp only [go_sem, ↓reduceIte, Nat.reduceEqDiff, Nat.reduceAdd, Nat.reduceMul, Nat.reduceBEq, Option.getD_none, Int.reduceToNat, Nat.reduceSub, Nat.reduceLT, Nat.reduceLeDiff, Int.reduceLE, Int.reduceLT, reduceCtorEq, h0, h1, h7, h8, hi', ga]
    refine ccl_ro (ds := [knownD l[k]]) (by simp only [go_sem, ↓reduceIte, Nat.reduceEqDiff, Nat.reduceAdd, Nat.reduceMul, Nat.reduceBEq, Option.getD_none, Int.reduceToNat, Nat.reduceSub, Nat.reduceLT, Nat.reduceLeDiff, Int.reduceLE, Int.reduceLT, reduceCtorEq]) ?_
    refine fcW_bool (h _ (List.getElem_mem hlt)) ?_
    cases hp : p l[k] with
    | true => simp only [go_sem, ↓reduceIte, Nat.reduceEqDiff, Nat.reduceAdd, Nat.reduceMul, Nat.reduceBEq, Option.getD_none, Int.reduceToNat, Nat.reduceSub, Nat.reduceLT, Nat.reduceLeDiff, Int.reduceLE, Int.reduceLT, reduceCtorEq, idxB_some hlt hr hp]
    | false =>
      simp only [go_sem, ↓reduceIte, Nat.reduceEqDiff, Nat.reduceAdd, Nat.reduceMul, Nat.reduceBEq, Option.getD_none, Int.reduceToNat, Nat.reduceSub, Nat.reduceLT, Nat.reduceLeDiff, Int.reduceLE, Int.reduceLT, reduceCtorEq, h8, hw]
      exact ⟨k + 1, by dsimp only; omega, by omega, by simp only [go_sem, ↓reduceIte, Nat.reduceEqDiff, Nat.reduceAdd, Nat.reduceMul, Nat.reduceBEq, Option.getD_none, Int.reduceToNat, Nat.reduceSub, Nat.reduceLT, Nat.reduceLeDiff, Int.reduceLE, Int.reduceLT, reduceCtorEq], all_take hlt hr (by simp [hp])⟩
  · have hi' : ¬ (k : Int) < l.length := by omega
    rw [List.take_of_length_le (by omega)] at hr
    simp only [go_sem, ↓reduceIte, Nat.reduceEqDiff, Nat.reduceAdd, Nat.reduceMul, Nat.reduceBEq, Option.getD_none, Int.reduceToNat, Nat.reduceSub, Nat.reduceLT, Nat.reduceLeDiff, Int.reduceLE, Int.reduceLT, reduceCtorEq, h0, h1, h7, h8, hi', idxB_none hr]
theorem slices_ContainsFunc__sKnown_Known.fc (l : List (Int × Int)) (f : FuncId) (caps : List D) (p : (Int × Int) → Bool) (hl : l.length ≤ 4294967296)
    (h : ∀ x ∈ l, FCt prog f (.ro :: caps.map fun _ => .ro) (knownD x :: caps) (Bb (p x)) []) : FCt prog F_slices_ContainsFunc__sKnown_Known [.ro, .ro] [knowns l, .clo f caps] (Bb (l.any p)) [] := by
  refine fct_run slices_ContainsFunc__sKnown_Known.ok rfl ?_
  simp only [go_sem, ↓reduceIte, Nat.reduceEqDiff, Nat.reduceAdd, Nat.reduceMul, Nat.reduceBEq, Option.getD_none, Int.reduceToNat, Nat.reduceSub, Nat.reduceLT, Nat.reduceLeDiff, Int.reduceLE, Int.reduceLT, reduceCtorEq]
  refine fcW_int (slices_IndexFunc__sKnown_Known.fc l f caps p hl h) ?_
  simp only [go_sem, ↓reduceIte, Nat.reduceEqDiff, Nat.reduceAdd, Nat.reduceMul, Nat.reduceBEq, Option.getD_none, Int.reduceToNat, Nat.reduceSub, Nat.reduceLT, Nat.reduceLeDiff, Int.reduceLE, Int.reduceLT, reduceCtorEq, ge_iff_le, idxB_any]

def gS (x : Int × Int) : Bool := goodS x.1 x.2
def gK (x : Int × Int) : Bool := goodK x.1 x.2
theorem impl_GoodMay_c1.fc (x : Int × Int) : FCt prog F_impl_GoodMay_c1 [.ro] [strD x] (Bb (!gS x)) [] := by
  refine fct_run impl_GoodMay_c1.ok rfl ?_
  simp only [go_sem, ↓reduceIte, Nat.reduceEqDiff, Nat.reduceAdd, Nat.reduceMul, Nat.reduceBEq, Option.getD_none, Int.reduceToNat, Nat.reduceSub, Nat.reduceLT, Nat.reduceLeDiff, Int.reduceLE, Int.reduceLT, reduceCtorEq]
  refine fcW_bool (impl_GoodStretch.fc x.1 x.2) ?_
  simp only [go_sem, ↓reduceIte, Nat.reduceEqDiff, Nat.reduceAdd, Nat.reduceMul, Nat.reduceBEq, Option.getD_none, Int.reduceToNat, Nat.reduceSub, Nat.reduceLT, Nat.reduceLeDiff, Int.reduceLE, Int.reduceLT, reduceCtorEq]
  rfl
theorem impl_GoodMay_c2.fc (x : Int × Int) : FCt prog F_impl_GoodMay_c2 [.ro] [knownD x] (Bb (!gK x)) [] := by
  refine fct_run impl_GoodMay_c2.ok rfl ?_
  simp only [go_sem, ↓reduceIte, Nat.reduceEqDiff, Nat.reduceAdd, Nat.reduceMul, Nat.reduceBEq, Option.getD_none, Int.reduceToNat, Nat.reduceSub, Nat.reduceLT, Nat.reduceLeDiff, Int.reduceLE, Int.reduceLT, reduceCtorEq]
  refine fcW_bool (impl_GoodKnown.fc x.1 x.2) ?_
  simp only [go_sem, ↓reduceIte, Nat.reduceEqDiff, Nat.reduceAdd, Nat.reduceMul, Nat.reduceBEq, Option.getD_none, Int.reduceToNat, Nat.reduceSub, Nat.reduceLT, Nat.reduceLeDiff, Int.reduceLE, Int.reduceLT, reduceCtorEq]
  rfl
structure MayOk (m : MayD) : Prop where
  reg : m.reg.length = 6
  bits : m.bits.length = 6
  cell : m.cell.length = 16
  isset : m.isset.length = 16
  gr : ∀ x ∈ m.reg, gS x = true
  gb : ∀ x ∈ m.bits, gK x = true
  gc : ∀ x ∈ m.cell, gS x = true
def goodMay (m : MayD) : Bool := decide (m.reg.length = 6) && decide (m.bits.length = 6) && decide (m.cell.length = 16) && decide (m.isset.length = 16) && m.reg.all gS && m.cell.all gS && m.bits.all gK
theorem goodMay_ok {m : MayD} (h : goodMay m = true) : MayOk m := by
  simp only [goodMay, Bool.and_eq_true, decide_eq_true_eq, List.all_eq_true] at h
  exact ⟨h.1.1.1.1.1.1, h.1.1.1.1.1.2, h.1.1.1.1.2, h.1.1.1.2, h.1.1.2, h.2, h.1.2⟩
theorem neq_dec {a b : Nat} : ((a : Int) != (b : Int)) = !decide (a = b) := by
  by_cases h : a = b
  · subst h; simp
  · have : ((a : Int) != (b : Int)) = true := by simp; omega
    rw [this]; simp [h]
theorem eq_dec {a b : Nat} : ((a : Int) == (b : Int)) = decide (a = b) := by
  by_cases h : a = b
  · subst h; simp
  · have : ((a : Int) == (b : Int)) = false := by rw [beq_eq_false_iff_ne]; omega
    rw [this]; simp [h]
theorem impl_GoodMay.fc (m : MayD) (h : wMay m ≤ 4194304) : FCt prog F_impl_GoodMay [.ro] [m.d] (Bb (goodMay m)) [] := by
  refine fct_run impl_GoodMay.ok rfl ?_
  have h := h
  unfold wMay at h
  have e1 : ((m.reg.length : Int) != 6) = !decide (m.reg.length = 6) := neq_dec (b := 6)
  have e2 : ((m.bits.length : Int) != 6) = !decide (m.bits.length = 6) := neq_dec (b := 6)
  have e3 : ((m.cell.length : Int) != 16) = !decide (m.cell.length = 16) := neq_dec (b := 16)
  have e4 : ((m.isset.length : Int) != 16) = !decide (m.isset.length = 16) := neq_dec (b := 16)
  unfold goodMay
  by_cases h1 : m.reg.length = 6
  case neg => rw [decide_eq_false h1] at e1 ⊢; simp only [go_sem, ↓reduceIte, Nat.reduceEqDiff, Nat.reduceAdd, Nat.reduceMul, Nat.reduceBEq, Option.getD_none, Int.reduceToNat, Nat.reduceSub, Nat.reduceLT, Nat.reduceLeDiff, Int.reduceLE, Int.reduceLT, reduceCtorEq, e1]
  rw [decide_eq_true h1] at e1 ⊢
  by_cases h2 : m.bits.length = 6
  case neg => rw [decide_eq_false h2] at e2 ⊢; simp only [go_sem, ↓reduceIte, Nat.reduceEqDiff, Nat.reduceAdd, Nat.reduceMul, Nat.reduceBEq, Option.getD_none, Int.reduceToNat, Nat.reduceSub, Nat.reduceLT, Nat.reduceLeDiff, Int.reduceLE, Int.reduceLT, reduceCtorEq, e1, e2]
  rw [decide_eq_true h2] at e2 ⊢
  by_cases h3 : m.cell.length = 16
  case neg => rw [decide_eq_false h3] at e3 ⊢; simp only [go_sem, ↓reduceIte, Nat.reduceEqDiff, Nat.reduceAdd, Nat.reduceMul, Nat.reduceBEq, Option.getD_none, Int.reduceToNat, Nat.reduceSub, Nat.reduceLT, Nat.reduceLeDiff, Int.reduceLE, Int.reduceLT, reduceCtorEq, e1, e2, e3]
  rw [decide_eq_true h3] at e3 ⊢
  by_cases h4 : m.isset.length = 16
  case neg => rw [decide_eq_false h4] at e4 ⊢; simp only [go_sem, ↓reduceIte, Nat.reduceEqDiff, Nat.reduceAdd, Nat.reduceMul, Nat.reduceBEq, Option.getD_none, Int.reduceToNat, Nat.reduceSub, Nat.reduceLT, Nat.reduceLeDiff, Int.reduceLE, Int.reduceLT, reduceCtorEq, e1, e2, e3, e4]
  rw [decide_eq_true h4] at e4 ⊢
  have a1 : m.reg.any (fun x => !gS x) = !m.reg.all gS := by rw [List.not_all_eq_any_not]
  have a2 : m.cell.any (fun x => !gS x) = !m.cell.all gS := by rw [List.not_all_eq_any_not]
  have a3 : m.bits.any (fun x => !gK x) = !m.bits.all gK := by rw [List.not_all_eq_any_not]
  simp only [go_sem, ↓reduceIte, Nat.reduceEqDiff, Nat.reduceAdd, Nat.reduceMul, Nat.reduceBEq, Option.getD_none, Int.reduceToNat, Nat.reduceSub, Nat.reduceLT, Nat.reduceLeDiff, Int.reduceLE, Int.reduceLT, reduceCtorEq, e1, e2, e3, e4]
  refine fcW_bool (slices_ContainsFunc__sStretch_Stretch.fc m.reg F_impl_GoodMay_c1 [] (fun x => !gS x) (by omega) (fun x _ => impl_GoodMay_c1.fc x)) ?_
  rw [a1]
  cases m.reg.all gS with
  | false => simp only [go_sem, ↓reduceIte, Nat.reduceEqDiff, Nat.reduceAdd, Nat.reduceMul, Nat.reduceBEq, Option.getD_none, Int.reduceToNat, Nat.reduceSub, Nat.reduceLT, Nat.reduceLeDiff, Int.reduceLE, Int.reduceLT, reduceCtorEq, e1, e2, e3, e4]
  | true =>
    simp only [go_sem, ↓reduceIte, Nat.reduceEqDiff, Nat.reduceAdd, Nat.reduceMul, Nat.reduceBEq, Option.getD_none, Int.reduceToNat, Nat.reduceSub, Nat.reduceLT, Nat.reduceLeDiff, Int.reduceLE, Int.reduceLT, reduceCtorEq, e1, e2, e3, e4]
    refine fcW_bool (slices_ContainsFunc__sStretch_Stretch.fc m.cell F_impl_GoodMay_c1 [] (fun x => !gS x) (by omega) (fun x _ => impl_GoodMay_c1.fc x)) ?_
    rw [a2]
    cases m.cell.all gS with
    | false => simp only [go_sem, ↓reduceIte, Nat.reduceEqDiff, Nat.reduceAdd, Nat.reduceMul, Nat.reduceBEq, Option.getD_none, Int.reduceToNat, Nat.reduceSub, Nat.reduceLT, Nat.reduceLeDiff, Int.reduceLE, Int.reduceLT, reduceCtorEq, e1, e2, e3, e4]
    | true =>
      simp only [go_sem, ↓reduceIte, Nat.reduceEqDiff, Nat.reduceAdd, Nat.reduceMul, Nat.reduceBEq, Option.getD_none, Int.reduceToNat, Nat.reduceSub, Nat.reduceLT, Nat.reduceLeDiff, Int.reduceLE, Int.reduceLT, reduceCtorEq, e1, e2, e3, e4]
      refine fcW_bool (slices_ContainsFunc__sKnown_Known.fc m.bits F_impl_GoodMay_c2 [] (fun x => !gK x) (by omega) (fun x _ => impl_GoodMay_c2.fc x)) ?_
      rw [a3]
      cases m.bits.all gK <;> simp only [go_sem, ↓reduceIte, Nat.reduceEqDiff, Nat.reduceAdd, Nat.reduceMul, Nat.reduceBEq, Option.getD_none, Int.reduceToNat, Nat.reduceSub, Nat.reduceLT, Nat.reduceLeDiff, Int.reduceLE, Int.reduceLT, reduceCtorEq, e1, e2, e3, e4]
theorem spec_GoodMay.fc (m : MayD) (h : wMay m ≤ 4194304) : FCt prog F_spec_GoodMay [.ro] [m.d] (Bb (goodMay m)) [] := by
  refine fct_run spec_GoodMay.ok rfl ?_
  have h := h
  unfold wMay at h
  have f1 : m.reg.all gS = false → goodMay m = false := fun e => by simp only [goodMay, e, Bool.and_false, Bool.false_and]
  have f2 : m.bits.all gK = false → goodMay m = false := fun e => by simp only [goodMay, e, Bool.and_false]
  have f3 : m.cell.all gS = false → goodMay m = false := fun e => by simp only [goodMay, e, Bool.and_false, Bool.false_and]
  simp only [go_sem, ↓reduceIte, Nat.reduceEqDiff, Nat.reduceAdd, Nat.reduceMul, Nat.reduceBEq, Option.getD_none, Int.reduceToNat, Nat.reduceSub, Nat.reduceLT, Nat.reduceLeDiff, Int.reduceLE, Int.reduceLT, reduceCtorEq]
  refine R_loop (α := Nat) (fun k s' M' => k ≤ m.reg.length ∧ s' 12 = aI k ∧ (m.reg.take k).all gS = true ∧ M'.m 64 = some (.box 0 (.dat none m.d))) (fun k => m.reg.length - k) 0 ⟨by omega, by simp only [go_sem, ↓reduceIte, Nat.reduceEqDiff, Nat.reduceAdd, Nat.reduceMul, Nat.reduceBEq, Option.getD_none, Int.reduceToNat, Nat.reduceSub, Nat.reduceLT, Nat.reduceLeDiff, Int.reduceLE, Int.reduceLT, reduceCtorEq]; rfl, by simp, by simp only [go_sem, ↓reduceIte, Nat.reduceEqDiff, Nat.reduceAdd, Nat.reduceMul, Nat.reduceBEq, Option.getD_none, Int.reduceToNat, Nat.reduceSub, Nat.reduceLT, Nat.reduceLeDiff, Int.reduceLE, Int.reduceLT, reduceCtorEq]⟩ ?_
  rintro k s' M' ⟨hk, h12, hr0, hm⟩ ho
  unfold spec_GoodMay.b0
  have j1 : s' 1 = .ptr 64 0 0 none := by rw [ho 1 rfl]; simp only [go_sem, ↓reduceIte, Nat.reduceEqDiff, Nat.reduceAdd, Nat.reduceMul, Nat.reduceBEq, Option.getD_none, Int.reduceToNat, Nat.reduceSub, Nat.reduceLT, Nat.reduceLeDiff, Int.reduceLE, Int.reduceLT, reduceCtorEq]
  have j10 : s' 10 = .dat none (strs m.reg) := by rw [ho 10 rfl]; simp only [go_sem, ↓reduceIte, Nat.reduceEqDiff, Nat.reduceAdd, Nat.reduceMul, Nat.reduceBEq, Option.getD_none, Int.reduceToNat, Nat.reduceSub, Nat.reduceLT, Nat.reduceLeDiff, Int.reduceLE, Int.reduceLT, reduceCtorEq]
  have j11 : s' 11 = aI m.reg.length := by rw [ho 11 rfl]; simp only [go_sem, ↓reduceIte, Nat.reduceEqDiff, Nat.reduceAdd, Nat.reduceMul, Nat.reduceBEq, Option.getD_none, Int.reduceToNat, Nat.reduceSub, Nat.reduceLT, Nat.reduceLeDiff, Int.reduceLE, Int.reduceLT, reduceCtorEq]
  clear ho
  by_cases hlt : k < m.reg.length
  · have hi' : (k : Int) < m.reg.length := by omega
    have ga : m.reg[k]? = some m.reg[k] := List.getElem?_eq_getElem hlt
    have hw : IntKind.i64.wrap (k + 1) = ((k + 1 : Nat) : Int) := wrap_k hlt (by omega)
    simp only [go_sem, ↓reduceIte, Nat.reduceEqDiff, Nat.reduceAdd, Nat.reduceMul, Nat.reduceBEq, Option.getD_none, Int.reduceToNat, Nat.reduceSub, Nat.reduceLT, Nat.reduceLeDiff, Int.reduceLE, Int.reduceLT, reduceCtorEq, hi', ga, j1, j10, j11, h12, hm]
    refine fcW_bool (spec_GoodStretch.fc m.reg[k].1 m.reg[k].2) ?_
    cases hc : goodS m.reg[k].1 m.reg[k].2 with
    | false => simp only [go_sem, ↓reduceIte, Nat.reduceEqDiff, Nat.reduceAdd, Nat.reduceMul, Nat.reduceBEq, Option.getD_none, Int.reduceToNat, Nat.reduceSub, Nat.reduceLT, Nat.reduceLeDiff, Int.reduceLE, Int.reduceLT, reduceCtorEq, f1 (not_all hlt hc), j1, j10, j11, h12, hm]
    | true =>
      simp only [go_sem, ↓reduceIte, Nat.reduceEqDiff, Nat.reduceAdd, Nat.reduceMul, Nat.reduceBEq, Option.getD_none, Int.reduceToNat, Nat.reduceSub, Nat.reduceLT, Nat.reduceLeDiff, Int.reduceLE, Int.reduceLT, reduceCtorEq, hw, j1, j10, j11, h12, hm]
      exact ⟨k + 1, by dsimp only; omega, by omega, by simp only [go_sem, ↓reduceIte, Nat.reduceEqDiff, Nat.reduceAdd, Nat.reduceMul, Nat.reduceBEq, Option.getD_none, Int.reduceToNat, Nat.reduceSub, Nat.reduceLT, Nat.reduceLeDiff, Int.reduceLE, Int.reduceLT, reduceCtorEq, j1, j10, j11, h12, hm], all_take hlt hr0 hc, by simp only [go_sem, ↓reduceIte, Nat.reduceEqDiff, Nat.reduceAdd, Nat.reduceMul, Nat.reduceBEq, Option.getD_none, Int.reduceToNat, Nat.reduceSub, Nat.reduceLT, Nat.reduceLeDiff, Int.reduceLE, Int.reduceLT, reduceCtorEq, j1, j10, j11, h12, hm]⟩
  have hi' : ¬ (k : Int) < m.reg.length := by omega
  obtain rfl : k = m.reg.length := by omega
  rw [List.take_length] at hr0
  simp only [go_sem, ↓reduceIte, Nat.reduceEqDiff, Nat.reduceAdd, Nat.reduceMul, Nat.reduceBEq, Option.getD_none, Int.reduceToNat, Nat.reduceSub, Nat.reduceLT, Nat.reduceLeDiff, Int.reduceLE, Int.reduceLT, reduceCtorEq, hi', j1, j10, j11, h12, hm]
  refine R_loop (α := Nat) (fun k s' M' => k ≤ m.bits.length ∧ s' 23 = aI k ∧ (m.bits.take k).all gK = true ∧ M'.m 64 = some (.box 0 (.dat none m.d))) (fun k => m.bits.length - k) 0 ⟨by omega, by simp only [go_sem, ↓reduceIte, Nat.reduceEqDiff, Nat.reduceAdd, Nat.reduceMul, Nat.reduceBEq, Option.getD_none, Int.reduceToNat, Nat.reduceSub, Nat.reduceLT, Nat.reduceLeDiff, Int.reduceLE, Int.reduceLT, reduceCtorEq, j1, j10, j11, h12, hm]; rfl, by simp, by simp only [go_sem, ↓reduceIte, Nat.reduceEqDiff, Nat.reduceAdd, Nat.reduceMul, Nat.reduceBEq, Option.getD_none, Int.reduceToNat, Nat.reduceSub, Nat.reduceLT, Nat.reduceLeDiff, Int.reduceLE, Int.reduceLT, reduceCtorEq, j1, j10, j11, h12, hm]⟩ ?_
  rintro k s2 M' ⟨hk, h12, hr1, hm⟩ ho
  unfold spec_GoodMay.b1
  have g1 : s2 1 = .ptr 64 0 0 none := by rw [ho 1 rfl]; simp only [go_sem, ↓reduceIte, Nat.reduceEqDiff, Nat.reduceAdd, Nat.reduceMul, Nat.reduceBEq, Option.getD_none, Int.reduceToNat, Nat.reduceSub, Nat.reduceLT, Nat.reduceLeDiff, Int.reduceLE, Int.reduceLT, reduceCtorEq, j1, j10, j11, h12, hm]
  have g21 : s2 21 = .dat none (knowns m.bits) := by rw [ho 21 rfl]; simp only [go_sem, ↓reduceIte, Nat.reduceEqDiff, Nat.reduceAdd, Nat.reduceMul, Nat.reduceBEq, Option.getD_none, Int.reduceToNat, Nat.reduceSub, Nat.reduceLT, Nat.reduceLeDiff, Int.reduceLE, Int.reduceLT, reduceCtorEq, j1, j10, j11, h12, hm]
  have g22 : s2 22 = aI m.bits.length := by rw [ho 22 rfl]; simp only [go_sem, ↓reduceIte, Nat.reduceEqDiff, Nat.reduceAdd, Nat.reduceMul, Nat.reduceBEq, Option.getD_none, Int.reduceToNat, Nat.reduceSub, Nat.reduceLT, Nat.reduceLeDiff, Int.reduceLE, Int.reduceLT, reduceCtorEq, j1, j10, j11, h12, hm]
  clear ho
  by_cases hlt : k < m.bits.length
  · have hi' : (k : Int) < m.bits.length := by omega
    have ga : m.bits[k]? = some m.bits[k] := List.getElem?_eq_getElem hlt
    have hw : IntKind.i64.wrap (k + 1) = ((k + 1 : Nat) : Int) := wrap_k hlt (by omega)
    simp only [go_sem, ↓reduceIte, Nat.reduceEqDiff, Nat.reduceAdd, Nat.reduceMul, Nat.reduceBEq, Option.getD_none, Int.reduceToNat, Nat.reduceSub, Nat.reduceLT, Nat.reduceLeDiff, Int.reduceLE, Int.reduceLT, reduceCtorEq, hi', ga, j1, j10, j11, h12, hm, g1, g21, g22, h12, hm]
    refine fcW_bool (spec_GoodKnown.fc m.bits[k].1 m.bits[k].2) ?_
    cases hc : goodK m.bits[k].1 m.bits[k].2 with
    | false => simp only [go_sem, ↓reduceIte, Nat.reduceEqDiff, Nat.reduceAdd, Nat.reduceMul, Nat.reduceBEq, Option.getD_none, Int.reduceToNat, Nat.reduceSub, Nat.reduceLT, Nat.reduceLeDiff, Int.reduceLE, Int.reduceLT, reduceCtorEq, f2 (not_all hlt hc), j1, j10, j11, h12, hm, g1, g21, g22, h12, hm]
    | true =>
      simp only [go_sem, ↓reduceIte, Nat.reduceEqDiff, Nat.reduceAdd, Nat.reduceMul, Nat.reduceBEq, Option.getD_none, Int.reduceToNat, Nat.reduceSub, Nat.reduceLT, Nat.reduceLeDiff, Int.reduceLE, Int.reduceLT, reduceCtorEq, hw, j1, j10, j11, h12, hm, g1, g21, g22, h12, hm]
      exact ⟨k + 1, by dsimp only; omega, by omega, by simp only [go_sem, ↓reduceIte, Nat.reduceEqDiff, Nat.reduceAdd, Nat.reduceMul, Nat.reduceBEq, Option.getD_none, Int.reduceToNat, Nat.reduceSub, Nat.reduceLT, Nat.reduceLeDiff, Int.reduceLE, Int.reduceLT, reduceCtorEq, j1, j10, j11, h12, hm, g1, g21, g22, h12, hm], all_take hlt hr1 hc, by simp only [go_sem, ↓reduceIte, Nat.reduceEqDiff, Nat.reduceAdd, Nat.reduceMul, Nat.reduceBEq, Option.getD_none, Int.reduceToNat, Nat.reduceSub, Nat.reduceLT, Nat.reduceLeDiff, Int.reduceLE, Int.reduceLT, reduceCtorEq, j1, j10, j11, h12, hm, g1, g21, g22, h12, hm]⟩
  have hi' : ¬ (k : Int) < m.bits.length := by omega
  obtain rfl : k = m.bits.length := by omega
  rw [List.take_length] at hr1
  simp only [go_sem, ↓reduceIte, Nat.reduceEqDiff, Nat.reduceAdd, Nat.reduceMul, Nat.reduceBEq, Option.getD_none, Int.reduceToNat, Nat.reduceSub, Nat.reduceLT, Nat.reduceLeDiff, Int.reduceLE, Int.reduceLT, reduceCtorEq, hi', j1, j10, j11, h12, hm, g1, g21, g22, h12, hm]
  refine R_loop (α := Nat) (fun k s' M' => k ≤ m.cell.length ∧ s' 34 = aI k ∧ (m.cell.take k).all gS = true ∧ M'.m 64 = some (.box 0 (.dat none m.d))) (fun k => m.cell.length - k) 0 ⟨by omega, by simp only [go_sem, ↓reduceIte, Nat.reduceEqDiff, Nat.reduceAdd, Nat.reduceMul, Nat.reduceBEq, Option.getD_none, Int.reduceToNat, Nat.reduceSub, Nat.reduceLT, Nat.reduceLeDiff, Int.reduceLE, Int.reduceLT, reduceCtorEq, j1, j10, j11, h12, hm, g1, g21, g22, h12, hm]; rfl, by simp, by simp only [go_sem, ↓reduceIte, Nat.reduceEqDiff, Nat.reduceAdd, Nat.reduceMul, Nat.reduceBEq, Option.getD_none, Int.reduceToNat, Nat.reduceSub, Nat.reduceLT, Nat.reduceLeDiff, Int.reduceLE, Int.reduceLT, reduceCtorEq, j1, j10, j11, h12, hm, g1, g21, g22, h12, hm]⟩ ?_
  rintro k s3 M' ⟨hk, h12, hr2, hm⟩ ho
  unfold spec_GoodMay.b2
  have k1 : s3 1 = .ptr 64 0 0 none := by rw [ho 1 rfl]; simp only [go_sem, ↓reduceIte, Nat.reduceEqDiff, Nat.reduceAdd, Nat.reduceMul, Nat.reduceBEq, Option.getD_none, Int.reduceToNat, Nat.reduceSub, Nat.reduceLT, Nat.reduceLeDiff, Int.reduceLE, Int.reduceLT, reduceCtorEq, j1, j10, j11, h12, hm, g1, g21, g22, h12, hm]
  have k32 : s3 32 = .dat none (strs m.cell) := by rw [ho 32 rfl]; simp only [go_sem, ↓reduceIte, Nat.reduceEqDiff, Nat.reduceAdd, Nat.reduceMul, Nat.reduceBEq, Option.getD_none, Int.reduceToNat, Nat.reduceSub, Nat.reduceLT, Nat.reduceLeDiff, Int.reduceLE, Int.reduceLT, reduceCtorEq, j1, j10, j11, h12, hm, g1, g21, g22, h12, hm]
  have k33 : s3 33 = aI m.cell.length := by rw [ho 33 rfl]; simp only [go_sem, ↓reduceIte, Nat.reduceEqDiff, Nat.reduceAdd, Nat.reduceMul, Nat.reduceBEq, Option.getD_none, Int.reduceToNat, Nat.reduceSub, Nat.reduceLT, Nat.reduceLeDiff, Int.reduceLE, Int.reduceLT, reduceCtorEq, j1, j10, j11, h12, hm, g1, g21, g22, h12, hm]
  clear ho
  by_cases hlt : k < m.cell.length
  · have hi' : (k : Int) < m.cell.length := by omega
    have ga : m.cell[k]? = some m.cell[k] := List.getElem?_eq_getElem hlt
    have hw : IntKind.i64.wrap (k + 1) = ((k + 1 : Nat) : Int) := wrap_k hlt (by omega)
    simp only [go_sem, ↓reduceIte, Nat.reduceEqDiff, Nat.reduceAdd, Nat.reduceMul, Nat.reduceBEq, Option.getD_none, Int.reduceToNat, Nat.reduceSub, Nat.reduceLT, Nat.reduceLeDiff, Int.reduceLE, Int.reduceLT, reduceCtorEq, hi', ga, j1, j10, j11, h12, hm, g1, g21, g22, h12, hm, k1, k32, k33, h12, hm]
    refine fcW_bool (spec_GoodStretch.fc m.cell[k].1 m.cell[k].2) ?_
    cases hc : goodS m.cell[k].1 m.cell[k].2 with
    | false => simp only [go_sem, ↓reduceIte, Nat.reduceEqDiff, Nat.reduceAdd, Nat.reduceMul, Nat.reduceBEq, Option.getD_none, Int.reduceToNat, Nat.reduceSub, Nat.reduceLT, Nat.reduceLeDiff, Int.reduceLE, Int.reduceLT, reduceCtorEq, f3 (not_all hlt hc), j1, j10, j11, h12, hm, g1, g21, g22, h12, hm, k1, k32, k33, h12, hm]
    | true =>
      simp only [go_sem, ↓reduceIte, Nat.reduceEqDiff, Nat.reduceAdd, Nat.reduceMul, Nat.reduceBEq, Option.getD_none, Int.reduceToNat, Nat.reduceSub, Nat.reduceLT, Nat.reduceLeDiff, Int.reduceLE, Int.reduceLT, reduceCtorEq, hw, j1, j10, j11, h12, hm, g1, g21, g22, h12, hm, k1, k32, k33, h12, hm]
      exact ⟨k + 1, by dsimp only; omega, by omega, by simp only [go_sem, ↓reduceIte, Nat.reduceEqDiff, Nat.reduceAdd, Nat.reduceMul, Nat.reduceBEq, Option.getD_none, Int.reduceToNat, Nat.reduceSub, Nat.reduceLT, Nat.reduceLeDiff, Int.reduceLE, Int.reduceLT, reduceCtorEq, j1, j10, j11, h12, hm, g1, g21, g22, h12, hm, k1, k32, k33, h12, hm], all_take hlt hr2 hc, by simp only [go_sem, ↓reduceIte, Nat.reduceEqDiff, Nat.reduceAdd, Nat.reduceMul, Nat.reduceBEq, Option.getD_none, Int.reduceToNat, Nat.reduceSub, Nat.reduceLT, Nat.reduceLeDiff, Int.reduceLE, Int.reduceLT, reduceCtorEq, j1, j10, j11, h12, hm, g1, g21, g22, h12, hm, k1, k32, k33, h12, hm]⟩
  have hi' : ¬ (k : Int) < m.cell.length := by omega
  obtain rfl : k = m.cell.length := by omega
  rw [List.take_length] at hr2
  simp only [go_sem, ↓reduceIte, Nat.reduceEqDiff, Nat.reduceAdd, Nat.reduceMul, Nat.reduceBEq, Option.getD_none, Int.reduceToNat, Nat.reduceSub, Nat.reduceLT, Nat.reduceLeDiff, Int.reduceLE, Int.reduceLT, reduceCtorEq, hi', j1, j10, j11, h12, hm, g1, g21, g22, h12, hm, k1, k32, k33, h12, hm]
  have e1 : ((m.reg.length : Int) == 6) = decide (m.reg.length = 6) := eq_dec (b := 6)
  have e2 : ((m.bits.length : Int) == 6) = decide (m.bits.length = 6) := eq_dec (b := 6)
  have e3 : ((m.cell.length : Int) == 16) = decide (m.cell.length = 16) := eq_dec (b := 16)
  have e4 : ((m.isset.length : Int) == 16) = decide (m.isset.length = 16) := eq_dec (b := 16)
  unfold goodMay
  rw [hr0, hr1, hr2, ← e1, ← e2, ← e3, ← e4]
  cases b1 : ((m.reg.length : Int) == 6) with
  | false => simp only [go_sem, ↓reduceIte, Nat.reduceEqDiff, Nat.reduceAdd, Nat.reduceMul, Nat.reduceBEq, Option.getD_none, Int.reduceToNat, Nat.reduceSub, Nat.reduceLT, Nat.reduceLeDiff, Int.reduceLE, Int.reduceLT, reduceCtorEq, b1, j1, j10, j11, h12, hm, g1, g21, g22, h12, hm, k1, k32, k33, h12, hm]
  | true =>
    cases b2 : ((m.bits.length : Int) == 6) with
    | false => simp only [go_sem, ↓reduceIte, Nat.reduceEqDiff, Nat.reduceAdd, Nat.reduceMul, Nat.reduceBEq, Option.getD_none, Int.reduceToNat, Nat.reduceSub, Nat.reduceLT, Nat.reduceLeDiff, Int.reduceLE, Int.reduceLT, reduceCtorEq, b1, b2, j1, j10, j11, h12, hm, g1, g21, g22, h12, hm, k1, k32, k33, h12, hm]
    | true =>
      cases b3 : ((m.cell.length : Int) == 16) with
      | false => simp only [go_sem, ↓reduceIte, Nat.reduceEqDiff, Nat.reduceAdd, Nat.reduceMul, Nat.reduceBEq, Option.getD_none, Int.reduceToNat, Nat.reduceSub, Nat.reduceLT, Nat.reduceLeDiff, Int.reduceLE, Int.reduceLT, reduceCtorEq, b1, b2, b3, j1, j10, j11, h12, hm, g1, g21, g22, h12, hm, k1, k32, k33, h12, hm]
      | true => simp only [go_sem, ↓reduceIte, Nat.reduceEqDiff, Nat.reduceAdd, Nat.reduceMul, Nat.reduceBEq, Option.getD_none, Int.reduceToNat, Nat.reduceSub, Nat.reduceLT, Nat.reduceLeDiff, Int.reduceLE, Int.reduceLT, reduceCtorEq, b1, b2, b3, j1, j10, j11, h12, hm, g1, g21, g22, h12, hm, k1, k32, k33, h12, hm]
end Go.Vm.Ytmicgdfekpoajaa
/- Walks: the may-state at the start. -/
namespace Go.Vm.Ytmicgdfekpoajaa
open Go Go.Vm
set_option maxRecDepth 10000
set_option maxHeartbeats 4000000
set_option linter.unusedSimpArgs false
set_option linter.unusedVariables false

end Go.Vm.Ytmicgdfekpoajaa
/- Walks: machines; is a machine among those that may be? -/
namespace Go.Vm.Ytmicgdfekpoajaa
open Go Go.Vm
set_option maxRecDepth 10000
set_option maxHeartbeats 4000000
set_option linter.unusedSimpArgs false
set_option linter.unusedVariables false

structure MachD where
  pc : Int
  regs : List Int
  cells : List Int
  isset : List Bool
  deriving DecidableEq
abbrev MachD.d (x : MachD) : D := .agg [Ii x.pc, ints x.regs, ints x.cells, bools x.isset]
structure MachOk (m : MachD) : Prop where
  pc : 0 ≤ m.pc ∧ m.pc ≤ 19
  regs : m.regs.length = 6
  cells : m.cells.length = 16
  isset : m.isset.length = 16
  wr : ∀ x ∈ m.regs, 0 ≤ x ∧ x ≤ 65535
  wc : ∀ x ∈ m.cells, 0 ≤ x ∧ x ≤ 65535
theorem getD_get {α : Type} {l : List α} {i : Nat} {d : α} (h : i < l.length) : l.getD i d = l[i] := by rw [List.getD_eq_getElem?_getD, List.getElem?_eq_getElem h]; rfl
end Go.Vm.Ytmicgdfekpoajaa
/- Walks: is a machine among those that may be (the reference). -/
namespace Go.Vm.Ytmicgdfekpoajaa
open Go Go.Vm
set_option maxRecDepth 10000
set_option maxHeartbeats 4000000
set_option linter.unusedSimpArgs false
set_option linter.unusedVariables false

end Go.Vm.Ytmicgdfekpoajaa
/- Bits of whole numbers: plain laws. -/
namespace Go.Vm.Ytmicgdfekpoajaa
open Go Go.Vm
set_option maxRecDepth 10000
set_option maxHeartbeats 4000000
set_option linter.unusedSimpArgs false
set_option linter.unusedVariables false

def orI (a b : Int) : Int := IntKind.i64.wrap (BitVec.ofInt IntKind.i64.bits a ||| BitVec.ofInt IntKind.i64.bits b).toNat
def xorI (a b : Int) : Int := IntKind.i64.wrap (BitVec.ofInt IntKind.i64.bits a ^^^ BitVec.ofInt IntKind.i64.bits b).toNat
/-- a word -/
def wd (a : Int) : Prop := 0 ≤ a ∧ a ≤ 65535
theorem wd_iff {a : Int} : inB a 0 65535 = true ↔ wd a := by simp only [inB, wd, Bool.and_eq_true, decide_eq_true_eq]
/-! ### as rows of 64 bits -/
abbrev bI (a : Int) : BitVec 64 := BitVec.ofInt 64 a
theorem wrap_bv (x : BitVec 64) : IntKind.i64.wrap (x.toNat : Int) = x.toInt := by
  rw [BitVec.toInt_eq_toNat_bmod]
  simp [IntKind.wrap, IntKind.signed, IntKind.bits, Int.bmod]
  have := x.isLt
  split <;> split <;> omega
theorem andI_bv (a b : Int) : andI a b = (bI a &&& bI b).toInt := wrap_bv _
theorem orI_bv (a b : Int) : orI a b = (bI a ||| bI b).toInt := wrap_bv _
theorem andNotI_bv (a b : Int) : andNotI a b = (bI a &&& ~~~bI b).toInt := wrap_bv _
theorem bI_toInt (x : BitVec 64) : bI x.toInt = x := BitVec.ofInt_toInt
theorem andI_zero {a b : Int} (h : andI a b = 0) : bI a &&& bI b = 0#64 := by
  rw [andI_bv] at h
  have : bI (bI a &&& bI b).toInt = bI 0 := by rw [h]
  rw [bI_toInt] at this; exact this
theorem disj {a b : Int} (h : andI a b = 0) (i : Nat) : ((bI a).getLsbD i && (bI b).getLsbD i) = false := by
  rw [← BitVec.getLsbD_and, andI_zero h]; simp
end Go.Vm.Ytmicgdfekpoajaa
/- Walks: operations on words. -/
namespace Go.Vm.Ytmicgdfekpoajaa
open Go Go.Vm
set_option maxRecDepth 10000
set_option maxHeartbeats 4000000
set_option linter.unusedSimpArgs false
set_option linter.unusedVariables false

theorem cdW_not {A B : Prop} {t : Bool} (h1 : t = false → A) (h2 : t = true → B) : @cdW (some (!t)) ⟨A⟩ ⟨B⟩ := by
  cases t
  · exact h1 rfl
  · exact h2 rfl
theorem gdW_not {A B : Prop} {t b : Bool} (h1 : t = !b → A) (h2 : t = b → B) : @gdW (some (some (!t))) b ⟨A⟩ ⟨B⟩ := by
  cases t <;> cases b
  · exact h2 rfl
  · exact h1 rfl
  · exact h1 rfl
  · exact h2 rfl
end Go.Vm.Ytmicgdfekpoajaa
/- Walks: intervals. -/
namespace Go.Vm.Ytmicgdfekpoajaa
open Go Go.Vm
set_option maxRecDepth 10000
set_option maxHeartbeats 4000000
set_option linter.unusedSimpArgs false
set_option linter.unusedVariables false

def mnI (a b : Int) : Int := if b < a then b else a
def mxI (a b : Int) : Int := if b > a then b else a
end Go.Vm.Ytmicgdfekpoajaa
/- Walks: operations on intervals. -/
namespace Go.Vm.Ytmicgdfekpoajaa
open Go Go.Vm
set_option maxRecDepth 10000
set_option maxHeartbeats 8000000
set_option linter.unusedSimpArgs false
set_option linter.unusedVariables false

structure SOk (a : Int × Int) : Prop where
  lo : 0 ≤ a.1
  le : a.1 ≤ a.2
  hi : a.2 ≤ 65535
theorem gS_ok {a : Int × Int} (h : gS a = true) : SOk a := by
  simp only [gS, goodS, inB, Bool.and_eq_true, decide_eq_true_eq] at h
  exact ⟨by omega, by omega, by omega⟩
end Go.Vm.Ytmicgdfekpoajaa
/- Walks: known bits. -/
namespace Go.Vm.Ytmicgdfekpoajaa
open Go Go.Vm
set_option maxRecDepth 10000
set_option maxHeartbeats 8000000
set_option linter.unusedSimpArgs false
set_option linter.unusedVariables false

structure KOk (a : Int × Int) : Prop where
  v : wd a.1
  m : wd a.2
  dj : andI a.1 a.2 = 0
theorem gK_ok {a : Int × Int} (h : gK a = true) : KOk a := by
  simp only [gK, goodK, Bool.and_eq_true, wd_iff, beq_iff_eq] at h
  exact ⟨h.1.1, h.1.2, h.2⟩
def knN (v m : Int) : Int × Int := (andNotI v m, m)
theorem impl_known.fc (v m : Int) : FCt prog F_impl_known [.ro, .ro] [Ii v, Ii m] (knownD (knN v m)) [] := by
  refine fct_run impl_known.ok rfl ?_
  unfold knN andNotI
  repeat' (first | with_reducible rfl | with_reducible refine cdW_dec (fun _ => ?_) (fun _ => ?_) | refine cdW_not (fun _ => ?_) (fun _ => ?_) | refine cdW_any (fun _ => ?_) (fun _ => ?_) | with_reducible refine gdW_decT (fun _ => ?_) (fun _ => ?_) | with_reducible refine gdW_decF (fun _ => ?_) (fun _ => ?_) | refine gdW_not (fun _ => ?_) (fun _ => ?_) | refine gdW_any (fun _ => ?_) (fun _ => ?_) | simp only [go_sem, ↓reduceIte, Nat.reduceEqDiff, Nat.reduceAdd, Nat.reduceMul, Nat.reduceBEq, Option.getD_none, Int.reduceToNat, Nat.reduceSub, Nat.reduceLT, Nat.reduceLeDiff, Int.reduceLE, Int.reduceLT, reduceCtorEq, bne, Int.reduceEq, Int.reduceBEq, Int.reduceBNe, Int.reduceLE, Int.reduceNeg, Int.reduceAdd, Int.reduceSub, Int.reduceMul, *] | rfl)
def meetKb (a b : Int × Int) : Bool := !(andNotI (xorI a.1 b.1) (orI a.2 b.2) == 0)
def meetK (a b : Int × Int) : Int × Int := if meetKb a b then (0, 0) else (orI a.1 b.1, andI a.2 b.2)
theorem nots (a b c : Int) : andNotI (andNotI a b) c = andNotI a (orI b c) := by
  simp only [andNotI_bv, orI_bv, bI_toInt]
  congr 1
  apply BitVec.eq_of_getLsbD_eq
  intro i hi
  simp only [BitVec.getLsbD_and, BitVec.getLsbD_not, BitVec.getLsbD_or]
  cases (bI a).getLsbD i <;> cases (bI b).getLsbD i <;> cases (bI c).getLsbD i <;> simp
theorem meet_kn {a b : Int × Int} (ha : KOk a) (hb : KOk b) : knN (orI a.1 b.1) (andI a.2 b.2) = (orI a.1 b.1, andI a.2 b.2) := by
  unfold knN
  refine congrArg (·, _) ?_
  simp only [andNotI_bv, orI_bv, andI_bv, bI_toInt]
  congr 1
  apply BitVec.eq_of_getLsbD_eq
  intro i hi
  have h1 := disj ha.dj i
  have h2 := disj hb.dj i
  simp only [BitVec.getLsbD_and, BitVec.getLsbD_not, BitVec.getLsbD_or]
  revert h1 h2
  cases (bI a.1).getLsbD i <;> cases (bI a.2).getLsbD i <;> cases (bI b.1).getLsbD i <;> cases (bI b.2).getLsbD i <;> simp [hi]
theorem impl_meetKnown.fc (a b : Int × Int) (ha : KOk a) (hb : KOk b) : FCt prog F_impl_meetKnown [.ro, .ro] [knownD a, knownD b] (.tup [knownD (meetK a b), Bb (!meetKb a b)]) [] := by
  refine fct_run impl_meetKnown.ok rfl ?_
  have e := meet_kn ha hb
  unfold meetK meetKb
  rw [← nots, ← e]
  unfold xorI andNotI orI andI
  repeat' (first | with_reducible rfl | refine fcW_bd (impl_known.fc ..) rfl ?_ | with_reducible refine cdW_dec (fun _ => ?_) (fun _ => ?_) | refine cdW_not (fun _ => ?_) (fun _ => ?_) | refine cdW_any (fun _ => ?_) (fun _ => ?_) | with_reducible refine gdW_decT (fun _ => ?_) (fun _ => ?_) | with_reducible refine gdW_decF (fun _ => ?_) (fun _ => ?_) | refine gdW_not (fun _ => ?_) (fun _ => ?_) | refine gdW_any (fun _ => ?_) (fun _ => ?_) | simp only [go_sem, ↓reduceIte, Nat.reduceEqDiff, Nat.reduceAdd, Nat.reduceMul, Nat.reduceBEq, Option.getD_none, Int.reduceToNat, Nat.reduceSub, Nat.reduceLT, Nat.reduceLeDiff, Int.reduceLE, Int.reduceLT, reduceCtorEq, bne, Int.reduceEq, Int.reduceBEq, Int.reduceBNe, Int.reduceLE, Int.reduceNeg, Int.reduceAdd, Int.reduceSub, Int.reduceMul, *] | rfl)
theorem spec_l10Meet.fc (a b : Int × Int) : FCt prog F_spec_l10Meet [.ro, .ro] [knownD a, knownD b] (.tup [knownD (meetK a b), Bb (!meetKb a b)]) [] := by
  refine fct_run spec_l10Meet.ok rfl ?_
  unfold meetK meetKb xorI andNotI orI andI
  repeat' (first | with_reducible rfl | with_reducible refine cdW_dec (fun _ => ?_) (fun _ => ?_) | refine cdW_not (fun _ => ?_) (fun _ => ?_) | refine cdW_any (fun _ => ?_) (fun _ => ?_) | with_reducible refine gdW_decT (fun _ => ?_) (fun _ => ?_) | with_reducible refine gdW_decF (fun _ => ?_) (fun _ => ?_) | refine gdW_not (fun _ => ?_) (fun _ => ?_) | refine gdW_any (fun _ => ?_) (fun _ => ?_) | simp only [go_sem, ↓reduceIte, Nat.reduceEqDiff, Nat.reduceAdd, Nat.reduceMul, Nat.reduceBEq, Option.getD_none, Int.reduceToNat, Nat.reduceSub, Nat.reduceLT, Nat.reduceLeDiff, Int.reduceLE, Int.reduceLT, reduceCtorEq, bne, Int.reduceEq, Int.reduceBEq, Int.reduceBNe, Int.reduceLE, Int.reduceNeg, Int.reduceAdd, Int.reduceSub, Int.reduceMul, *] | rfl)
end Go.Vm.Ytmicgdfekpoajaa
/- Walks: operations on known bits. -/
namespace Go.Vm.Ytmicgdfekpoajaa
open Go Go.Vm
set_option maxRecDepth 10000
set_option maxHeartbeats 8000000
set_option linter.unusedSimpArgs false
set_option linter.unusedVariables false

end Go.Vm.Ytmicgdfekpoajaa
/- Walks: states are copied and joined. -/
namespace Go.Vm.Ytmicgdfekpoajaa
open Go Go.Vm
set_option maxRecDepth 10000
set_option maxHeartbeats 8000000
set_option linter.unusedSimpArgs false
set_option linter.unusedVariables false

theorem slices_Clone__sStretch_Stretch.fc (l : List (Int × Int)) (hl : l.length ≤ 4294967296) : FCt prog F_slices_Clone__sStretch_Stretch [.ro] [strs l] (strs l) [] := by
  refine fct_run slices_Clone__sStretch_Stretch.ok rfl ?_
  have hsc : (l.map strD).all isSc = true := by rw [List.all_eq_true]; intro d hd; obtain ⟨x, _, rfl⟩ := List.mem_map.1 hd; rfl
  cases l with
  | nil => simp only [go_sem, ↓reduceIte, Nat.reduceEqDiff, Nat.reduceAdd, Nat.reduceMul, Nat.reduceBEq, Option.getD_none, Int.reduceToNat, Nat.reduceSub, Nat.reduceLT, Nat.reduceLeDiff, Int.reduceLE, Int.reduceLT, reduceCtorEq, List.length_nil, List.map_nil, List.all_nil]; try rfl
  | cons b l =>
    have hb : (l.length + 1) * 16 ≤ 70368744177664 := by simp only [List.length_cons] at hl; omega
    have htk : (l.map strD).take l.length = l.map strD := List.take_of_length_le (by simp)
    simp only [List.map_cons, List.all_cons, Bool.and_eq_true] at hsc
    have h1 := hsc.1
    have h2 := hsc.2
    simp only [go_sem, ↓reduceIte, Nat.reduceEqDiff, Nat.reduceAdd, Nat.reduceMul, Nat.reduceBEq, Option.getD_none, Int.reduceToNat, Nat.reduceSub, Nat.reduceLT, Nat.reduceLeDiff, Int.reduceLE, Int.reduceLT, reduceCtorEq, h1, h2, hb, Nat.zero_le, htk]
    try rfl

theorem slices_Clone__sKnown_Known.fc (l : List (Int × Int)) (hl : l.length ≤ 4294967296) : FCt prog F_slices_Clone__sKnown_Known [.ro] [knowns l] (knowns l) [] := by
  refine fct_run slices_Clone__sKnown_Known.ok rfl ?_
  have hsc : (l.map knownD).all isSc = true := by rw [List.all_eq_true]; intro d hd; obtain ⟨x, _, rfl⟩ := List.mem_map.1 hd; rfl
  cases l with
  | nil => simp only [go_sem, ↓reduceIte, Nat.reduceEqDiff, Nat.reduceAdd, Nat.reduceMul, Nat.reduceBEq, Option.getD_none, Int.reduceToNat, Nat.reduceSub, Nat.reduceLT, Nat.reduceLeDiff, Int.reduceLE, Int.reduceLT, reduceCtorEq, List.length_nil, List.map_nil, List.all_nil]; try rfl
  | cons b l =>
    have hb : (l.length + 1) * 16 ≤ 70368744177664 := by simp only [List.length_cons] at hl; omega
    have htk : (l.map knownD).take l.length = l.map knownD := List.take_of_length_le (by simp)
    simp only [List.map_cons, List.all_cons, Bool.and_eq_true] at hsc
    have h1 := hsc.1
    have h2 := hsc.2
    simp only [go_sem, ↓reduceIte, Nat.reduceEqDiff, Nat.reduceAdd, Nat.reduceMul, Nat.reduceBEq, Option.getD_none, Int.reduceToNat, Nat.reduceSub, Nat.reduceLT, Nat.reduceLeDiff, Int.reduceLE, Int.reduceLT, reduceCtorEq, h1, h2, hb, Nat.zero_le, htk]
    try rfl

structure MLen (m : MayD) : Prop where
  reg : m.reg.length = 6
  bits : m.bits.length = 6
  cell : m.cell.length = 16
  isset : m.isset.length = 16
theorem MayOk.len {m : MayD} (h : MayOk m) : MLen m := ⟨h.reg, h.bits, h.cell, h.isset⟩
theorem sc_all {α : Type} {f : α → D} (hf : ∀ x, isSc (f x) = true) (l : List α) : (l.map f).all isSc = true := by
  rw [List.all_eq_true]; intro d hd; obtain ⟨x, _, rfl⟩ := List.mem_map.1 hd; exact hf x
theorem impl_May_own.fc (m : MayD) (h : MLen m) : FCt prog F_impl_May_own [.ro] [m.d] m.d [] := by
  refine fct_run impl_May_own.ok rfl ?_
  obtain ⟨h1, h2, h3, h4⟩ := h
  simp only [go_sem, ↓reduceIte, Nat.reduceEqDiff, Nat.reduceAdd, Nat.reduceMul, Nat.reduceBEq, Option.getD_none, Int.reduceToNat, Nat.reduceSub, Nat.reduceLT, Nat.reduceLeDiff, Int.reduceLE, Int.reduceLT, reduceCtorEq]
  refine fcW_bd (slices_Clone__sStretch_Stretch.fc m.reg (by omega)) noRs_strs ?_
  simp only [go_sem, ↓reduceIte, Nat.reduceEqDiff, Nat.reduceAdd, Nat.reduceMul, Nat.reduceBEq, Option.getD_none, Int.reduceToNat, Nat.reduceSub, Nat.reduceLT, Nat.reduceLeDiff, Int.reduceLE, Int.reduceLT, reduceCtorEq]
  refine fcW_bd (slices_Clone__sKnown_Known.fc m.bits (by omega)) noRs_knowns ?_
  simp only [go_sem, ↓reduceIte, Nat.reduceEqDiff, Nat.reduceAdd, Nat.reduceMul, Nat.reduceBEq, Option.getD_none, Int.reduceToNat, Nat.reduceSub, Nat.reduceLT, Nat.reduceLeDiff, Int.reduceLE, Int.reduceLT, reduceCtorEq]
  refine fcW_bd (slices_Clone__sStretch_Stretch.fc m.cell (by omega)) noRs_strs ?_
  simp only [go_sem, ↓reduceIte, Nat.reduceEqDiff, Nat.reduceAdd, Nat.reduceMul, Nat.reduceBEq, Option.getD_none, Int.reduceToNat, Nat.reduceSub, Nat.reduceLT, Nat.reduceLeDiff, Int.reduceLE, Int.reduceLT, reduceCtorEq]
  refine fcW_bd (slices_Clone__sbool_bool.fc1 m.isset (by omega) (by omega)) noRs_bools ?_
  simp only [go_sem, ↓reduceIte, Nat.reduceEqDiff, Nat.reduceAdd, Nat.reduceMul, Nat.reduceBEq, Option.getD_none, Int.reduceToNat, Nat.reduceSub, Nat.reduceLT, Nat.reduceLeDiff, Int.reduceLE, Int.reduceLT, reduceCtorEq, take_map_len]
theorem spec_l13Own.fc (m : MayD) (h : MLen m) : FCt prog F_spec_l13Own [.ro] [m.d] m.d [] := by
  refine fct_run spec_l13Own.ok rfl ?_
  obtain ⟨h1, h2, h3, h4⟩ := h
  have a1 := sc_all (f := strD) (fun _ => rfl) m.reg
  have a2 := sc_all (f := knownD) (fun _ => rfl) m.bits
  have a3 := sc_all (f := strD) (fun _ => rfl) m.cell
  have a4 := sc_all (f := Bb) (fun _ => rfl) m.isset
  simp only [go_sem, ↓reduceIte, Nat.reduceEqDiff, Nat.reduceAdd, Nat.reduceMul, Nat.reduceBEq, Option.getD_none, Int.reduceToNat, Nat.reduceSub, Nat.reduceLT, Nat.reduceLeDiff, Int.reduceLE, Int.reduceLT, reduceCtorEq, take_map_len, a1, a2, a3, a4, h1, h2, h3, h4]
  rw [List.take_of_length_le (by simp [h1]), List.take_of_length_le (by simp [h2]), List.take_of_length_le (by simp [h3]), List.take_of_length_le (by simp [h4])]
section
variable {α : Type} {A B : List α} {k : Nat} {f : α → D}
end
end Go.Vm.Ytmicgdfekpoajaa
/- Walks: states are joined, if they are valid. -/
namespace Go.Vm.Ytmicgdfekpoajaa
open Go Go.Vm
set_option maxRecDepth 10000
set_option maxHeartbeats 8000000
set_option linter.unusedSimpArgs false
set_option linter.unusedVariables false

def zeroM : MayD := ⟨[], [], [], []⟩
theorem wMay_len {m : MayD} (h : MLen m) : wMay m ≤ 1048576 := by obtain ⟨h1, h2, h3, h4⟩ := h; unfold wMay; omega
theorem wMay_zero : wMay zeroM ≤ 1048576 := by decide
end Go.Vm.Ytmicgdfekpoajaa
/- Walks: steps. -/
namespace Go.Vm.Ytmicgdfekpoajaa
open Go Go.Vm
set_option maxRecDepth 10000
set_option maxHeartbeats 8000000
set_option linter.unusedSimpArgs false
set_option linter.unusedVariables false

structure StepD where
  kind : Int
  op : Int
  dst : Int
  src : Int
  imm : Int
  to : Int
  deriving DecidableEq
abbrev StepD.d (x : StepD) : D := .agg [Ii x.kind, Ii x.op, Ii x.dst, Ii x.src, Ii x.imm, Ii x.to]
abbrev TyStep : Ty := .st [(.int .i64), (.int .i64), (.int .i64), (.int .i64), (.int .i64), (.int .i64)]
theorem hasStep {d : D} (h : HasTy TyStep d) : ∃ x : StepD, d = StepD.d x ∧ True := by
  simp only [HasTy] at h
  obtain ⟨ys, rfl, h⟩ := h
  simp only [HasTys] at h
  obtain ⟨d0, s0, rfl, h0, d1, s1, rfl, h1, d2, s2, rfl, h2, d3, s3, rfl, h3, d4, s4, rfl, h4, d5, s5, rfl, h5, rfl⟩ := h
  obtain ⟨x0, rfl, _⟩ := hasInt h0
  obtain ⟨x1, rfl, _⟩ := hasInt h1
  obtain ⟨x2, rfl, _⟩ := hasInt h2
  obtain ⟨x3, rfl, _⟩ := hasInt h3
  obtain ⟨x4, rfl, _⟩ := hasInt h4
  obtain ⟨x5, rfl, _⟩ := hasInt h5
  exact ⟨⟨x0, x1, x2, x3, x4, x5⟩, rfl, trivial⟩
theorem laws_toStep.fcu (x : StepD) :
    FCt prog F_laws_toStep [.ro] [StepD.d x] (StepD.d x) [] := by
  refine fct_run laws_toStep.ok rfl ?_
  simp only [go_sem, ↓reduceIte, Nat.reduceEqDiff, Nat.reduceAdd, Nat.reduceMul, Nat.reduceBEq, Option.getD_none, Int.reduceToNat, Nat.reduceSub, Nat.reduceLT, Nat.reduceLeDiff, Int.reduceLE, Int.reduceLT, reduceCtorEq]
abbrev steps (l : List StepD) : D := .sl 6 (l.map StepD.d)
theorem spec_l2Reg.fc (n : Int) : FCt prog F_spec_l2Reg [.ro] [Ii n] (Bb (inB n 0 5)) [] := by
  refine fct_run spec_l2Reg.ok rfl ?_
  repeat' (first | with_reducible rfl | refine fcW_bool (spec_l1In.fc ..) ?_ | with_reducible refine cdW_dec (fun _ => ?_) (fun _ => ?_) | refine cdW_not (fun _ => ?_) (fun _ => ?_) | refine cdW_any (fun _ => ?_) (fun _ => ?_) | with_reducible refine gdW_decT (fun _ => ?_) (fun _ => ?_) | with_reducible refine gdW_decF (fun _ => ?_) (fun _ => ?_) | refine gdW_not (fun _ => ?_) (fun _ => ?_) | refine gdW_any (fun _ => ?_) (fun _ => ?_) | simp only [go_sem, ↓reduceIte, Nat.reduceEqDiff, Nat.reduceAdd, Nat.reduceMul, Nat.reduceBEq, Option.getD_none, Int.reduceToNat, Nat.reduceSub, Nat.reduceLT, Nat.reduceLeDiff, Int.reduceLE, Int.reduceLT, reduceCtorEq, bne, Int.reduceEq, Int.reduceBEq, Int.reduceBNe, Int.reduceLE, Int.reduceNeg, Int.reduceAdd, Int.reduceSub, Int.reduceMul, *] | rfl)
def zeroB (s : StepD) (op dst src imm to : Bool) : Bool := (op || s.op == 0) && (dst || s.dst == 0) && (src || s.src == 0) && (imm || s.imm == 0) && (to || s.to == 0)
theorem spec_l2Zero.fc (s : StepD) (op dst src imm to : Bool) : FCt prog F_spec_l2Zero [.ro, .ro, .ro, .ro, .ro, .ro] [s.d, Bb op, Bb dst, Bb src, Bb imm, Bb to] (Bb (zeroB s op dst src imm to)) [] := by
  refine fct_run spec_l2Zero.ok rfl ?_
  unfold zeroB
  repeat' (first | with_reducible rfl | with_reducible refine cdW_dec (fun _ => ?_) (fun _ => ?_) | refine cdW_not (fun _ => ?_) (fun _ => ?_) | refine cdW_any (fun _ => ?_) (fun _ => ?_) | with_reducible refine gdW_decT (fun _ => ?_) (fun _ => ?_) | with_reducible refine gdW_decF (fun _ => ?_) (fun _ => ?_) | refine gdW_not (fun _ => ?_) (fun _ => ?_) | refine gdW_any (fun _ => ?_) (fun _ => ?_) | simp only [go_sem, ↓reduceIte, Nat.reduceEqDiff, Nat.reduceAdd, Nat.reduceMul, Nat.reduceBEq, Option.getD_none, Int.reduceToNat, Nat.reduceSub, Nat.reduceLT, Nat.reduceLeDiff, Int.reduceLE, Int.reduceLT, reduceCtorEq, bne, Int.reduceEq, Int.reduceBEq, Int.reduceBNe, Int.reduceLE, Int.reduceNeg, Int.reduceAdd, Int.reduceSub, Int.reduceMul, *] | rfl)
def stepB (s : StepD) : Bool :=
  if !inB s.dst 0 5 then false else if !inB s.src 0 5 then false else
  if s.kind == 1 then inB s.op 1 10 && zeroB s true true true false false else
  if s.kind == 2 then inB s.op 1 10 && inB s.imm 0 255 && zeroB s true true false true false else
  if s.kind == 3 then inB s.imm 0 255 && zeroB s false true false true false else
  if s.kind == 4 then inB s.imm 256 65535 && zeroB s false true false true false else
  if s.kind == 5 then inB s.imm 0 7 && zeroB s false true true true false else
  if s.kind == 6 then inB s.imm 0 255 && zeroB s false true false true false else
  if s.kind == 7 then inB s.imm 0 255 && zeroB s false true false true false else
  if s.kind == 8 then inB s.to 1 19 && zeroB s false false false false true else
  if s.kind == 9 then inB s.to 1 19 && zeroB s false true true false true else
  if s.kind == 10 then inB s.to 1 19 && zeroB s false true true false true else
  (s.kind == 11) && zeroB s false false false false false
theorem spec_l2Step.fc (s : StepD) : FCt prog F_spec_l2Step [.ro] [s.d] (Bb (stepB s)) [] := by
  refine fct_run spec_l2Step.ok rfl ?_
  unfold stepB
  repeat' (first | with_reducible rfl | refine fcW_bool (spec_l1In.fc ..) ?_ | refine fcW_bool (spec_l2Reg.fc ..) ?_ | refine fcW_bool (spec_l2Zero.fc ..) ?_ | with_reducible refine cdW_dec (fun _ => ?_) (fun _ => ?_) | refine cdW_not (fun _ => ?_) (fun _ => ?_) | refine cdW_any (fun _ => ?_) (fun _ => ?_) | with_reducible refine gdW_decT (fun _ => ?_) (fun _ => ?_) | with_reducible refine gdW_decF (fun _ => ?_) (fun _ => ?_) | refine gdW_not (fun _ => ?_) (fun _ => ?_) | refine gdW_any (fun _ => ?_) (fun _ => ?_) | simp only [go_sem, ↓reduceIte, Nat.reduceEqDiff, Nat.reduceAdd, Nat.reduceMul, Nat.reduceBEq, Option.getD_none, Int.reduceToNat, Nat.reduceSub, Nat.reduceLT, Nat.reduceLeDiff, Int.reduceLE, Int.reduceLT, reduceCtorEq, bne, Int.reduceEq, Int.reduceBEq, Int.reduceBNe, Int.reduceLE, Int.reduceNeg, Int.reduceAdd, Int.reduceSub, Int.reduceMul, *] | rfl)
end Go.Vm.Ytmicgdfekpoajaa
/- Walks: valid steps. -/
namespace Go.Vm.Ytmicgdfekpoajaa
open Go Go.Vm
set_option maxRecDepth 10000
set_option maxHeartbeats 8000000
set_option linter.unusedSimpArgs false
set_option linter.unusedVariables false

/-- the letters of a kind's fields -/
def fldL (k : Int) : List UInt8 :=
  if k == 1 then [111, 100, 115] else if k == 2 then [111, 100, 105] else if k == 3 then [100, 105] else if k == 4 then [100, 105] else if k == 6 then [100, 105] else if k == 7 then [100, 105] else
  if k == 5 then [100, 115, 105] else if k == 8 then [116] else if k == 9 then [100, 115, 116] else if k == 10 then [100, 115, 116] else []
def strL (l : List UInt8) : ByteArray := ⟨l.toArray⟩
theorem impl_fields.fc (k : Int) : FCt prog F_impl_fields [.ro] [Ii k] (.str (strL (fldL k))) [] := by
  refine fct_run impl_fields.ok rfl ?_
  unfold fldL
  repeat' (first | with_reducible rfl | with_reducible refine cdW_dec (fun _ => ?_) (fun _ => ?_) | refine cdW_not (fun _ => ?_) (fun _ => ?_) | refine cdW_any (fun _ => ?_) (fun _ => ?_) | with_reducible refine gdW_decT (fun _ => ?_) (fun _ => ?_) | with_reducible refine gdW_decF (fun _ => ?_) (fun _ => ?_) | refine gdW_not (fun _ => ?_) (fun _ => ?_) | refine gdW_any (fun _ => ?_) (fun _ => ?_) | simp only [go_sem, ↓reduceIte, Nat.reduceEqDiff, Nat.reduceAdd, Nat.reduceMul, Nat.reduceBEq, Option.getD_none, Int.reduceToNat, Nat.reduceSub, Nat.reduceLT, Nat.reduceLeDiff, Int.reduceLE, Int.reduceLT, reduceCtorEq, bne, Int.reduceEq, Int.reduceBEq, Int.reduceBNe, Int.reduceLE, Int.reduceNeg, Int.reduceAdd, Int.reduceSub, Int.reduceMul, *] | rfl)
  all_goals rfl
def rgF (k : Int) (c : Int) : Int × Int :=
  if c == 111 then (1, 10) else if c == 100 then (0, 5) else if c == 115 then (0, 5) else if c == 116 then (1, 19) else
  if k == 4 then (256, 65535) else if k == 5 then (0, 7) else (0, 255)
theorem impl_Step_ranges.fc (s : StepD) (c : Int) : FCt prog F_impl_Step_ranges [.ro, .ro] [s.d, .int .u8 c] (.tup [Ii (rgF s.kind c).1, Ii (rgF s.kind c).2]) [] := by
  refine fct_run impl_Step_ranges.ok rfl ?_
  unfold rgF
  repeat' (first | with_reducible rfl | with_reducible refine cdW_dec (fun _ => ?_) (fun _ => ?_) | refine cdW_not (fun _ => ?_) (fun _ => ?_) | refine cdW_any (fun _ => ?_) (fun _ => ?_) | with_reducible refine gdW_decT (fun _ => ?_) (fun _ => ?_) | with_reducible refine gdW_decF (fun _ => ?_) (fun _ => ?_) | refine gdW_not (fun _ => ?_) (fun _ => ?_) | refine gdW_any (fun _ => ?_) (fun _ => ?_) | simp only [go_sem, ↓reduceIte, Nat.reduceEqDiff, Nat.reduceAdd, Nat.reduceMul, Nat.reduceBEq, Option.getD_none, Int.reduceToNat, Nat.reduceSub, Nat.reduceLT, Nat.reduceLeDiff, Int.reduceLE, Int.reduceLT, reduceCtorEq, bne, Int.reduceEq, Int.reduceBEq, Int.reduceBNe, Int.reduceLE, Int.reduceNeg, Int.reduceAdd, Int.reduceSub, Int.reduceMul, *] | rfl)
/-- the place of a letter's field -/
theorem field_pc {c : Int} {j : Nat} (h : c = 111 ∧ j = 1 ∨ c = 100 ∧ j = 2 ∨ c = 115 ∧ j = 3 ∨ c = 105 ∧ j = 4 ∨ c = 116 ∧ j = 5) : PCt prog F_impl_pStep_field (.int .u8 c) j := by
  refine ⟨by kernel_rfl, ?_⟩
  intro X w a v hv
  simp only [TV] at hv
  obtain ⟨rfl, _⟩ := hv
  rcases h with ⟨rfl, rfl⟩ | ⟨rfl, rfl⟩ | ⟨rfl, rfl⟩ | ⟨rfl, rfl⟩ | ⟨rfl, rfl⟩ <;>
  · go_enter Go.Proofs.Try.func173, Go.Proofs.Try.ntmps173
    go_wp2
    go_ret
    exact ⟨rfl, rfl⟩
def getF (s : StepD) (c : UInt8) : Int := if c = 111 then s.op else if c = 100 then s.dst else if c = 115 then s.src else if c = 105 then s.imm else s.to
def clrF (s : StepD) (c : UInt8) : StepD := if c = 111 then { s with op := 0 } else if c = 100 then { s with dst := 0 } else if c = 115 then { s with src := 0 } else if c = 105 then { s with imm := 0 } else { s with to := 0 }
def okF (s : StepD) (c : UInt8) : Bool := inB (getF s c) (rgF s.kind c.toNat).1 (rgF s.kind c.toNat).2
def restF (s : StepD) (l : List UInt8) : StepD := l.foldl clrF { s with kind := 0 }
def validB (s : StepD) : Bool := (fldL s.kind).all (okF s) && (inB s.kind 1 11 && (restF s (fldL s.kind) == ⟨0, 0, 0, 0, 0, 0⟩))
theorem fldL_len (k : Int) : (fldL k).length ≤ 3 := by
  unfold fldL; repeat' (split <;> try decide)
theorem fldL_mem {k : Int} {c : UInt8} (h : c ∈ fldL k) : c = 111 ∨ c = 100 ∨ c = 115 ∨ c = 105 ∨ c = 116 := by
  have : (fldL k).all (fun c => c == 111 || c == 100 || c == 115 || c == 105 || c == 116) = true := by
    unfold fldL; repeat' split
    all_goals rfl
  have := List.all_eq_true.1 this c h
  simp only [Bool.or_eq_true, beq_iff_eq] at this
  rcases this with (((h | h) | h) | h) | h <;> simp [h]
theorem valid_not {s : StepD} {i : Nat} (h : i < (fldL s.kind).length) (h2 : okF s (fldL s.kind)[i] = false) : validB s = false := by
  unfold validB; rw [not_all h h2]; rfl
theorem rest_step {s : StepD} {l : List UInt8} {i : Nat} (h : i < l.length) : restF s (l.take (i + 1)) = clrF (restF s (l.take i)) l[i] := by
  unfold restF; rw [take_succ' h, List.foldl_append]; rfl
theorem impl_Step_valid.fc (s : StepD) : FCt prog F_impl_Step_valid [.ro] [s.d] (Bb (validB s)) [] := by
  refine fct_run impl_Step_valid.ok rfl ?_
  simp only [go_sem, ↓reduceIte, Nat.reduceEqDiff, Nat.reduceAdd, Nat.reduceMul, Nat.reduceBEq, Option.getD_none, Int.reduceToNat, Nat.reduceSub, Nat.reduceLT, Nat.reduceLeDiff, Int.reduceLE, Int.reduceLT, reduceCtorEq]
  refine fcW_str (impl_fields.fc s.kind) ?_
  have hln := fldL_len s.kind
  have hsz : (strL (fldL s.kind)).size = (fldL s.kind).length := rfl
  simp only [go_sem, ↓reduceIte, Nat.reduceEqDiff, Nat.reduceAdd, Nat.reduceMul, Nat.reduceBEq, Option.getD_none, Int.reduceToNat, Nat.reduceSub, Nat.reduceLT, Nat.reduceLeDiff, Int.reduceLE, Int.reduceLT, reduceCtorEq, hsz]
  refine R_loop (α := Nat) (fun i s' M' => i ≤ (fldL s.kind).length ∧ s' 14 = aI i ∧ ((fldL s.kind).take i).all (okF s) = true ∧ M'.m 64 = some (.box 0 (.dat none s.d)) ∧
      ∃ r, restF s ((fldL s.kind).take i) = r ∧ M'.m 256 = some (.box 192 (.agg [aI r.kind, aI r.op, aI r.dst, aI r.src, aI r.imm, aI r.to]))) (fun i => (fldL s.kind).length - i) 0
    ⟨by omega, by simp only [go_sem, ↓reduceIte, Nat.reduceEqDiff, Nat.reduceAdd, Nat.reduceMul, Nat.reduceBEq, Option.getD_none, Int.reduceToNat, Nat.reduceSub, Nat.reduceLT, Nat.reduceLeDiff, Int.reduceLE, Int.reduceLT, reduceCtorEq]; rfl, by simp, by simp only [go_sem, ↓reduceIte, Nat.reduceEqDiff, Nat.reduceAdd, Nat.reduceMul, Nat.reduceBEq, Option.getD_none, Int.reduceToNat, Nat.reduceSub, Nat.reduceLT, Nat.reduceLeDiff, Int.reduceLE, Int.reduceLT, reduceCtorEq], { s with kind := 0 }, by simp [restF], by simp only [go_sem, ↓reduceIte, Nat.reduceEqDiff, Nat.reduceAdd, Nat.reduceMul, Nat.reduceBEq, Option.getD_none, Int.reduceToNat, Nat.reduceSub, Nat.reduceLT, Nat.reduceLeDiff, Int.reduceLE, Int.reduceLT, reduceCtorEq]⟩ ?_
  rintro i s' M' ⟨hi, h14, hall, m1, r, hr, m2⟩ ho
  unfold impl_Step_valid.b0
  have k1 : s' 1 = .ptr 64 0 0 none := by rw [ho 1 rfl]; simp only [go_sem, ↓reduceIte, Nat.reduceEqDiff, Nat.reduceAdd, Nat.reduceMul, Nat.reduceBEq, Option.getD_none, Int.reduceToNat, Nat.reduceSub, Nat.reduceLT, Nat.reduceLeDiff, Int.reduceLE, Int.reduceLT, reduceCtorEq]
  have k3 : s' 3 = .ptr 256 192 0 none := by rw [ho 3 rfl]; simp only [go_sem, ↓reduceIte, Nat.reduceEqDiff, Nat.reduceAdd, Nat.reduceMul, Nat.reduceBEq, Option.getD_none, Int.reduceToNat, Nat.reduceSub, Nat.reduceLT, Nat.reduceLeDiff, Int.reduceLE, Int.reduceLT, reduceCtorEq]
  have k13 : s' 13 = aI (fldL s.kind).length := by rw [ho 13 rfl]; simp only [go_sem, ↓reduceIte, Nat.reduceEqDiff, Nat.reduceAdd, Nat.reduceMul, Nat.reduceBEq, Option.getD_none, Int.reduceToNat, Nat.reduceSub, Nat.reduceLT, Nat.reduceLeDiff, Int.reduceLE, Int.reduceLT, reduceCtorEq]
  clear ho
  by_cases hlt : i < (fldL s.kind).length
  · have hi' : (i : Int) < (fldL s.kind).length := by omega
    have hw : IntKind.i64.wrap (i + 1) = ((i + 1 : Nat) : Int) := by rw [wrap_in (by omega) (by omega)]; omega
    have hbd : 0 ≤ (i : Int) ∧ (i : Int) < (strL (fldL s.kind)).size := ⟨by omega, by rw [hsz]; omega⟩
    have hgt : ∀ h, (strL (fldL s.kind))[i]'h = (fldL s.kind)[i] := fun _ => rfl
    have hmem := fldL_mem (List.getElem_mem hlt)
    have hnot := valid_not hlt
    have hst := rest_step (s := s) hlt
    rw [hr] at hst
    have hall' : okF s (fldL s.kind)[i] = true → ((fldL s.kind).take (i + 1)).all (okF s) = true := fun h => all_take hlt hall h
    simp only [go_sem, ↓reduceIte, Nat.reduceEqDiff, Nat.reduceAdd, Nat.reduceMul, Nat.reduceBEq, Option.getD_none, Int.reduceToNat, Nat.reduceSub, Nat.reduceLT, Nat.reduceLeDiff, Int.reduceLE, Int.reduceLT, reduceCtorEq, hi', k1, k3, k13, h14, m1, m2]
    refine fcW_str (impl_fields.fc s.kind) ?_
    simp only [go_sem, ↓reduceIte, Nat.reduceEqDiff, Nat.reduceAdd, Nat.reduceMul, Nat.reduceBEq, Option.getD_none, Int.reduceToNat, Nat.reduceSub, Nat.reduceLT, Nat.reduceLeDiff, Int.reduceLE, Int.reduceLT, reduceCtorEq, hbd, hgt, ↓reduceDIte, k1, k3, k13, h14, m1, m2]
    generalize (fldL s.kind)[i] = c at hmem hnot hst hall' ⊢
    refine fcW_bd (impl_Step_ranges.fc s c.toNat) rfl ?_
    simp only [go_sem, ↓reduceIte, Nat.reduceEqDiff, Nat.reduceAdd, Nat.reduceMul, Nat.reduceBEq, Option.getD_none, Int.reduceToNat, Nat.reduceSub, Nat.reduceLT, Nat.reduceLeDiff, Int.reduceLE, Int.reduceLT, reduceCtorEq, k1, k3, k13, h14, m1, m2]
    unfold okF at hnot hall'
    rcases hmem with rfl | rfl | rfl | rfl | rfl
    · refine fcF_of (field_pc (j := 1) (.inl ⟨rfl, rfl⟩)) ?_
      simp only [go_sem, ↓reduceIte, Nat.reduceEqDiff, Nat.reduceAdd, Nat.reduceMul, Nat.reduceBEq, Option.getD_none, Int.reduceToNat, Nat.reduceSub, Nat.reduceLT, Nat.reduceLeDiff, Int.reduceLE, Int.reduceLT, reduceCtorEq, k1, k3, k13, h14, m1, m2]
      refine fcW_bool (impl_in.fc _ _ _) ?_
      cases hc : inB s.op (rgF s.kind (UInt8.toNat 111)).1 (rgF s.kind (UInt8.toNat 111)).2 with
      | false => simp only [go_sem, ↓reduceIte, Nat.reduceEqDiff, Nat.reduceAdd, Nat.reduceMul, Nat.reduceBEq, Option.getD_none, Int.reduceToNat, Nat.reduceSub, Nat.reduceLT, Nat.reduceLeDiff, Int.reduceLE, Int.reduceLT, reduceCtorEq, hnot hc, k1, k3, k13, h14, m1, m2]
      | true =>
        simp only [go_sem, ↓reduceIte, Nat.reduceEqDiff, Nat.reduceAdd, Nat.reduceMul, Nat.reduceBEq, Option.getD_none, Int.reduceToNat, Nat.reduceSub, Nat.reduceLT, Nat.reduceLeDiff, Int.reduceLE, Int.reduceLT, reduceCtorEq, k1, k3, k13, h14, m1, m2]
        refine fcF_of (field_pc (j := 1) (.inl ⟨rfl, rfl⟩)) ?_
        simp only [go_sem, ↓reduceIte, Nat.reduceEqDiff, Nat.reduceAdd, Nat.reduceMul, Nat.reduceBEq, Option.getD_none, Int.reduceToNat, Nat.reduceSub, Nat.reduceLT, Nat.reduceLeDiff, Int.reduceLE, Int.reduceLT, reduceCtorEq, hw, k1, k3, k13, h14, m1, m2]
        exact ⟨i + 1, by dsimp only; omega, by omega, by simp only [go_sem, ↓reduceIte, Nat.reduceEqDiff, Nat.reduceAdd, Nat.reduceMul, Nat.reduceBEq, Option.getD_none, Int.reduceToNat, Nat.reduceSub, Nat.reduceLT, Nat.reduceLeDiff, Int.reduceLE, Int.reduceLT, reduceCtorEq, k1, k3, k13, h14, m1, m2], hall' hc, by simp only [go_sem, ↓reduceIte, Nat.reduceEqDiff, Nat.reduceAdd, Nat.reduceMul, Nat.reduceBEq, Option.getD_none, Int.reduceToNat, Nat.reduceSub, Nat.reduceLT, Nat.reduceLeDiff, Int.reduceLE, Int.reduceLT, reduceCtorEq, k1, k3, k13, h14, m1, m2], _, hst, by simp only [go_sem, ↓reduceIte, Nat.reduceEqDiff, Nat.reduceAdd, Nat.reduceMul, Nat.reduceBEq, Option.getD_none, Int.reduceToNat, Nat.reduceSub, Nat.reduceLT, Nat.reduceLeDiff, Int.reduceLE, Int.reduceLT, reduceCtorEq, k1, k3, k13, h14, m1, m2]; rfl⟩
    · refine fcF_of (field_pc (j := 2) (.inr (.inl ⟨rfl, rfl⟩))) ?_
      simp only [go_sem, ↓reduceIte, Nat.reduceEqDiff, Nat.reduceAdd, Nat.reduceMul, Nat.reduceBEq, Option.getD_none, Int.reduceToNat, Nat.reduceSub, Nat.reduceLT, Nat.reduceLeDiff, Int.reduceLE, Int.reduceLT, reduceCtorEq, k1, k3, k13, h14, m1, m2]
      refine fcW_bool (impl_in.fc _ _ _) ?_
      cases hc : inB s.dst (rgF s.kind (UInt8.toNat 100)).1 (rgF s.kind (UInt8.toNat 100)).2 with
      | false => simp only [go_sem, ↓reduceIte, Nat.reduceEqDiff, Nat.reduceAdd, Nat.reduceMul, Nat.reduceBEq, Option.getD_none, Int.reduceToNat, Nat.reduceSub, Nat.reduceLT, Nat.reduceLeDiff, Int.reduceLE, Int.reduceLT, reduceCtorEq, hnot hc, k1, k3, k13, h14, m1, m2]
      | true =>
        simp only [go_sem, ↓reduceIte, Nat.reduceEqDiff, Nat.reduceAdd, Nat.reduceMul, Nat.reduceBEq, Option.getD_none, Int.reduceToNat, Nat.reduceSub, Nat.reduceLT, Nat.reduceLeDiff, Int.reduceLE, Int.reduceLT, reduceCtorEq, k1, k3, k13, h14, m1, m2]
        refine fcF_of (field_pc (j := 2) (.inr (.inl ⟨rfl, rfl⟩))) ?_
        simp only [go_sem, ↓reduceIte, Nat.reduceEqDiff, Nat.reduceAdd, Nat.reduceMul, Nat.reduceBEq, Option.getD_none, Int.reduceToNat, Nat.reduceSub, Nat.reduceLT, Nat.reduceLeDiff, Int.reduceLE, Int.reduceLT, reduceCtorEq, hw, k1, k3, k13, h14, m1, m2]
        exact ⟨i + 1, by dsimp only; omega, by omega, by simp only [go_sem, ↓reduceIte, Nat.reduceEqDiff, Nat.reduceAdd, Nat.reduceMul, Nat.reduceBEq, Option.getD_none, Int.reduceToNat, Nat.reduceSub, Nat.reduceLT, Nat.reduceLeDiff, Int.reduceLE, Int.reduceLT, reduceCtorEq, k1, k3, k13, h14, m1, m2], hall' hc, by simp only [go_sem, ↓reduceIte, Nat.reduceEqDiff, Nat.reduceAdd, Nat.reduceMul, Nat.reduceBEq, Option.getD_none, Int.reduceToNat, Nat.reduceSub, Nat.reduceLT, Nat.reduceLeDiff, Int.reduceLE, Int.reduceLT, reduceCtorEq, k1, k3, k13, h14, m1, m2], _, hst, by simp only [go_sem, ↓reduceIte, Nat.reduceEqDiff, Nat.reduceAdd, Nat.reduceMul, Nat.reduceBEq, Option.getD_none, Int.reduceToNat, Nat.reduceSub, Nat.reduceLT, Nat.reduceLeDiff, Int.reduceLE, Int.reduceLT, reduceCtorEq, k1, k3, k13, h14, m1, m2]; rfl⟩
    · refine fcF_of (field_pc (j := 3) (.inr (.inr (.inl ⟨rfl, rfl⟩)))) ?_
      simp only [go_sem, ↓reduceIte, Nat.reduceEqDiff, Nat.reduceAdd, Nat.reduceMul, Nat.reduceBEq, Option.getD_none, Int.reduceToNat, Nat.reduceSub, Nat.reduceLT, Nat.reduceLeDiff, Int.reduceLE, Int.reduceLT, reduceCtorEq, k1, k3, k13, h14, m1, m2]
      refine fcW_bool (impl_in.fc _ _ _) ?_
      cases hc : inB s.src (rgF s.kind (UInt8.toNat 115)).1 (rgF s.kind (UInt8.toNat 115)).2 with
      | false => simp only [go_sem, ↓reduceIte, Nat.reduceEqDiff, Nat.reduceAdd, Nat.reduceMul, Nat.reduceBEq, Option.getD_none, Int.reduceToNat, Nat.reduceSub, Nat.reduceLT, Nat.reduceLeDiff, Int.reduceLE, Int.reduceLT, reduceCtorEq, hnot hc, k1, k3, k13, h14, m1, m2]
      | true =>
        simp only [go_sem, ↓reduceIte, Nat.reduceEqDiff, Nat.reduceAdd, Nat.reduceMul, Nat.reduceBEq, Option.getD_none, Int.reduceToNat, Nat.reduceSub, Nat.reduceLT, Nat.reduceLeDiff, Int.reduceLE, Int.reduceLT, reduceCtorEq, k1, k3, k13, h14, m1, m2]
        refine fcF_of (field_pc (j := 3) (.inr (.inr (.inl ⟨rfl, rfl⟩)))) ?_
        simp only [go_sem, ↓reduceIte, Nat.reduceEqDiff, Nat.reduceAdd, Nat.reduceMul, Nat.reduceBEq, Option.getD_none, Int.reduceToNat, Nat.reduceSub, Nat.reduceLT, Nat.reduceLeDiff, Int.reduceLE, Int.reduceLT, reduceCtorEq, hw, k1, k3, k13, h14, m1, m2]
        exact ⟨i + 1, by dsimp only; omega, by omega, by simp only [go_sem, ↓reduceIte, Nat.reduceEqDiff, Nat.reduceAdd, Nat.reduceMul, Nat.reduceBEq, Option.getD_none, Int.reduceToNat, Nat.reduceSub, Nat.reduceLT, Nat.reduceLeDiff, Int.reduceLE, Int.reduceLT, reduceCtorEq, k1, k3, k13, h14, m1, m2], hall' hc, by simp only [go_sem, ↓reduceIte, Nat.reduceEqDiff, Nat.reduceAdd, Nat.reduceMul, Nat.reduceBEq, Option.getD_none, Int.reduceToNat, Nat.reduceSub, Nat.reduceLT, Nat.reduceLeDiff, Int.reduceLE, Int.reduceLT, reduceCtorEq, k1, k3, k13, h14, m1, m2], _, hst, by simp only [go_sem, ↓reduceIte, Nat.reduceEqDiff, Nat.reduceAdd, Nat.reduceMul, Nat.reduceBEq, Option.getD_none, Int.reduceToNat, Nat.reduceSub, Nat.reduceLT, Nat.reduceLeDiff, Int.reduceLE, Int.reduceLT, reduceCtorEq, k1, k3, k13, h14, m1, m2]; rfl⟩
    · refine fcF_of (field_pc (j := 4) (.inr (.inr (.inr (.inl ⟨rfl, rfl⟩))))) ?_
      simp only [go_sem, ↓reduceIte, Nat.reduceEqDiff, Nat.reduceAdd, Nat.reduceMul, Nat.reduceBEq, Option.getD_none, Int.reduceToNat, Nat.reduceSub, Nat.reduceLT, Nat.reduceLeDiff, Int.reduceLE, Int.reduceLT, reduceCtorEq, k1, k3, k13, h14, m1, m2]
      refine fcW_bool (impl_in.fc _ _ _) ?_
      cases hc : inB s.imm (rgF s.kind (UInt8.toNat 105)).1 (rgF s.kind (UInt8.toNat 105)).2 with
      | false => simp only [go_sem, ↓reduceIte, Nat.reduceEqDiff, Nat.reduceAdd, Nat.reduceMul, Nat.reduceBEq, Option.getD_none, Int.reduceToNat, Nat.reduceSub, Nat.reduceLT, Nat.reduceLeDiff, Int.reduceLE, Int.reduceLT, reduceCtorEq, hnot hc, k1, k3, k13, h14, m1, m2]
      | true =>
        simp only [go_sem, ↓reduceIte, Nat.reduceEqDiff, Nat.reduceAdd, Nat.reduceMul, Nat.reduceBEq, Option.getD_none, Int.reduceToNat, Nat.reduceSub, Nat.reduceLT, Nat.reduceLeDiff, Int.reduceLE, Int.reduceLT, reduceCtorEq, k1, k3, k13, h14, m1, m2]
        refine fcF_of (field_pc (j := 4) (.inr (.inr (.inr (.inl ⟨rfl, rfl⟩))))) ?_
        simp only [go_sem, ↓reduceIte, Nat.reduceEqDiff, Nat.reduceAdd, Nat.reduceMul, Nat.reduceBEq, Option.getD_none, Int.reduceToNat, Nat.reduceSub, Nat.reduceLT, Nat.reduceLeDiff, Int.reduceLE, Int.reduceLT, reduceCtorEq, hw, k1, k3, k13, h14, m1, m2]
        exact ⟨i + 1, by dsimp only; omega, by omega, by simp only [go_sem, ↓reduceIte, Nat.reduceEqDiff, Nat.reduceAdd, Nat.reduceMul, Nat.reduceBEq, Option.getD_none, Int.reduceToNat, Nat.reduceSub, Nat.reduceLT, Nat.reduceLeDiff, Int.reduceLE, Int.reduceLT, reduceCtorEq, k1, k3, k13, h14, m1, m2], hall' hc, by simp only [go_sem, ↓reduceIte, Nat.reduceEqDiff, Nat.reduceAdd, Nat.reduceMul, Nat.reduceBEq, Option.getD_none, Int.reduceToNat, Nat.reduceSub, Nat.reduceLT, Nat.reduceLeDiff, Int.reduceLE, Int.reduceLT, reduceCtorEq, k1, k3, k13, h14, m1, m2], _, hst, by simp only [go_sem, ↓reduceIte, Nat.reduceEqDiff, Nat.reduceAdd, Nat.reduceMul, Nat.reduceBEq, Option.getD_none, Int.reduceToNat, Nat.reduceSub, Nat.reduceLT, Nat.reduceLeDiff, Int.reduceLE, Int.reduceLT, reduceCtorEq, k1, k3, k13, h14, m1, m2]; rfl⟩
    · refine fcF_of (field_pc (j := 5) (.inr (.inr (.inr (.inr ⟨rfl, rfl⟩))))) ?_
      simp only [go_sem, ↓reduceIte, Nat.reduceEqDiff, Nat.reduceAdd, Nat.reduceMul, Nat.reduceBEq, Option.getD_none, Int.reduceToNat, Nat.reduceSub, Nat.reduceLT, Nat.reduceLeDiff, Int.reduceLE, Int.reduceLT, reduceCtorEq, k1, k3, k13, h14, m1, m2]
      refine fcW_bool (impl_in.fc _ _ _) ?_
      cases hc : inB s.to (rgF s.kind (UInt8.toNat 116)).1 (rgF s.kind (UInt8.toNat 116)).2 with
      | false => simp only [go_sem, ↓reduceIte, Nat.reduceEqDiff, Nat.reduceAdd, Nat.reduceMul, Nat.reduceBEq, Option.getD_none, Int.reduceToNat, Nat.reduceSub, Nat.reduceLT, Nat.reduceLeDiff, Int.reduceLE, Int.reduceLT, reduceCtorEq, hnot hc, k1, k3, k13, h14, m1, m2]
      | true =>
        simp only [go_sem, ↓reduceIte, Nat.reduceEqDiff, Nat.reduceAdd, Nat.reduceMul, Nat.reduceBEq, Option.getD_none, Int.reduceToNat, Nat.reduceSub, Nat.reduceLT, Nat.reduceLeDiff, Int.reduceLE, Int.reduceLT, reduceCtorEq, k1, k3, k13, h14, m1, m2]
        refine fcF_of (field_pc (j := 5) (.inr (.inr (.inr (.inr ⟨rfl, rfl⟩))))) ?_
        simp only [go_sem, ↓reduceIte, Nat.reduceEqDiff, Nat.reduceAdd, Nat.reduceMul, Nat.reduceBEq, Option.getD_none, Int.reduceToNat, Nat.reduceSub, Nat.reduceLT, Nat.reduceLeDiff, Int.reduceLE, Int.reduceLT, reduceCtorEq, hw, k1, k3, k13, h14, m1, m2]
        exact ⟨i + 1, by dsimp only; omega, by omega, by simp only [go_sem, ↓reduceIte, Nat.reduceEqDiff, Nat.reduceAdd, Nat.reduceMul, Nat.reduceBEq, Option.getD_none, Int.reduceToNat, Nat.reduceSub, Nat.reduceLT, Nat.reduceLeDiff, Int.reduceLE, Int.reduceLT, reduceCtorEq, k1, k3, k13, h14, m1, m2], hall' hc, by simp only [go_sem, ↓reduceIte, Nat.reduceEqDiff, Nat.reduceAdd, Nat.reduceMul, Nat.reduceBEq, Option.getD_none, Int.reduceToNat, Nat.reduceSub, Nat.reduceLT, Nat.reduceLeDiff, Int.reduceLE, Int.reduceLT, reduceCtorEq, k1, k3, k13, h14, m1, m2], _, hst, by simp only [go_sem, ↓reduceIte, Nat.reduceEqDiff, Nat.reduceAdd, Nat.reduceMul, Nat.reduceBEq, Option.getD_none, Int.reduceToNat, Nat.reduceSub, Nat.reduceLT, Nat.reduceLeDiff, Int.reduceLE, Int.reduceLT, reduceCtorEq, k1, k3, k13, h14, m1, m2]; rfl⟩
  obtain rfl : i = (fldL s.kind).length := by omega
  rw [List.take_length] at hall hr
  simp only [go_sem, ↓reduceIte, Nat.reduceEqDiff, Nat.reduceAdd, Nat.reduceMul, Nat.reduceBEq, Option.getD_none, Int.reduceToNat, Nat.reduceSub, Nat.reduceLT, Nat.reduceLeDiff, Int.reduceLE, Int.reduceLT, reduceCtorEq, Int.lt_irrefl, k1, k3, k13, h14, m1, m2]
  refine fcW_bool (impl_in.fc _ _ _) ?_
  have hv : validB s = (inB s.kind 1 11 && (r == ⟨0, 0, 0, 0, 0, 0⟩)) := by unfold validB; rw [hall, hr, Bool.true_and]
  cases hc : inB s.kind 1 11 with
  | false => simp only [go_sem, ↓reduceIte, Nat.reduceEqDiff, Nat.reduceAdd, Nat.reduceMul, Nat.reduceBEq, Option.getD_none, Int.reduceToNat, Nat.reduceSub, Nat.reduceLT, Nat.reduceLeDiff, Int.reduceLE, Int.reduceLT, reduceCtorEq, hv, hc, k1, k3, k13, h14, m1, m2]
  | true =>
    rw [hc, Bool.true_and] at hv
    have hz : (r == ⟨0, 0, 0, 0, 0, 0⟩) = (r.kind == 0 && (r.op == 0 && (r.dst == 0 && (r.src == 0 && (r.imm == 0 && r.to == 0))))) := by
      obtain ⟨a, b, c, d, e, f⟩ := r
      rw [Bool.eq_iff_iff]
      simp only [beq_iff_eq, StepD.mk.injEq, Bool.and_eq_true]
    simp only [go_sem, ↓reduceIte, Nat.reduceEqDiff, Nat.reduceAdd, Nat.reduceMul, Nat.reduceBEq, Option.getD_none, Int.reduceToNat, Nat.reduceSub, Nat.reduceLT, Nat.reduceLeDiff, Int.reduceLE, Int.reduceLT, reduceCtorEq, hv, hz, Bool.bne_false, k1, k3, k13, h14, m1, m2]
theorem valid_kind {s : StepD} (h : validB s = true ∨ stepB s = true) : s.kind = 1 ∨ s.kind = 2 ∨ s.kind = 3 ∨ s.kind = 4 ∨ s.kind = 5 ∨ s.kind = 6 ∨ s.kind = 7 ∨ s.kind = 8 ∨ s.kind = 9 ∨ s.kind = 10 ∨ s.kind = 11 := by
  by_cases hk : 1 ≤ s.kind ∧ s.kind ≤ 11
  · omega
  · exfalso
    have e : ∀ j : Int, 1 ≤ j ∧ j ≤ 11 → (s.kind == j) = false := fun j hj => by rw [beq_eq_false_iff_ne]; omega
    rcases h with h | h
    · unfold validB at h
      simp only [Bool.and_eq_true, inB, decide_eq_true_eq] at h
      omega
    · unfold stepB at h
      simp only [e 1 (by omega), e 2 (by omega), e 3 (by omega), e 4 (by omega), e 5 (by omega), e 6 (by omega), e 7 (by omega), e 8 (by omega), e 9 (by omega), e 10 (by omega), e 11 (by omega)] at h
      simp at h
theorem valid_step (s : StepD) : validB s = stepB s := by
  by_cases h : validB s = true ∨ stepB s = true
  · obtain ⟨k, o, d, r, m, t⟩ := s
    rcases valid_kind h with rfl | rfl | rfl | rfl | rfl | rfl | rfl | rfl | rfl | rfl | rfl <;>
    · rw [Bool.eq_iff_iff]
      simp [validB, stepB, fldL, okF, getF, rgF, restF, clrF, zeroB, inB]
      try omega
  · cases h1 : validB s <;> cases h2 : stepB s <;> simp_all
end Go.Vm.Ytmicgdfekpoajaa
/- Walks: valid programs. -/
namespace Go.Vm.Ytmicgdfekpoajaa
open Go Go.Vm
set_option maxRecDepth 10000
set_option maxHeartbeats 8000000
set_option linter.unusedSimpArgs false
set_option linter.unusedVariables false

structure StepOk (s : StepD) : Prop where
  kind : 1 ≤ s.kind ∧ s.kind ≤ 11
  dst : 0 ≤ s.dst ∧ s.dst ≤ 5
  src : 0 ≤ s.src ∧ s.src ≤ 5
  imm : 0 ≤ s.imm ∧ s.imm ≤ 65535
  op : 0 ≤ s.op ∧ s.op ≤ 10
  to : 0 ≤ s.to ∧ s.to ≤ 19
  jmp : s.to > 0 ↔ s.kind = 8 ∨ s.kind = 9 ∨ s.kind = 10
  iop : s.kind = 1 ∨ s.kind = 2 → 1 ≤ s.op
theorem step_ok {s : StepD} (h : stepB s = true) : StepOk s := by
  obtain ⟨k, o, d, r, m, t⟩ := s
  rcases valid_kind (.inr h) with rfl | rfl | rfl | rfl | rfl | rfl | rfl | rfl | rfl | rfl | rfl <;>
  · simp [stepB, zeroB, inB] at h
    constructor <;> dsimp only <;> omega
end Go.Vm.Ytmicgdfekpoajaa
/- Walks: contexts; a machine's step. -/
namespace Go.Vm.Ytmicgdfekpoajaa
open Go Go.Vm
set_option maxRecDepth 10000
set_option maxHeartbeats 16000000
set_option linter.unusedSimpArgs false
set_option linter.unusedVariables false

structure MachLen (m : MachD) : Prop where
  regs : m.regs.length = 6
  cells : m.cells.length = 16
  isset : m.isset.length = 16
theorem MachOk.len {m : MachD} (h : MachOk m) : MachLen m := ⟨h.regs, h.cells, h.isset⟩
theorem getD_some {α : Type} {l : List α} {i : Nat} {d : α} (h : i < l.length) : l[i]? = some (l.getD i d) := by rw [getD_get h]; exact List.getElem?_eq_getElem h
theorem tk_B {n : Nat} {l : List Bool} (h : l.length = n) : (l.map Bb).take n = l.map Bb := List.take_of_length_le (by simp [h])
end Go.Vm.Ytmicgdfekpoajaa
/- Walks: a machine's step, by the reference. -/
namespace Go.Vm.Ytmicgdfekpoajaa
open Go Go.Vm
set_option maxRecDepth 10000
set_option maxHeartbeats 16000000
set_option linter.unusedSimpArgs false
set_option linter.unusedVariables false

end Go.Vm.Ytmicgdfekpoajaa
/- Walks: one step of a machine, if all is valid. -/
namespace Go.Vm.Ytmicgdfekpoajaa
open Go Go.Vm
set_option maxRecDepth 10000
set_option maxHeartbeats 16000000
set_option linter.unusedSimpArgs false
set_option linter.unusedVariables false

end Go.Vm.Ytmicgdfekpoajaa
/- Walks: the contexts that are tried. -/
namespace Go.Vm.Ytmicgdfekpoajaa
open Go Go.Vm
set_option maxRecDepth 10000
set_option maxHeartbeats 16000000
set_option linter.unusedSimpArgs false
set_option linter.unusedVariables false

end Go.Vm.Ytmicgdfekpoajaa
/- Walks: the contexts that are tried, by the reference. -/
namespace Go.Vm.Ytmicgdfekpoajaa
open Go Go.Vm
set_option maxRecDepth 10000
set_option maxHeartbeats 16000000
set_option linter.unusedSimpArgs false
set_option linter.unusedVariables false

end Go.Vm.Ytmicgdfekpoajaa
/- Walks: what may be is put into a register. -/
namespace Go.Vm.Ytmicgdfekpoajaa
open Go Go.Vm
set_option maxRecDepth 10000
set_option maxHeartbeats 16000000
set_option linter.unusedSimpArgs false
set_option linter.unusedVariables false

theorem setSt {l : List (Int × Int)} {i : Nat} {x : Int × Int} : (l.map strD).set i (strD x) = (l.set i x).map strD := by rw [List.map_set]
theorem setKn {l : List (Int × Int)} {i : Nat} {x : Int × Int} : (l.map knownD).set i (knownD x) = (l.set i x).map knownD := by rw [List.map_set]
theorem tk_S {n : Nat} {l : List (Int × Int)} (h : l.length = n) : (l.map strD).take n = l.map strD := List.take_of_length_le (by simp [h])
theorem tk_K {n : Nat} {l : List (Int × Int)} (h : l.length = n) : (l.map knownD).take n = l.map knownD := List.take_of_length_le (by simp [h])
end Go.Vm.Ytmicgdfekpoajaa
/- Walks: a step, of what may be. -/
namespace Go.Vm.Ytmicgdfekpoajaa
open Go Go.Vm
set_option maxRecDepth 10000
set_option maxHeartbeats 32000000
set_option linter.unusedSimpArgs false
set_option linter.unusedVariables false

def regS (m : MayD) (i : Int) : Int × Int := m.reg.getD i.toNat (0, 0)
def bitS (m : MayD) (i : Int) : Int × Int := m.bits.getD i.toNat (0, 0)
theorem setAg {l : List (Int × Int)} {i : Nat} {a b : Int} : (l.map strD).set i (D.agg [D.int .i64 a, D.int .i64 b]) = (l.set i (a, b)).map strD := by rw [List.map_set]
end Go.Vm.Ytmicgdfekpoajaa
/- Walks: a step, of what may be, by the reference; if all is valid. -/
namespace Go.Vm.Ytmicgdfekpoajaa
open Go Go.Vm
set_option maxRecDepth 10000
set_option maxHeartbeats 32000000
set_option linter.unusedSimpArgs false
set_option linter.unusedVariables false

end Go.Vm.Ytmicgdfekpoajaa
/- Walks: a jump is heeded. -/
namespace Go.Vm.Ytmicgdfekpoajaa
open Go Go.Vm
set_option maxRecDepth 10000
set_option maxHeartbeats 32000000
set_option linter.unusedSimpArgs false
set_option linter.unusedVariables false

def meetSb (a b : Int × Int) : Bool := decide (mxI a.1 b.1 > mnI a.2 b.2)
def meetS (a b : Int × Int) : Int × Int := if meetSb a b then (0, 0) else (mxI a.1 b.1, mnI a.2 b.2)
theorem impl_meetStretch.fc (a b : Int × Int) : FCt prog F_impl_meetStretch [.ro, .ro] [strD a, strD b] (.tup [strD (meetS a b), Bb (!meetSb a b)]) [] := by
  refine fct_run impl_meetStretch.ok rfl ?_
  have e1 : (if b.1 > a.1 then b.1 else a.1) = mxI a.1 b.1 := rfl
  have e2 : (if b.2 < a.2 then b.2 else a.2) = mnI a.2 b.2 := rfl
  unfold meetS meetSb
  repeat' (first | with_reducible rfl | with_reducible refine cdW_dec (fun _ => ?_) (fun _ => ?_) | refine cdW_not (fun _ => ?_) (fun _ => ?_) | refine cdW_any (fun _ => ?_) (fun _ => ?_) | with_reducible refine gdW_decT (fun _ => ?_) (fun _ => ?_) | with_reducible refine gdW_decF (fun _ => ?_) (fun _ => ?_) | refine gdW_not (fun _ => ?_) (fun _ => ?_) | refine gdW_any (fun _ => ?_) (fun _ => ?_) | simp only [go_sem, ↓reduceIte, Nat.reduceEqDiff, Nat.reduceAdd, Nat.reduceMul, Nat.reduceBEq, Option.getD_none, Int.reduceToNat, Nat.reduceSub, Nat.reduceLT, Nat.reduceLeDiff, Int.reduceLE, Int.reduceLT, reduceCtorEq, bne, Int.reduceEq, Int.reduceBEq, Int.reduceBNe, Int.reduceLE, Int.reduceNeg, Int.reduceAdd, Int.reduceSub, Int.reduceMul, *] | rfl)
theorem spec_l9Meet.fc (a b : Int × Int) : FCt prog F_spec_l9Meet [.ro, .ro] [strD a, strD b] (.tup [strD (meetS a b), Bb (!meetSb a b)]) [] := by
  refine fct_run spec_l9Meet.ok rfl ?_
  have e1 : (if b.1 > a.1 then b.1 else a.1) = mxI a.1 b.1 := rfl
  have e2 : (if b.2 < a.2 then b.2 else a.2) = mnI a.2 b.2 := rfl
  unfold meetS meetSb
  repeat' (first | with_reducible rfl | refine fcW_int (spec_l1Most.fc ..) ?_ | refine fcW_int (spec_l1Least.fc ..) ?_ | with_reducible refine cdW_dec (fun _ => ?_) (fun _ => ?_) | refine cdW_not (fun _ => ?_) (fun _ => ?_) | refine cdW_any (fun _ => ?_) (fun _ => ?_) | with_reducible refine gdW_decT (fun _ => ?_) (fun _ => ?_) | with_reducible refine gdW_decF (fun _ => ?_) (fun _ => ?_) | refine gdW_not (fun _ => ?_) (fun _ => ?_) | refine gdW_any (fun _ => ?_) (fun _ => ?_) | simp only [go_sem, ↓reduceIte, Nat.reduceEqDiff, Nat.reduceAdd, Nat.reduceMul, Nat.reduceBEq, Option.getD_none, Int.reduceToNat, Nat.reduceSub, Nat.reduceLT, Nat.reduceLeDiff, Int.reduceLE, Int.reduceLT, reduceCtorEq, bne, Int.reduceEq, Int.reduceBEq, Int.reduceBNe, Int.reduceLE, Int.reduceNeg, Int.reduceAdd, Int.reduceSub, Int.reduceMul, *] | rfl)
def lessS (a b : Int × Int) : (Int × Int) × (Int × Int) × Bool := if a.1 ≥ b.2 then ((0, 0), (0, 0), false) else ((a.1, mnI a.2 (b.2 - 1)), (mxI b.1 (a.1 + 1), b.2), true)
theorem impl_splitLess.fc (a b : Int × Int) (ha : SOk a) (hb : SOk b) : FCt prog F_impl_splitLess [.ro, .ro] [strD a, strD b] (.tup [strD (lessS a b).1, strD (lessS a b).2.1, Bb (lessS a b).2.2]) [] := by
  refine fct_run impl_splitLess.ok rfl ?_
  have w1 : IntKind.i64.wrap (b.2 - 1) = b.2 - 1 := by have := hb.lo; have := hb.le; have := hb.hi; exact wrap_in (by omega) (by omega)
  have w2 : IntKind.i64.wrap (a.1 + 1) = a.1 + 1 := by have := ha.lo; have := ha.le; have := ha.hi; exact wrap_in (by omega) (by omega)
  clear ha hb
  unfold lessS mnI mxI
  repeat' (first | with_reducible rfl | with_reducible refine cdW_dec (fun _ => ?_) (fun _ => ?_) | refine cdW_not (fun _ => ?_) (fun _ => ?_) | refine cdW_any (fun _ => ?_) (fun _ => ?_) | with_reducible refine gdW_decT (fun _ => ?_) (fun _ => ?_) | with_reducible refine gdW_decF (fun _ => ?_) (fun _ => ?_) | refine gdW_not (fun _ => ?_) (fun _ => ?_) | refine gdW_any (fun _ => ?_) (fun _ => ?_) | simp only [go_sem, ↓reduceIte, Nat.reduceEqDiff, Nat.reduceAdd, Nat.reduceMul, Nat.reduceBEq, Option.getD_none, Int.reduceToNat, Nat.reduceSub, Nat.reduceLT, Nat.reduceLeDiff, Int.reduceLE, Int.reduceLT, reduceCtorEq, bne, Int.reduceEq, Int.reduceBEq, Int.reduceBNe, Int.reduceLE, Int.reduceNeg, Int.reduceAdd, Int.reduceSub, Int.reduceMul, *] | rfl)
theorem spec_l9Less.fc (a b : Int × Int) (ha : SOk a) (hb : SOk b) : FCt prog F_spec_l9Less [.ro, .ro] [strD a, strD b] (.tup [strD (lessS a b).1, strD (lessS a b).2.1, Bb (lessS a b).2.2]) [] := by
  refine fct_run spec_l9Less.ok rfl ?_
  have w1 : IntKind.i64.wrap (b.2 - 1) = b.2 - 1 := by have := hb.lo; have := hb.le; have := hb.hi; exact wrap_in (by omega) (by omega)
  have w2 : IntKind.i64.wrap (a.1 + 1) = a.1 + 1 := by have := ha.lo; have := ha.le; have := ha.hi; exact wrap_in (by omega) (by omega)
  clear ha hb
  unfold lessS mnI mxI
  repeat' (first | with_reducible rfl | refine fcW_int (spec_l1Most.fc ..) ?_ | refine fcW_int (spec_l1Least.fc ..) ?_ | with_reducible refine cdW_dec (fun _ => ?_) (fun _ => ?_) | refine cdW_not (fun _ => ?_) (fun _ => ?_) | refine cdW_any (fun _ => ?_) (fun _ => ?_) | with_reducible refine gdW_decT (fun _ => ?_) (fun _ => ?_) | with_reducible refine gdW_decF (fun _ => ?_) (fun _ => ?_) | refine gdW_not (fun _ => ?_) (fun _ => ?_) | refine gdW_any (fun _ => ?_) (fun _ => ?_) | simp only [go_sem, ↓reduceIte, Nat.reduceEqDiff, Nat.reduceAdd, Nat.reduceMul, Nat.reduceBEq, Option.getD_none, Int.reduceToNat, Nat.reduceSub, Nat.reduceLT, Nat.reduceLeDiff, Int.reduceLE, Int.reduceLT, reduceCtorEq, bne, Int.reduceEq, Int.reduceBEq, Int.reduceBNe, Int.reduceLE, Int.reduceNeg, Int.reduceAdd, Int.reduceSub, Int.reduceMul, *] | rfl)
def setR2 (m : MayD) (i j : Int) (x y : Int × Int) : MayD := { m with reg := (m.reg.set i.toNat x).set j.toNat y }
def setB2 (m : MayD) (i j : Int) (x : Int × Int) : MayD := { m with bits := (m.bits.set i.toNat x).set j.toNat x }
/-- what is so when a jump is taken, or not -/
def heedV (s : StepD) (m : MayD) (t : Bool) : MayD × Bool :=
  if s.kind == 9 then
    (if t then (if meetSb (regS m s.dst) (regS m s.src) then (zeroM, false) else if meetKb (bitS m s.dst) (bitS m s.src) then (zeroM, false) else
      (setB2 (setR2 m s.dst s.src (meetS (regS m s.dst) (regS m s.src)) (meetS (regS m s.dst) (regS m s.src))) s.dst s.src (meetK (bitS m s.dst) (bitS m s.src)), true)) else (m, true)) else
  if t then (if (lessS (regS m s.dst) (regS m s.src)).2.2 then (if s.dst == s.src then (zeroM, false) else (setR2 m s.dst s.src (lessS (regS m s.dst) (regS m s.src)).1 (lessS (regS m s.dst) (regS m s.src)).2.1, true)) else (zeroM, false)) else
  if s.dst == s.src then (m, true) else
  if (regS m s.dst).2 ≥ (regS m s.src).1 then (setR2 m s.dst s.src (mxI (regS m s.dst).1 (regS m s.src).1, (regS m s.dst).2) ((regS m s.src).1, mnI (regS m s.src).2 (regS m s.dst).2), true) else (zeroM, false)
theorem setR2_len {m : MayD} {i j : Int} {x y : Int × Int} (h : MLen m) : MLen (setR2 m i j x y) := ⟨by simp [setR2, h.reg], h.bits, h.cell, h.isset⟩
theorem setB2_len {m : MayD} {i j : Int} {x : Int × Int} (h : MLen m) : MLen (setB2 m i j x) := ⟨h.reg, by simp [setB2, h.bits], h.cell, h.isset⟩
theorem impl_heedJump.fc (s : StepD) (m : MayD) (t : Bool) (hm : MayOk m) (hv : stepB s = true) (hk : s.kind = 9 ∨ s.kind = 10) :
    FCt prog F_impl_heedJump [.ro, .ro, .ro] [s.d, m.d, Bb t] (.tup [(heedV s m t).1.d, Bb (heedV s m t).2]) [] := by
  refine fct_run impl_heedJump.ok rfl ?_
  have ok := step_ok hv
  have ln := hm.len
  have co := impl_May_own.fc m ln
  obtain ⟨l1, l2, l3, l4, gr, gb, gc⟩ := hm
  obtain ⟨k, op, dst, src, imm, to⟩ := s
  obtain ⟨_, od, os, oi, oo, ot, _, _⟩ := ok
  dsimp only at *
  have c6 : ((6 : Nat) : Int) = 6 := rfl
  have c16 : ((16 : Nat) : Int) = 16 := rfl
  have od1 := od.1
  have od2 : dst < 6 := by omega
  have os1 := os.1
  have os2 : src < 6 := by omega
  have q1 : m.reg[dst.toNat]? = some (regS m dst) := getD_some (by omega)
  have q2 : m.reg[src.toNat]? = some (regS m src) := getD_some (by omega)
  have q3 : m.bits[dst.toNat]? = some (bitS m dst) := getD_some (by omega)
  have q4 : m.bits[src.toNat]? = some (bitS m src) := getD_some (by omega)
  have sd := gS_ok (gr _ (List.mem_of_getElem? q1))
  have ss := gS_ok (gr _ (List.mem_of_getElem? q2))
  have kd1 := gK_ok (gb _ (List.mem_of_getElem? q3))
  have ks := gK_ok (gb _ (List.mem_of_getElem? q4))
  have cm := impl_meetStretch.fc (regS m dst) (regS m src)
  have ck := impl_meetKnown.fc (bitS m dst) (bitS m src) kd1 ks
  have cl := impl_splitLess.fc (regS m dst) (regS m src) sd ss
  have q5 : ∀ x, (m.reg.set dst.toNat x)[src.toNat]? = some (if dst.toNat = src.toNat then x else regS m src) := fun x => by
    rw [List.getElem?_set]
    have : dst.toNat < m.reg.length := by omega
    split
    · rfl
    · exact q2
  have q6 : ∀ x, (m.bits.set dst.toNat x)[src.toNat]? = some (if dst.toNat = src.toNat then x else bitS m src) := fun x => by
    rw [List.getElem?_set]
    have : dst.toNat < m.bits.length := by omega
    split
    · rfl
    · exact q4
  clear gr gb gc sd ss kd1 ks
  unfold heedV setR2 setB2 zeroM
  rcases hk with rfl | rfl
  · cases t with
    | false => repeat' (first | with_reducible rfl | refine fcW_bd (co) (noRs_May) ?_ | with_reducible refine cdW_dec (fun _ => ?_) (fun _ => ?_) | refine cdW_not (fun _ => ?_) (fun _ => ?_) | refine cdW_any (fun _ => ?_) (fun _ => ?_) | with_reducible refine gdW_decT (fun _ => ?_) (fun _ => ?_) | with_reducible refine gdW_decF (fun _ => ?_) (fun _ => ?_) | refine gdW_not (fun _ => ?_) (fun _ => ?_) | refine gdW_any (fun _ => ?_) (fun _ => ?_) | simp only [go_sem, ↓reduceIte, Nat.reduceEqDiff, Nat.reduceAdd, Nat.reduceMul, Nat.reduceBEq, Option.getD_none, Int.reduceToNat, Nat.reduceSub, Nat.reduceLT, Nat.reduceLeDiff, Int.reduceLE, Int.reduceLT, reduceCtorEq, bne, Int.reduceEq, Int.reduceBEq, Int.reduceBNe, Int.reduceLE, Int.reduceNeg, Int.reduceAdd, Int.reduceSub, Int.reduceMul, setAg, setSt, setKn, tk_S, tk_K, tk_B, take_map_len, List.length_set, *] | rfl)
    | true =>
      cases h1 : meetSb (regS m dst) (regS m src) <;> rw [h1] at cm <;> cases h2 : meetKb (bitS m dst) (bitS m src) <;> rw [h2] at ck <;>
        repeat' (first | with_reducible rfl | refine fcW_bd (co) (noRs_May) ?_ | refine fcW_bd (cm) rfl ?_ | refine fcW_bd (ck) rfl ?_ | with_reducible refine cdW_dec (fun _ => ?_) (fun _ => ?_) | refine cdW_not (fun _ => ?_) (fun _ => ?_) | refine cdW_any (fun _ => ?_) (fun _ => ?_) | with_reducible refine gdW_decT (fun _ => ?_) (fun _ => ?_) | with_reducible refine gdW_decF (fun _ => ?_) (fun _ => ?_) | refine gdW_not (fun _ => ?_) (fun _ => ?_) | refine gdW_any (fun _ => ?_) (fun _ => ?_) | simp only [go_sem, ↓reduceIte, Nat.reduceEqDiff, Nat.reduceAdd, Nat.reduceMul, Nat.reduceBEq, Option.getD_none, Int.reduceToNat, Nat.reduceSub, Nat.reduceLT, Nat.reduceLeDiff, Int.reduceLE, Int.reduceLT, reduceCtorEq, bne, Int.reduceEq, Int.reduceBEq, Int.reduceBNe, Int.reduceLE, Int.reduceNeg, Int.reduceAdd, Int.reduceSub, Int.reduceMul, setAg, setSt, setKn, tk_S, tk_K, tk_B, take_map_len, List.length_set, *] | rfl)
  · cases t with
    | true =>
      generalize lessS (regS m dst) (regS m src) = L at cl ⊢
      obtain ⟨L0, L1, L2⟩ := L
      dsimp only at cl ⊢
      cases L2 <;> cases hne : (dst == src) <;> repeat' (first | with_reducible rfl | refine fcW_bd (co) (noRs_May) ?_ | refine fcW_bd (cl) rfl ?_ | with_reducible refine cdW_dec (fun _ => ?_) (fun _ => ?_) | refine cdW_not (fun _ => ?_) (fun _ => ?_) | refine cdW_any (fun _ => ?_) (fun _ => ?_) | with_reducible refine gdW_decT (fun _ => ?_) (fun _ => ?_) | with_reducible refine gdW_decF (fun _ => ?_) (fun _ => ?_) | refine gdW_not (fun _ => ?_) (fun _ => ?_) | refine gdW_any (fun _ => ?_) (fun _ => ?_) | simp only [go_sem, ↓reduceIte, Nat.reduceEqDiff, Nat.reduceAdd, Nat.reduceMul, Nat.reduceBEq, Option.getD_none, Int.reduceToNat, Nat.reduceSub, Nat.reduceLT, Nat.reduceLeDiff, Int.reduceLE, Int.reduceLT, reduceCtorEq, bne, Int.reduceEq, Int.reduceBEq, Int.reduceBNe, Int.reduceLE, Int.reduceNeg, Int.reduceAdd, Int.reduceSub, Int.reduceMul, setAg, setSt, setKn, tk_S, tk_K, tk_B, take_map_len, List.length_set, *] | rfl)
    | false =>
      by_cases hge : (regS m dst).2 ≥ (regS m src).1 <;> cases hne : (dst == src)
      · repeat' (first | with_reducible rfl | refine fcW_bd (co) (noRs_May) ?_ | with_reducible refine cdW_dec (fun _ => ?_) (fun _ => ?_) | refine cdW_not (fun _ => ?_) (fun _ => ?_) | refine cdW_any (fun _ => ?_) (fun _ => ?_) | with_reducible refine gdW_decT (fun _ => ?_) (fun _ => ?_) | with_reducible refine gdW_decF (fun _ => ?_) (fun _ => ?_) | refine gdW_not (fun _ => ?_) (fun _ => ?_) | refine gdW_any (fun _ => ?_) (fun _ => ?_) | simp only [go_sem, ↓reduceIte, Nat.reduceEqDiff, Nat.reduceAdd, Nat.reduceMul, Nat.reduceBEq, Option.getD_none, Int.reduceToNat, Nat.reduceSub, Nat.reduceLT, Nat.reduceLeDiff, Int.reduceLE, Int.reduceLT, reduceCtorEq, bne, Int.reduceEq, Int.reduceBEq, Int.reduceBNe, Int.reduceLE, Int.reduceNeg, Int.reduceAdd, Int.reduceSub, Int.reduceMul, mxI, mnI, setAg, setSt, setKn, tk_S, tk_K, tk_B, take_map_len, List.length_set, *] | rfl)
      · repeat' (first | with_reducible rfl | refine fcW_bd (co) (noRs_May) ?_ | with_reducible refine cdW_dec (fun _ => ?_) (fun _ => ?_) | refine cdW_not (fun _ => ?_) (fun _ => ?_) | refine cdW_any (fun _ => ?_) (fun _ => ?_) | with_reducible refine gdW_decT (fun _ => ?_) (fun _ => ?_) | with_reducible refine gdW_decF (fun _ => ?_) (fun _ => ?_) | refine gdW_not (fun _ => ?_) (fun _ => ?_) | refine gdW_any (fun _ => ?_) (fun _ => ?_) | simp only [go_sem, ↓reduceIte, Nat.reduceEqDiff, Nat.reduceAdd, Nat.reduceMul, Nat.reduceBEq, Option.getD_none, Int.reduceToNat, Nat.reduceSub, Nat.reduceLT, Nat.reduceLeDiff, Int.reduceLE, Int.reduceLT, reduceCtorEq, bne, Int.reduceEq, Int.reduceBEq, Int.reduceBNe, Int.reduceLE, Int.reduceNeg, Int.reduceAdd, Int.reduceSub, Int.reduceMul, mxI, mnI, setAg, setSt, setKn, tk_S, tk_K, tk_B, take_map_len, List.length_set, *] | rfl)
      · repeat' (first | with_reducible rfl | refine fcW_bd (co) (noRs_May) ?_ | with_reducible refine cdW_dec (fun _ => ?_) (fun _ => ?_) | refine cdW_not (fun _ => ?_) (fun _ => ?_) | refine cdW_any (fun _ => ?_) (fun _ => ?_) | with_reducible refine gdW_decT (fun _ => ?_) (fun _ => ?_) | with_reducible refine gdW_decF (fun _ => ?_) (fun _ => ?_) | refine gdW_not (fun _ => ?_) (fun _ => ?_) | refine gdW_any (fun _ => ?_) (fun _ => ?_) | simp only [go_sem, ↓reduceIte, Nat.reduceEqDiff, Nat.reduceAdd, Nat.reduceMul, Nat.reduceBEq, Option.getD_none, Int.reduceToNat, Nat.reduceSub, Nat.reduceLT, Nat.reduceLeDiff, Int.reduceLE, Int.reduceLT, reduceCtorEq, bne, Int.reduceEq, Int.reduceBEq, Int.reduceBNe, Int.reduceLE, Int.reduceNeg, Int.reduceAdd, Int.reduceSub, Int.reduceMul, mxI, mnI, setAg, setSt, setKn, tk_S, tk_K, tk_B, take_map_len, List.length_set, *] | rfl)
      · repeat' (first | with_reducible rfl | refine fcW_bd (co) (noRs_May) ?_ | with_reducible refine cdW_dec (fun _ => ?_) (fun _ => ?_) | refine cdW_not (fun _ => ?_) (fun _ => ?_) | refine cdW_any (fun _ => ?_) (fun _ => ?_) | with_reducible refine gdW_decT (fun _ => ?_) (fun _ => ?_) | with_reducible refine gdW_decF (fun _ => ?_) (fun _ => ?_) | refine gdW_not (fun _ => ?_) (fun _ => ?_) | refine gdW_any (fun _ => ?_) (fun _ => ?_) | simp only [go_sem, ↓reduceIte, Nat.reduceEqDiff, Nat.reduceAdd, Nat.reduceMul, Nat.reduceBEq, Option.getD_none, Int.reduceToNat, Nat.reduceSub, Nat.reduceLT, Nat.reduceLeDiff, Int.reduceLE, Int.reduceLT, reduceCtorEq, bne, Int.reduceEq, Int.reduceBEq, Int.reduceBNe, Int.reduceLE, Int.reduceNeg, Int.reduceAdd, Int.reduceSub, Int.reduceMul, mxI, mnI, setAg, setSt, setKn, tk_S, tk_K, tk_B, take_map_len, List.length_set, *] | rfl)
end Go.Vm.Ytmicgdfekpoajaa
/- Walks: a jump is heeded, by the reference; if all is valid. -/
namespace Go.Vm.Ytmicgdfekpoajaa
open Go Go.Vm
set_option maxRecDepth 10000
set_option maxHeartbeats 32000000
set_option linter.unusedSimpArgs false
set_option linter.unusedVariables false

theorem set_same {α : Type} {l : List α} {i : Nat} {x : α} (h : l[i]? = some x) : l.set i x = l := by
  apply List.ext_getElem?
  intro j
  rw [List.getElem?_set]
  split
  · rename_i e; subst e
    split
    · exact h.symm
    · rename_i hl; exact absurd (List.getElem?_eq_some_iff.1 h).1 hl
  · rfl
theorem spec_l13Heed.fc (s : StepD) (m : MayD) (t : Bool) (hm : MayOk m) (hv : stepB s = true) (hk : s.kind = 9 ∨ s.kind = 10) :
    FCt prog F_spec_l13Heed [.ro, .co, .ro] [s.d, m.d, Bb t] (.tup [(heedV s m t).1.d, Bb (heedV s m t).2]) [] := by
  refine fct_run spec_l13Heed.ok rfl ?_
  have ok := step_ok hv
  have ln := hm.len
  obtain ⟨l1, l2, l3, l4, gr, gb, gc⟩ := hm
  obtain ⟨k, op, dst, src, imm, to⟩ := s
  obtain ⟨_, od, os, oi, oo, ot, _, _⟩ := ok
  dsimp only at *
  have c6 : ((6 : Nat) : Int) = 6 := rfl
  have c16 : ((16 : Nat) : Int) = 16 := rfl
  have od1 := od.1
  have od2 : dst < 6 := by omega
  have os1 := os.1
  have os2 : src < 6 := by omega
  have q1 : m.reg[dst.toNat]? = some (regS m dst) := getD_some (by omega)
  have q2 : m.reg[src.toNat]? = some (regS m src) := getD_some (by omega)
  have q3 : m.bits[dst.toNat]? = some (bitS m dst) := getD_some (by omega)
  have q4 : m.bits[src.toNat]? = some (bitS m src) := getD_some (by omega)
  have sd := gS_ok (gr _ (List.mem_of_getElem? q1))
  have ss := gS_ok (gr _ (List.mem_of_getElem? q2))
  have kd1 := gK_ok (gb _ (List.mem_of_getElem? q3))
  have ks := gK_ok (gb _ (List.mem_of_getElem? q4))
  have cm := spec_l9Meet.fc (regS m dst) (regS m src)
  have ck := spec_l10Meet.fc (bitS m dst) (bitS m src)
  have cl := spec_l9Less.fc (regS m dst) (regS m src) sd ss
  have q5 : ∀ x, (m.reg.set dst.toNat x)[src.toNat]? = some (if dst.toNat = src.toNat then x else regS m src) := fun x => by
    rw [List.getElem?_set]
    have : dst.toNat < m.reg.length := by omega
    split
    · rfl
    · exact q2
  have q6 : ∀ x, (m.bits.set dst.toNat x)[src.toNat]? = some (if dst.toNat = src.toNat then x else bitS m src) := fun x => by
    rw [List.getElem?_set]
    have : dst.toNat < m.bits.length := by omega
    split
    · rfl
    · exact q4
  have z1 : (m.reg.set dst.toNat (regS m dst)).set src.toNat (regS m src) = m.reg := by rw [set_same q1, set_same q2]
  have z2 : dst = src → meetS (regS m dst) (regS m src) = regS m dst := fun h => by
    subst h
    have := sd.le
    have e1 : mxI (regS m dst).1 (regS m dst).1 = (regS m dst).1 := by unfold mxI; split <;> rfl
    have e2 : mnI (regS m dst).2 (regS m dst).2 = (regS m dst).2 := by unfold mnI; split <;> rfl
    unfold meetS meetSb
    rw [e1, e2, if_neg (by rw [decide_eq_true_eq]; omega)]
  have z3 : dst = src → (regS m dst).2 ≥ (regS m src).1 := fun h => by subst h; have := sd.le; omega
  have z4 : dst = src → ((m.reg.set dst.toNat (meetS (regS m dst) (regS m src))).set src.toNat (meetS (regS m dst) (regS m src))) = m.reg := fun h => by
    rw [z2 h]
    subst h
    rw [set_same q1, set_same q1]
  clear gr gb gc sd ss kd1 ks
  unfold heedV setR2 setB2 zeroM
  rcases hk with rfl | rfl
  · cases t with
    | false =>
      clear z2 z3 z4
      cases hne : (dst == src) <;> repeat' (first | with_reducible rfl | with_reducible refine cdW_dec (fun _ => ?_) (fun _ => ?_) | refine cdW_not (fun _ => ?_) (fun _ => ?_) | refine cdW_any (fun _ => ?_) (fun _ => ?_) | with_reducible refine gdW_decT (fun _ => ?_) (fun _ => ?_) | with_reducible refine gdW_decF (fun _ => ?_) (fun _ => ?_) | refine gdW_not (fun _ => ?_) (fun _ => ?_) | refine gdW_any (fun _ => ?_) (fun _ => ?_) | simp only [go_sem, ↓reduceIte, Nat.reduceEqDiff, Nat.reduceAdd, Nat.reduceMul, Nat.reduceBEq, Option.getD_none, Int.reduceToNat, Nat.reduceSub, Nat.reduceLT, Nat.reduceLeDiff, Int.reduceLE, Int.reduceLT, reduceCtorEq, bne, Int.reduceEq, Int.reduceBEq, Int.reduceBNe, Int.reduceLE, Int.reduceNeg, Int.reduceAdd, Int.reduceSub, Int.reduceMul, z1, setAg, setSt, setKn, tk_S, tk_K, tk_B, take_map_len, List.length_set, *] | rfl)
    | true =>
      cases h1 : meetSb (regS m dst) (regS m src) <;> rw [h1] at cm <;> cases h2 : meetKb (bitS m dst) (bitS m src) <;> rw [h2] at ck
      · generalize meetS (regS m dst) (regS m src) = X at z2 z4 cm ⊢
        cases hne : (dst == src)
        · clear z1 z2 z3 z4
          repeat' (first | with_reducible rfl | refine fcW_bd (cm) rfl ?_ | refine fcW_bd (ck) rfl ?_ | with_reducible refine cdW_dec (fun _ => ?_) (fun _ => ?_) | refine cdW_not (fun _ => ?_) (fun _ => ?_) | refine cdW_any (fun _ => ?_) (fun _ => ?_) | with_reducible refine gdW_decT (fun _ => ?_) (fun _ => ?_) | with_reducible refine gdW_decF (fun _ => ?_) (fun _ => ?_) | refine gdW_not (fun _ => ?_) (fun _ => ?_) | refine gdW_any (fun _ => ?_) (fun _ => ?_) | simp only [go_sem, ↓reduceIte, Nat.reduceEqDiff, Nat.reduceAdd, Nat.reduceMul, Nat.reduceBEq, Option.getD_none, Int.reduceToNat, Nat.reduceSub, Nat.reduceLT, Nat.reduceLeDiff, Int.reduceLE, Int.reduceLT, reduceCtorEq, bne, Int.reduceEq, Int.reduceBEq, Int.reduceBNe, Int.reduceLE, Int.reduceNeg, Int.reduceAdd, Int.reduceSub, Int.reduceMul, setAg, setSt, setKn, tk_S, tk_K, tk_B, take_map_len, List.length_set, *] | rfl)
        · have z4 := z4 (by simpa using hne)
          clear z1 z2 z3
          repeat' (first | with_reducible rfl | refine fcW_bd (cm) rfl ?_ | refine fcW_bd (ck) rfl ?_ | with_reducible refine cdW_dec (fun _ => ?_) (fun _ => ?_) | refine cdW_not (fun _ => ?_) (fun _ => ?_) | refine cdW_any (fun _ => ?_) (fun _ => ?_) | with_reducible refine gdW_decT (fun _ => ?_) (fun _ => ?_) | with_reducible refine gdW_decF (fun _ => ?_) (fun _ => ?_) | refine gdW_not (fun _ => ?_) (fun _ => ?_) | refine gdW_any (fun _ => ?_) (fun _ => ?_) | simp only [go_sem, ↓reduceIte, Nat.reduceEqDiff, Nat.reduceAdd, Nat.reduceMul, Nat.reduceBEq, Option.getD_none, Int.reduceToNat, Nat.reduceSub, Nat.reduceLT, Nat.reduceLeDiff, Int.reduceLE, Int.reduceLT, reduceCtorEq, bne, Int.reduceEq, Int.reduceBEq, Int.reduceBNe, Int.reduceLE, Int.reduceNeg, Int.reduceAdd, Int.reduceSub, Int.reduceMul, setAg, setSt, setKn, tk_S, tk_K, tk_B, take_map_len, List.length_set, *] | rfl)
      all_goals
        clear z1 z2 z3 z4
        repeat' (first | with_reducible rfl | refine fcW_bd (cm) rfl ?_ | refine fcW_bd (ck) rfl ?_ | with_reducible refine cdW_dec (fun _ => ?_) (fun _ => ?_) | refine cdW_not (fun _ => ?_) (fun _ => ?_) | refine cdW_any (fun _ => ?_) (fun _ => ?_) | with_reducible refine gdW_decT (fun _ => ?_) (fun _ => ?_) | with_reducible refine gdW_decF (fun _ => ?_) (fun _ => ?_) | refine gdW_not (fun _ => ?_) (fun _ => ?_) | refine gdW_any (fun _ => ?_) (fun _ => ?_) | simp only [go_sem, ↓reduceIte, Nat.reduceEqDiff, Nat.reduceAdd, Nat.reduceMul, Nat.reduceBEq, Option.getD_none, Int.reduceToNat, Nat.reduceSub, Nat.reduceLT, Nat.reduceLeDiff, Int.reduceLE, Int.reduceLT, reduceCtorEq, bne, Int.reduceEq, Int.reduceBEq, Int.reduceBNe, Int.reduceLE, Int.reduceNeg, Int.reduceAdd, Int.reduceSub, Int.reduceMul, setAg, setSt, setKn, tk_S, tk_K, tk_B, take_map_len, List.length_set, *] | rfl)
  · cases t with
    | true =>
      clear z1 z2 z3 z4
      generalize lessS (regS m dst) (regS m src) = L at cl ⊢
      obtain ⟨L0, L1, L2⟩ := L
      dsimp only at cl ⊢
      cases L2 <;> cases hne : (dst == src) <;> repeat' (first | with_reducible rfl | refine fcW_bd (cl) rfl ?_ | with_reducible refine cdW_dec (fun _ => ?_) (fun _ => ?_) | refine cdW_not (fun _ => ?_) (fun _ => ?_) | refine cdW_any (fun _ => ?_) (fun _ => ?_) | with_reducible refine gdW_decT (fun _ => ?_) (fun _ => ?_) | with_reducible refine gdW_decF (fun _ => ?_) (fun _ => ?_) | refine gdW_not (fun _ => ?_) (fun _ => ?_) | refine gdW_any (fun _ => ?_) (fun _ => ?_) | simp only [go_sem, ↓reduceIte, Nat.reduceEqDiff, Nat.reduceAdd, Nat.reduceMul, Nat.reduceBEq, Option.getD_none, Int.reduceToNat, Nat.reduceSub, Nat.reduceLT, Nat.reduceLeDiff, Int.reduceLE, Int.reduceLT, reduceCtorEq, bne, Int.reduceEq, Int.reduceBEq, Int.reduceBNe, Int.reduceLE, Int.reduceNeg, Int.reduceAdd, Int.reduceSub, Int.reduceMul, setAg, setSt, setKn, tk_S, tk_K, tk_B, take_map_len, List.length_set, *] | rfl)
    | false =>
      cases hne : (dst == src)
      · clear z1 z2 z3 z4
        have sy : (if (regS m src).2 < (regS m dst).2 then (regS m src).2 else (regS m dst).2) = (if (regS m dst).2 < (regS m src).2 then (regS m dst).2 else (regS m src).2) := by split <;> split <;> omega
        by_cases hge : (regS m dst).2 ≥ (regS m src).1
        · repeat' (first | with_reducible rfl | refine fcW_int (spec_l1Most.fc ..) ?_ | refine fcW_int (spec_l1Least.fc ..) ?_ | with_reducible refine cdW_dec (fun _ => ?_) (fun _ => ?_) | refine cdW_not (fun _ => ?_) (fun _ => ?_) | refine cdW_any (fun _ => ?_) (fun _ => ?_) | with_reducible refine gdW_decT (fun _ => ?_) (fun _ => ?_) | with_reducible refine gdW_decF (fun _ => ?_) (fun _ => ?_) | refine gdW_not (fun _ => ?_) (fun _ => ?_) | refine gdW_any (fun _ => ?_) (fun _ => ?_) | simp only [go_sem, ↓reduceIte, Nat.reduceEqDiff, Nat.reduceAdd, Nat.reduceMul, Nat.reduceBEq, Option.getD_none, Int.reduceToNat, Nat.reduceSub, Nat.reduceLT, Nat.reduceLeDiff, Int.reduceLE, Int.reduceLT, reduceCtorEq, bne, Int.reduceEq, Int.reduceBEq, Int.reduceBNe, Int.reduceLE, Int.reduceNeg, Int.reduceAdd, Int.reduceSub, Int.reduceMul, mxI, mnI, setAg, setSt, setKn, tk_S, tk_K, tk_B, take_map_len, List.length_set, *] | rfl)
        · repeat' (first | with_reducible rfl | refine fcW_int (spec_l1Most.fc ..) ?_ | refine fcW_int (spec_l1Least.fc ..) ?_ | with_reducible refine cdW_dec (fun _ => ?_) (fun _ => ?_) | refine cdW_not (fun _ => ?_) (fun _ => ?_) | refine cdW_any (fun _ => ?_) (fun _ => ?_) | with_reducible refine gdW_decT (fun _ => ?_) (fun _ => ?_) | with_reducible refine gdW_decF (fun _ => ?_) (fun _ => ?_) | refine gdW_not (fun _ => ?_) (fun _ => ?_) | refine gdW_any (fun _ => ?_) (fun _ => ?_) | simp only [go_sem, ↓reduceIte, Nat.reduceEqDiff, Nat.reduceAdd, Nat.reduceMul, Nat.reduceBEq, Option.getD_none, Int.reduceToNat, Nat.reduceSub, Nat.reduceLT, Nat.reduceLeDiff, Int.reduceLE, Int.reduceLT, reduceCtorEq, bne, Int.reduceEq, Int.reduceBEq, Int.reduceBNe, Int.reduceLE, Int.reduceNeg, Int.reduceAdd, Int.reduceSub, Int.reduceMul, mxI, mnI, setAg, setSt, setKn, tk_S, tk_K, tk_B, take_map_len, List.length_set, *] | rfl)
      · have z3 := z3 (by simpa using hne)
        clear z1 z2 z4
        repeat' (first | with_reducible rfl | refine fcW_int (spec_l1Most.fc ..) ?_ | refine fcW_int (spec_l1Least.fc ..) ?_ | with_reducible refine cdW_dec (fun _ => ?_) (fun _ => ?_) | refine cdW_not (fun _ => ?_) (fun _ => ?_) | refine cdW_any (fun _ => ?_) (fun _ => ?_) | with_reducible refine gdW_decT (fun _ => ?_) (fun _ => ?_) | with_reducible refine gdW_decF (fun _ => ?_) (fun _ => ?_) | refine gdW_not (fun _ => ?_) (fun _ => ?_) | refine gdW_any (fun _ => ?_) (fun _ => ?_) | simp only [go_sem, ↓reduceIte, Nat.reduceEqDiff, Nat.reduceAdd, Nat.reduceMul, Nat.reduceBEq, Option.getD_none, Int.reduceToNat, Nat.reduceSub, Nat.reduceLT, Nat.reduceLeDiff, Int.reduceLE, Int.reduceLT, reduceCtorEq, bne, Int.reduceEq, Int.reduceBEq, Int.reduceBNe, Int.reduceLE, Int.reduceNeg, Int.reduceAdd, Int.reduceSub, Int.reduceMul, mxI, mnI, setAg, setSt, setKn, tk_S, tk_K, tk_B, take_map_len, List.length_set, *] | rfl)
def heedOk (s : StepD) (m : MayD) : Bool := stepB s && (s.kind == 9 || s.kind == 10) && goodMay m
def heedG (s : StepD) (m : MayD) (t : Bool) : MayD × Bool × Bool := if heedOk s m then ((heedV s m t).1, (heedV s m t).2, true) else (zeroM, false, false)
theorem heedV_len {s : StepD} {m : MayD} {t : Bool} (h : MLen m) : MLen (heedV s m t).1 ∨ (heedV s m t).1 = zeroM := by
  have key : ∀ (c : Prop) [Decidable c] (a b : MayD × Bool), (MLen a.1 ∨ a.1 = zeroM) → (MLen b.1 ∨ b.1 = zeroM) → (MLen (if c then a else b).1 ∨ (if c then a else b).1 = zeroM) := by
    intro c _ a b ha hb; split
    · exact ha
    · exact hb
  unfold heedV
  repeat' (first | exact .inr rfl | exact .inl h | exact .inl (setR2_len h) | exact .inl (setB2_len (setR2_len h)) | apply key)
theorem heedG_w (s : StepD) (m : MayD) (t : Bool) : wMay (heedG s m t).1 ≤ 1048576 := by
  unfold heedG; split
  · rename_i h
    simp only [heedOk, Bool.and_eq_true] at h
    rcases heedV_len (s := s) (t := t) (goodMay_ok h.2).len with h2 | h2
    · exact wMay_len h2
    · show wMay (heedV s m t).1 ≤ _
      rw [h2]; exact wMay_zero
  · exact wMay_zero
theorem noRs_mayB {m : MayD} {b : Bool} : noRs (.tup [m.d, Bb b]) = true := noRs_t2 noRs_May rfl
theorem impl_HeedJump.fc (s : StepD) (m : MayD) (t : Bool) (hm : wMay m ≤ 4194304) : FCt prog F_impl_HeedJump [.ro, .ro, .ro] [s.d, m.d, Bb t] (.tup [(heedG s m t).1.d, Bb (heedG s m t).2.1, Bb (heedG s m t).2.2]) [] := by
  refine fct_run impl_HeedJump.ok rfl ?_
  have c1 := impl_Step_valid.fc s
  rw [valid_step] at c1
  have c2 := impl_GoodMay.fc m hm
  unfold heedG heedOk zeroM
  cases h1 : stepB s with
  | false => repeat' (first | with_reducible rfl | refine fcW_bool (c1) ?_ | refine fcW_bool (c2) ?_ | with_reducible refine cdW_dec (fun _ => ?_) (fun _ => ?_) | refine cdW_not (fun _ => ?_) (fun _ => ?_) | refine cdW_any (fun _ => ?_) (fun _ => ?_) | with_reducible refine gdW_decT (fun _ => ?_) (fun _ => ?_) | with_reducible refine gdW_decF (fun _ => ?_) (fun _ => ?_) | refine gdW_not (fun _ => ?_) (fun _ => ?_) | refine gdW_any (fun _ => ?_) (fun _ => ?_) | simp only [go_sem, ↓reduceIte, Nat.reduceEqDiff, Nat.reduceAdd, Nat.reduceMul, Nat.reduceBEq, Option.getD_none, Int.reduceToNat, Nat.reduceSub, Nat.reduceLT, Nat.reduceLeDiff, Int.reduceLE, Int.reduceLT, reduceCtorEq, bne, Int.reduceEq, Int.reduceBEq, Int.reduceBNe, Int.reduceLE, Int.reduceNeg, Int.reduceAdd, Int.reduceSub, Int.reduceMul, *] | rfl)
  | true =>
    cases hk9 : (s.kind == 9) <;> cases hk10 : (s.kind == 10) <;> cases h2 : goodMay m
    case false.false.false => repeat' (first | with_reducible rfl | refine fcW_bool (c1) ?_ | refine fcW_bool (c2) ?_ | with_reducible refine cdW_dec (fun _ => ?_) (fun _ => ?_) | refine cdW_not (fun _ => ?_) (fun _ => ?_) | refine cdW_any (fun _ => ?_) (fun _ => ?_) | with_reducible refine gdW_decT (fun _ => ?_) (fun _ => ?_) | with_reducible refine gdW_decF (fun _ => ?_) (fun _ => ?_) | refine gdW_not (fun _ => ?_) (fun _ => ?_) | refine gdW_any (fun _ => ?_) (fun _ => ?_) | simp only [go_sem, ↓reduceIte, Nat.reduceEqDiff, Nat.reduceAdd, Nat.reduceMul, Nat.reduceBEq, Option.getD_none, Int.reduceToNat, Nat.reduceSub, Nat.reduceLT, Nat.reduceLeDiff, Int.reduceLE, Int.reduceLT, reduceCtorEq, bne, Int.reduceEq, Int.reduceBEq, Int.reduceBNe, Int.reduceLE, Int.reduceNeg, Int.reduceAdd, Int.reduceSub, Int.reduceMul, *] | rfl)
    case false.false.true => repeat' (first | with_reducible rfl | refine fcW_bool (c1) ?_ | refine fcW_bool (c2) ?_ | with_reducible refine cdW_dec (fun _ => ?_) (fun _ => ?_) | refine cdW_not (fun _ => ?_) (fun _ => ?_) | refine cdW_any (fun _ => ?_) (fun _ => ?_) | with_reducible refine gdW_decT (fun _ => ?_) (fun _ => ?_) | with_reducible refine gdW_decF (fun _ => ?_) (fun _ => ?_) | refine gdW_not (fun _ => ?_) (fun _ => ?_) | refine gdW_any (fun _ => ?_) (fun _ => ?_) | simp only [go_sem, ↓reduceIte, Nat.reduceEqDiff, Nat.reduceAdd, Nat.reduceMul, Nat.reduceBEq, Option.getD_none, Int.reduceToNat, Nat.reduceSub, Nat.reduceLT, Nat.reduceLeDiff, Int.reduceLE, Int.reduceLT, reduceCtorEq, bne, Int.reduceEq, Int.reduceBEq, Int.reduceBNe, Int.reduceLE, Int.reduceNeg, Int.reduceAdd, Int.reduceSub, Int.reduceMul, *] | rfl)
    case false.true.false => repeat' (first | with_reducible rfl | refine fcW_bool (c1) ?_ | refine fcW_bool (c2) ?_ | with_reducible refine cdW_dec (fun _ => ?_) (fun _ => ?_) | refine cdW_not (fun _ => ?_) (fun _ => ?_) | refine cdW_any (fun _ => ?_) (fun _ => ?_) | with_reducible refine gdW_decT (fun _ => ?_) (fun _ => ?_) | with_reducible refine gdW_decF (fun _ => ?_) (fun _ => ?_) | refine gdW_not (fun _ => ?_) (fun _ => ?_) | refine gdW_any (fun _ => ?_) (fun _ => ?_) | simp only [go_sem, ↓reduceIte, Nat.reduceEqDiff, Nat.reduceAdd, Nat.reduceMul, Nat.reduceBEq, Option.getD_none, Int.reduceToNat, Nat.reduceSub, Nat.reduceLT, Nat.reduceLeDiff, Int.reduceLE, Int.reduceLT, reduceCtorEq, bne, Int.reduceEq, Int.reduceBEq, Int.reduceBNe, Int.reduceLE, Int.reduceNeg, Int.reduceAdd, Int.reduceSub, Int.reduceMul, *] | rfl)
    case true.false.false => repeat' (first | with_reducible rfl | refine fcW_bool (c1) ?_ | refine fcW_bool (c2) ?_ | with_reducible refine cdW_dec (fun _ => ?_) (fun _ => ?_) | refine cdW_not (fun _ => ?_) (fun _ => ?_) | refine cdW_any (fun _ => ?_) (fun _ => ?_) | with_reducible refine gdW_decT (fun _ => ?_) (fun _ => ?_) | with_reducible refine gdW_decF (fun _ => ?_) (fun _ => ?_) | refine gdW_not (fun _ => ?_) (fun _ => ?_) | refine gdW_any (fun _ => ?_) (fun _ => ?_) | simp only [go_sem, ↓reduceIte, Nat.reduceEqDiff, Nat.reduceAdd, Nat.reduceMul, Nat.reduceBEq, Option.getD_none, Int.reduceToNat, Nat.reduceSub, Nat.reduceLT, Nat.reduceLeDiff, Int.reduceLE, Int.reduceLT, reduceCtorEq, bne, Int.reduceEq, Int.reduceBEq, Int.reduceBNe, Int.reduceLE, Int.reduceNeg, Int.reduceAdd, Int.reduceSub, Int.reduceMul, *] | rfl)
    case true.true.false => repeat' (first | with_reducible rfl | refine fcW_bool (c1) ?_ | refine fcW_bool (c2) ?_ | with_reducible refine cdW_dec (fun _ => ?_) (fun _ => ?_) | refine cdW_not (fun _ => ?_) (fun _ => ?_) | refine cdW_any (fun _ => ?_) (fun _ => ?_) | with_reducible refine gdW_decT (fun _ => ?_) (fun _ => ?_) | with_reducible refine gdW_decF (fun _ => ?_) (fun _ => ?_) | refine gdW_not (fun _ => ?_) (fun _ => ?_) | refine gdW_any (fun _ => ?_) (fun _ => ?_) | simp only [go_sem, ↓reduceIte, Nat.reduceEqDiff, Nat.reduceAdd, Nat.reduceMul, Nat.reduceBEq, Option.getD_none, Int.reduceToNat, Nat.reduceSub, Nat.reduceLT, Nat.reduceLeDiff, Int.reduceLE, Int.reduceLT, reduceCtorEq, bne, Int.reduceEq, Int.reduceBEq, Int.reduceBNe, Int.reduceLE, Int.reduceNeg, Int.reduceAdd, Int.reduceSub, Int.reduceMul, *] | rfl)
    all_goals
      have c3 := impl_heedJump.fc s m t (goodMay_ok h2) h1 (by simp at hk9 hk10; omega)
      generalize heedV s m t = R at c3 ⊢
      obtain ⟨R0, R1⟩ := R
      dsimp only at c3 ⊢
      repeat' (first | with_reducible rfl | refine fcW_bool (c1) ?_ | refine fcW_bool (c2) ?_ | refine fcW_bd (c3) (noRs_mayB) ?_ | with_reducible refine cdW_dec (fun _ => ?_) (fun _ => ?_) | refine cdW_not (fun _ => ?_) (fun _ => ?_) | refine cdW_any (fun _ => ?_) (fun _ => ?_) | with_reducible refine gdW_decT (fun _ => ?_) (fun _ => ?_) | with_reducible refine gdW_decF (fun _ => ?_) (fun _ => ?_) | refine gdW_not (fun _ => ?_) (fun _ => ?_) | refine gdW_any (fun _ => ?_) (fun _ => ?_) | simp only [go_sem, ↓reduceIte, Nat.reduceEqDiff, Nat.reduceAdd, Nat.reduceMul, Nat.reduceBEq, Option.getD_none, Int.reduceToNat, Nat.reduceSub, Nat.reduceLT, Nat.reduceLeDiff, Int.reduceLE, Int.reduceLT, reduceCtorEq, bne, Int.reduceEq, Int.reduceBEq, Int.reduceBNe, Int.reduceLE, Int.reduceNeg, Int.reduceAdd, Int.reduceSub, Int.reduceMul, take_map_len, *] | rfl)
theorem spec_HeedJump.fc (s : StepD) (m : MayD) (t : Bool) (hm : wMay m ≤ 4194304) : FCt prog F_spec_HeedJump [.ro, .ro, .ro] [s.d, m.d, Bb t] (.tup [(heedG s m t).1.d, Bb (heedG s m t).2.1, Bb (heedG s m t).2.2]) [] := by
  refine fct_run spec_HeedJump.ok rfl ?_
  have c1 := spec_l2Step.fc s
  have c2 := spec_GoodMay.fc m hm
  unfold heedG heedOk zeroM
  cases h1 : stepB s with
  | false => repeat' (first | with_reducible rfl | refine fcW_bool (c1) ?_ | refine fcW_bool (c2) ?_ | with_reducible refine cdW_dec (fun _ => ?_) (fun _ => ?_) | refine cdW_not (fun _ => ?_) (fun _ => ?_) | refine cdW_any (fun _ => ?_) (fun _ => ?_) | with_reducible refine gdW_decT (fun _ => ?_) (fun _ => ?_) | with_reducible refine gdW_decF (fun _ => ?_) (fun _ => ?_) | refine gdW_not (fun _ => ?_) (fun _ => ?_) | refine gdW_any (fun _ => ?_) (fun _ => ?_) | simp only [go_sem, ↓reduceIte, Nat.reduceEqDiff, Nat.reduceAdd, Nat.reduceMul, Nat.reduceBEq, Option.getD_none, Int.reduceToNat, Nat.reduceSub, Nat.reduceLT, Nat.reduceLeDiff, Int.reduceLE, Int.reduceLT, reduceCtorEq, bne, Int.reduceEq, Int.reduceBEq, Int.reduceBNe, Int.reduceLE, Int.reduceNeg, Int.reduceAdd, Int.reduceSub, Int.reduceMul, *] | rfl)
  | true =>
    cases hk9 : (s.kind == 9) <;> cases hk10 : (s.kind == 10) <;> cases h2 : goodMay m
    case false.false.false => repeat' (first | with_reducible rfl | refine fcW_bool (c1) ?_ | refine fcW_bool (c2) ?_ | with_reducible refine cdW_dec (fun _ => ?_) (fun _ => ?_) | refine cdW_not (fun _ => ?_) (fun _ => ?_) | refine cdW_any (fun _ => ?_) (fun _ => ?_) | with_reducible refine gdW_decT (fun _ => ?_) (fun _ => ?_) | with_reducible refine gdW_decF (fun _ => ?_) (fun _ => ?_) | refine gdW_not (fun _ => ?_) (fun _ => ?_) | refine gdW_any (fun _ => ?_) (fun _ => ?_) | simp only [go_sem, ↓reduceIte, Nat.reduceEqDiff, Nat.reduceAdd, Nat.reduceMul, Nat.reduceBEq, Option.getD_none, Int.reduceToNat, Nat.reduceSub, Nat.reduceLT, Nat.reduceLeDiff, Int.reduceLE, Int.reduceLT, reduceCtorEq, bne, Int.reduceEq, Int.reduceBEq, Int.reduceBNe, Int.reduceLE, Int.reduceNeg, Int.reduceAdd, Int.reduceSub, Int.reduceMul, *] | rfl)
    case false.false.true => repeat' (first | with_reducible rfl | refine fcW_bool (c1) ?_ | refine fcW_bool (c2) ?_ | with_reducible refine cdW_dec (fun _ => ?_) (fun _ => ?_) | refine cdW_not (fun _ => ?_) (fun _ => ?_) | refine cdW_any (fun _ => ?_) (fun _ => ?_) | with_reducible refine gdW_decT (fun _ => ?_) (fun _ => ?_) | with_reducible refine gdW_decF (fun _ => ?_) (fun _ => ?_) | refine gdW_not (fun _ => ?_) (fun _ => ?_) | refine gdW_any (fun _ => ?_) (fun _ => ?_) | simp only [go_sem, ↓reduceIte, Nat.reduceEqDiff, Nat.reduceAdd, Nat.reduceMul, Nat.reduceBEq, Option.getD_none, Int.reduceToNat, Nat.reduceSub, Nat.reduceLT, Nat.reduceLeDiff, Int.reduceLE, Int.reduceLT, reduceCtorEq, bne, Int.reduceEq, Int.reduceBEq, Int.reduceBNe, Int.reduceLE, Int.reduceNeg, Int.reduceAdd, Int.reduceSub, Int.reduceMul, *] | rfl)
    case false.true.false => repeat' (first | with_reducible rfl | refine fcW_bool (c1) ?_ | refine fcW_bool (c2) ?_ | with_reducible refine cdW_dec (fun _ => ?_) (fun _ => ?_) | refine cdW_not (fun _ => ?_) (fun _ => ?_) | refine cdW_any (fun _ => ?_) (fun _ => ?_) | with_reducible refine gdW_decT (fun _ => ?_) (fun _ => ?_) | with_reducible refine gdW_decF (fun _ => ?_) (fun _ => ?_) | refine gdW_not (fun _ => ?_) (fun _ => ?_) | refine gdW_any (fun _ => ?_) (fun _ => ?_) | simp only [go_sem, ↓reduceIte, Nat.reduceEqDiff, Nat.reduceAdd, Nat.reduceMul, Nat.reduceBEq, Option.getD_none, Int.reduceToNat, Nat.reduceSub, Nat.reduceLT, Nat.reduceLeDiff, Int.reduceLE, Int.reduceLT, reduceCtorEq, bne, Int.reduceEq, Int.reduceBEq, Int.reduceBNe, Int.reduceLE, Int.reduceNeg, Int.reduceAdd, Int.reduceSub, Int.reduceMul, *] | rfl)
    case true.false.false => repeat' (first | with_reducible rfl | refine fcW_bool (c1) ?_ | refine fcW_bool (c2) ?_ | with_reducible refine cdW_dec (fun _ => ?_) (fun _ => ?_) | refine cdW_not (fun _ => ?_) (fun _ => ?_) | refine cdW_any (fun _ => ?_) (fun _ => ?_) | with_reducible refine gdW_decT (fun _ => ?_) (fun _ => ?_) | with_reducible refine gdW_decF (fun _ => ?_) (fun _ => ?_) | refine gdW_not (fun _ => ?_) (fun _ => ?_) | refine gdW_any (fun _ => ?_) (fun _ => ?_) | simp only [go_sem, ↓reduceIte, Nat.reduceEqDiff, Nat.reduceAdd, Nat.reduceMul, Nat.reduceBEq, Option.getD_none, Int.reduceToNat, Nat.reduceSub, Nat.reduceLT, Nat.reduceLeDiff, Int.reduceLE, Int.reduceLT, reduceCtorEq, bne, Int.reduceEq, Int.reduceBEq, Int.reduceBNe, Int.reduceLE, Int.reduceNeg, Int.reduceAdd, Int.reduceSub, Int.reduceMul, *] | rfl)
    case true.true.false => repeat' (first | with_reducible rfl | refine fcW_bool (c1) ?_ | refine fcW_bool (c2) ?_ | with_reducible refine cdW_dec (fun _ => ?_) (fun _ => ?_) | refine cdW_not (fun _ => ?_) (fun _ => ?_) | refine cdW_any (fun _ => ?_) (fun _ => ?_) | with_reducible refine gdW_decT (fun _ => ?_) (fun _ => ?_) | with_reducible refine gdW_decF (fun _ => ?_) (fun _ => ?_) | refine gdW_not (fun _ => ?_) (fun _ => ?_) | refine gdW_any (fun _ => ?_) (fun _ => ?_) | simp only [go_sem, ↓reduceIte, Nat.reduceEqDiff, Nat.reduceAdd, Nat.reduceMul, Nat.reduceBEq, Option.getD_none, Int.reduceToNat, Nat.reduceSub, Nat.reduceLT, Nat.reduceLeDiff, Int.reduceLE, Int.reduceLT, reduceCtorEq, bne, Int.reduceEq, Int.reduceBEq, Int.reduceBNe, Int.reduceLE, Int.reduceNeg, Int.reduceAdd, Int.reduceSub, Int.reduceMul, *] | rfl)
    all_goals
      have c3 := spec_l13Heed.fc s m t (goodMay_ok h2) h1 (by simp at hk9 hk10; omega)
      have c4 := spec_l13Own.fc m (goodMay_ok h2).len
      generalize heedV s m t = R at c3 ⊢
      obtain ⟨R0, R1⟩ := R
      dsimp only at c3 ⊢
      repeat' (first | with_reducible rfl | refine fcW_bool (c1) ?_ | refine fcW_bool (c2) ?_ | refine fcW_bd (c4) (noRs_May) ?_ | refine coW_of (c3) (noRs_mayB) (rfl) ?_ | with_reducible refine cdW_dec (fun _ => ?_) (fun _ => ?_) | refine cdW_not (fun _ => ?_) (fun _ => ?_) | refine cdW_any (fun _ => ?_) (fun _ => ?_) | with_reducible refine gdW_decT (fun _ => ?_) (fun _ => ?_) | with_reducible refine gdW_decF (fun _ => ?_) (fun _ => ?_) | refine gdW_not (fun _ => ?_) (fun _ => ?_) | refine gdW_any (fun _ => ?_) (fun _ => ?_) | simp only [go_sem, ↓reduceIte, Nat.reduceEqDiff, Nat.reduceAdd, Nat.reduceMul, Nat.reduceBEq, Option.getD_none, Int.reduceToNat, Nat.reduceSub, Nat.reduceLT, Nat.reduceLeDiff, Int.reduceLE, Int.reduceLT, reduceCtorEq, bne, Int.reduceEq, Int.reduceBEq, Int.reduceBNe, Int.reduceLE, Int.reduceNeg, Int.reduceAdd, Int.reduceSub, Int.reduceMul, take_map_len, *] | rfl)
end Go.Vm.Ytmicgdfekpoajaa
