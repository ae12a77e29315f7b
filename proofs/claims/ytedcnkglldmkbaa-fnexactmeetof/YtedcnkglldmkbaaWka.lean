/- What the functions that the law reaches return: part 1 (the conditions stand at each). -/
import Derived.Test.YtedcnkglldmkbaaIr
/- Words for data: whole numbers, rows of them. -/
namespace Go.Vm
open Go
set_option linter.unusedSimpArgs false
set_option linter.unusedVariables false

abbrev Ii (n : Int) : D := .int .i64 n
abbrev Bb (b : Bool) : D := .bool b
abbrev ints (l : List Int) : D := .sl 1 (l.map Ii)
abbrev aI (n : Int) : AV := .dat none (.int .i64 n)
/-- a whole number of 64 bits -/
def i64 (n : Int) : Prop := -9223372036854775808 ≤ n ∧ n ≤ 9223372036854775807
theorem wrap_k {k m : Nat} (h : k < m) (hm : m ≤ 9223372036854775807) : IntKind.i64.wrap ((k : Int) + 1) = ((k + 1 : Nat) : Int) := by
  rw [wrap_in (by omega) (by omega)]; rfl
theorem hasInt {d : D} (h : HasTy (.int .i64) d) : ∃ n, d = Ii n ∧ i64 n := by
  simp only [HasTy] at h
  obtain ⟨n, rfl, h⟩ := h
  refine ⟨n, rfl, ?_⟩
  simp [Lit.wf, IntKind.has, IntKind.min, IntKind.max, IntKind.signed, IntKind.bits] at h
  exact ⟨by omega, by omega⟩
theorem take_succ' {α : Type} {l : List α} {k : Nat} (h : k < l.length) : l.take (k + 1) = l.take k ++ [l[k]] := by
  rw [List.take_succ_eq_append_getElem h]
theorem all_take {α : Type} {p : α → Bool} {l : List α} {k : Nat} (h : k < l.length) (h1 : (l.take k).all p = true) (h2 : p l[k] = true) : (l.take (k + 1)).all p = true := by
  rw [take_succ' h, List.all_append, h1]; simpa using h2
/-- a row that is filled from the left -/
def fill {α : Type} (f : α → D) (z : D) (l : List α) (k : Nat) : List D := (l.take k).map f ++ List.replicate (l.length - k) z
section
variable {α : Type} {f : α → D} {z : D} {l : List α} {k : Nat}
theorem fill_zero : List.replicate l.length z = fill f z l 0 := by simp [fill]
theorem fill_len (h : k ≤ l.length) : (fill f z l k).length = l.length := by simp [fill]; omega
theorem fill_get (h : k < l.length) : (fill f z l k)[k]? = some z := by
  simp only [fill]
  have e0 : ((l.take k).map f).length = k := by rw [List.length_map, List.length_take]; omega
  rw [List.getElem?_append_right (by omega), e0, Nat.sub_self, List.getElem?_replicate, if_pos (by omega)]
theorem fill_set (h : k < l.length) : (fill f z l k).set k (f l[k]) = fill f z l (k + 1) := by
  simp only [fill]
  have e0 : ((l.take k).map f).length = k := by rw [List.length_map, List.length_take]; omega
  have e2 : l.length - k = (l.length - (k + 1)) + 1 := by omega
  rw [List.set_append_right _ _ (by omega), take_succ' h, e0, Nat.sub_self, e2, List.replicate_succ, List.set_cons_zero, List.map_append, List.append_assoc]
  rfl
theorem fill_all : fill f z l l.length = l.map f := by simp [fill]
theorem take_map_len : (l.map f).take l.length = l.map f := by rw [List.take_of_length_le (by simp)]
end
/-- a row that is written over from the left -/
def ovr {α : Type} (A B : List α) (k : Nat) : List α := A.take k ++ B.drop k
section
variable {α : Type} {A B : List α} {k : Nat}
theorem ovr_zero : ovr A B 0 = B := by simp [ovr]
theorem ovr_all (h : A.length = B.length) : ovr A B B.length = A := by simp [ovr, ← h]
theorem ovr_len (h : A.length = B.length) (hk : k ≤ B.length) : (ovr A B k).length = B.length := by simp [ovr]; omega
theorem ovr_get (h : A.length = B.length) (hk : k < B.length) : (ovr A B k)[k]? = B[k]? := by
  have e : (A.take k).length = k := by rw [List.length_take]; omega
  rw [ovr, List.getElem?_append_right (by omega), e, Nat.sub_self, List.getElem?_drop]; rfl
theorem ovr_set {x : α} (h : A.length = B.length) (hk : k < B.length) (hx : A[k]? = some x) : (ovr A B k).set k x = ovr A B (k + 1) := by
  have e : (A.take k).length = k := by rw [List.length_take]; omega
  have hd : B.drop k = B[k] :: B.drop (k + 1) := List.drop_eq_getElem_cons hk
  have hkA : k < A.length := by omega
  have hx' : A[k] = x := by rw [List.getElem?_eq_getElem hkA] at hx; exact Option.some.inj hx
  rw [ovr, ovr, List.set_append_right _ _ (by omega), e, Nat.sub_self, hd, List.set_cons_zero, take_succ' hkA, hx', List.append_assoc]; rfl
end
def upFrom (n : Int) (m : Nat) : List Int := (List.range m).map fun i => n + (i : Nat)
theorem upFrom_len {n : Int} {m : Nat} : (upFrom n m).length = m := by simp [upFrom]
theorem upFrom_get {n : Int} {m k : Nat} (h : k < m) : (upFrom n m)[k]? = some (n + k) := by simp [upFrom, h]
/-- a row that grows: nil at first, then under one name -/
def RowAt (x : AV) (M : Mem) (nm sz : Nat) (ds : List D) : Prop := (ds = [] ∧ x = .nil sz) ∨ ∃ v, x = .sl nm v 0 ds.length sz ∧ M.m nm = some (.arr v true sz ds)
theorem RowAt.nil {M : Mem} {nm sz : Nat} : RowAt (.nil sz) M nm sz [] := .inl ⟨rfl, rfl⟩
theorem RowAt.sl {x : AV} {M : Mem} {nm sz v n : Nat} {ds : List D} (hx : x = .sl nm v 0 n sz) (hn : n = ds.length) (hm : M.m nm = some (.arr v true sz ds)) : RowAt x M nm sz ds := .inr ⟨v, by rw [hx, hn], hm⟩
section
variable {α : Type} {f : Int → α → α} {c : α → Nat}
end
theorem noRsL_all : ∀ {ds : List D}, (∀ d ∈ ds, noRs d = true) → noRsL ds = true
  | [], _ => rfl
  | d :: ds, h => by simp only [noRsL, Bool.and_eq_true]; exact ⟨h d List.mem_cons_self, noRsL_all fun x hx => h x (List.mem_cons_of_mem _ hx)⟩
theorem noRs_sl {sz : Nat} {ds : List D} (h : ∀ d ∈ ds, noRs d = true) : noRs (.sl sz ds) = true := by simp only [noRs]; exact noRsL_all h
theorem noRs_ints {l : List Int} : noRs (ints l) = true := noRs_sl (by simp [noRs])

/-! ### function values -/
section
variable {P : Program} {s : Nat → AV} {M : Mem} {nb ib : Nat}
theorem frzR_caps : ∀ (caps : List D), frzR s M ((caps.map bindC).map X.k) = some caps
  | [] => rfl
  | c :: caps => by simp only [List.map_cons, frzR, ev_k, frz_bindC, frzR_caps caps]
theorem frzR_app : ∀ (xs ys : List X), frzR s M (xs ++ ys) = match frzR s M xs, frzR s M ys with | some a, some b => some (a ++ b) | _, _ => none
  | [], ys => by simp only [List.nil_append, frzR]; cases frzR s M ys <;> rfl
  | x :: xs, ys => by
    simp only [List.cons_append, frzR, frzR_app xs ys]
    cases frz M 8 (x.ev s) <;> cases frzR s M xs <;> cases frzR s M ys <;> rfl
/-- a function value is called -/
theorem ccl_ro {f : FuncId} {caps : List D} {args : List X} {ds : List D} {K : AV → Mem → (Nat → Bool) → Prop} (ha : frzR s M args = some ds)
    (h : @fcW P f (args.map (fun _ => Md.ro) ++ caps.map fun _ => Md.ro) (ds ++ caps) false ((args ++ (caps.map bindC).map X.k).all fun x => coldA (x.ev s)) nb ib M ⟨K⟩) : @cW P (.clo f (caps.map bindC)) s M nb ib false args ⟨K⟩ := by
  rw [cW_clo, CR_ro, frzR_app, ha, frzR_caps]
  have e : ((args ++ (caps.map bindC).map X.k).map fun _ => Md.ro) = (args.map (fun _ => Md.ro) ++ caps.map fun _ => Md.ro) := by simp [List.map_map, Function.comp_def]
  rw [e]
  exact h
end
/-- the first place at which 'p' holds; -1: nowhere -/
def idxB {α : Type} (p : α → Bool) (l : List α) : Int := match l.findIdx? p with
  | some i => i
  | none => -1
theorem idxB_none {α : Type} {p : α → Bool} {l : List α} (h : l.all (fun x => !p x) = true) : idxB p l = -1 := by
  unfold idxB
  rw [List.findIdx?_eq_none_iff.2 (fun x hx => by simpa using List.all_eq_true.1 h x hx)]
theorem idxB_some {α : Type} {p : α → Bool} {l : List α} {k : Nat} (hk : k < l.length) (h : (l.take k).all (fun x => !p x) = true) (hp : p l[k] = true) : idxB p l = k := by
  unfold idxB
  rw [List.findIdx?_eq_some_iff_getElem.2 ⟨hk, hp, fun j hj => by
    have := List.all_eq_true.1 h l[j] (by rw [List.mem_take_iff_getElem]; exact ⟨j, by omega, rfl⟩)
    simpa using this⟩]
theorem idxB_any {α : Type} {p : α → Bool} {l : List α} : decide (0 ≤ idxB p l) = l.any p := by
  unfold idxB
  cases h : l.findIdx? p with
  | none =>
    rw [List.findIdx?_eq_none_iff] at h
    rw [List.any_eq_false.2 (fun x hx => by simp [h x hx])]; rfl
  | some i =>
    rw [List.findIdx?_eq_some_iff_getElem] at h
    obtain ⟨hi, hp, _⟩ := h
    rw [List.any_eq_true.2 ⟨l[i], List.getElem_mem hi, hp⟩]
    simp
end Go.Vm
/- Walks: small functions. -/
namespace Go.Vm.Ytedcnkglldmkbaa
open Go Go.Vm
set_option maxRecDepth 10000
set_option linter.unusedSimpArgs false
set_option linter.unusedVariables false

def inB (n lo hi : Int) : Bool := decide (lo ≤ n) && decide (n ≤ hi)
theorem impl_in.fc (n lo hi : Int) : FCt prog F_impl_in [.ro, .ro, .ro] [Ii n, Ii lo, Ii hi] (Bb (inB n lo hi)) [] := by
  refine fct_run impl_in.ok rfl ?_
  unfold inB
  by_cases h : lo ≤ n
  · simp only [go_sem, ↓reduceIte, Nat.reduceEqDiff, Nat.reduceAdd, Nat.reduceMul, Nat.reduceBEq, Option.getD_none, Int.reduceToNat, Nat.reduceSub, Nat.reduceLT, Nat.reduceLeDiff, Int.reduceLE, Int.reduceLT, reduceCtorEq, ge_iff_le, h]
  · simp only [go_sem, ↓reduceIte, Nat.reduceEqDiff, Nat.reduceAdd, Nat.reduceMul, Nat.reduceBEq, Option.getD_none, Int.reduceToNat, Nat.reduceSub, Nat.reduceLT, Nat.reduceLeDiff, Int.reduceLE, Int.reduceLT, reduceCtorEq, ge_iff_le, h]
theorem spec_l1In.fc (n lo hi : Int) : FCt prog F_spec_l1In [.ro, .ro, .ro] [Ii n, Ii lo, Ii hi] (Bb (inB n lo hi)) [] := by
  refine fct_run spec_l1In.ok rfl ?_
  unfold inB
  by_cases h : lo ≤ n
  · simp only [go_sem, ↓reduceIte, Nat.reduceEqDiff, Nat.reduceAdd, Nat.reduceMul, Nat.reduceBEq, Option.getD_none, Int.reduceToNat, Nat.reduceSub, Nat.reduceLT, Nat.reduceLeDiff, Int.reduceLE, Int.reduceLT, reduceCtorEq, ge_iff_le, h]
  · simp only [go_sem, ↓reduceIte, Nat.reduceEqDiff, Nat.reduceAdd, Nat.reduceMul, Nat.reduceBEq, Option.getD_none, Int.reduceToNat, Nat.reduceSub, Nat.reduceLT, Nat.reduceLeDiff, Int.reduceLE, Int.reduceLT, reduceCtorEq, ge_iff_le, h]

end Go.Vm.Ytedcnkglldmkbaa
/- Walks: rules are copied and weighed. -/
namespace Go.Vm.Ytedcnkglldmkbaa
open Go Go.Vm
set_option maxRecDepth 10000
set_option linter.unusedSimpArgs false
set_option linter.unusedVariables false

/-- a rule -/
structure RuleD where
  ifs : List Int
  thn : Int
  deriving DecidableEq
abbrev RuleD.d (r : RuleD) : D := .agg [ints r.ifs, Ii r.thn]
abbrev rules (l : List RuleD) : D := .sl 2 (l.map RuleD.d)
end Go.Vm.Ytedcnkglldmkbaa
/- Walks: rules are looked at. -/
namespace Go.Vm.Ytedcnkglldmkbaa
open Go Go.Vm
set_option maxRecDepth 10000
set_option linter.unusedSimpArgs false
set_option linter.unusedVariables false

/-- a place of a rising row -/
def risAt (lo hi : Int) (l : List Int) (k : Nat) : Bool := inB (l.getD k 0) lo hi && !(decide (0 < k) && decide (l.getD k 0 ≤ l.getD (k - 1) 0))
def rising (lo hi : Int) (l : List Int) : Bool := (List.range l.length).all (risAt lo hi l)
theorem ris_step {lo hi : Int} {l : List Int} {k : Nat} (h : (List.range k).all (risAt lo hi l) = true) (h2 : risAt lo hi l k = true) : (List.range (k + 1)).all (risAt lo hi l) = true := by
  rw [List.range_succ, List.all_append, h]; simpa using h2
theorem ris_not {lo hi : Int} {l : List Int} {k : Nat} (hk : k < l.length) (h2 : risAt lo hi l k = false) : rising lo hi l = false := by
  unfold rising
  rw [← Bool.not_eq_true, List.all_eq_true]
  intro h
  have := h k (by simpa using hk)
  rw [h2] at this; cases this
theorem spec_l1Rising.fc (l : List Int) (lo hi : Int) (hl : l.length ≤ 4294967296) : FCt prog F_spec_l1Rising [.ro, .ro, .ro] [ints l, Ii lo, Ii hi] (Bb (rising lo hi l)) [] := by
  refine fct_run spec_l1Rising.ok rfl ?_
  simp only [go_sem, ↓reduceIte, Nat.reduceEqDiff, Nat.reduceAdd, Nat.reduceMul, Nat.reduceBEq, Option.getD_none, Int.reduceToNat, Nat.reduceSub, Nat.reduceLT, Nat.reduceLeDiff, Int.reduceLE, Int.reduceLT, reduceCtorEq]
  refine R_loop (α := Nat) (fun k s' M' => k ≤ l.length ∧ s' 11 = aI k ∧ (List.range k).all (risAt lo hi l) = true) (fun k => l.length - k) 0 ⟨by omega, by simp only [go_sem, ↓reduceIte, Nat.reduceEqDiff, Nat.reduceAdd, Nat.reduceMul, Nat.reduceBEq, Option.getD_none, Int.reduceToNat, Nat.reduceSub, Nat.reduceLT, Nat.reduceLeDiff, Int.reduceLE, Int.reduceLT, reduceCtorEq]; rfl, by simp⟩ ?_
  rintro k s' M' ⟨hk, h11, hr⟩ ho
  have h0 : s' 0 = .dat none (ints l) := by rw [ho 0 rfl]; simp only [go_sem, ↓reduceIte, Nat.reduceEqDiff, Nat.reduceAdd, Nat.reduceMul, Nat.reduceBEq, Option.getD_none, Int.reduceToNat, Nat.reduceSub, Nat.reduceLT, Nat.reduceLeDiff, Int.reduceLE, Int.reduceLT, reduceCtorEq]
  have h1 : s' 1 = aI lo := by rw [ho 1 rfl]; simp only [go_sem, ↓reduceIte, Nat.reduceEqDiff, Nat.reduceAdd, Nat.reduceMul, Nat.reduceBEq, Option.getD_none, Int.reduceToNat, Nat.reduceSub, Nat.reduceLT, Nat.reduceLeDiff, Int.reduceLE, Int.reduceLT, reduceCtorEq]
  have h2 : s' 2 = aI hi := by rw [ho 2 rfl]; simp only [go_sem, ↓reduceIte, Nat.reduceEqDiff, Nat.reduceAdd, Nat.reduceMul, Nat.reduceBEq, Option.getD_none, Int.reduceToNat, Nat.reduceSub, Nat.reduceLT, Nat.reduceLeDiff, Int.reduceLE, Int.reduceLT, reduceCtorEq]
  have h9 : s' 9 = .dat none (ints l) := by rw [ho 9 rfl]; simp only [go_sem, ↓reduceIte, Nat.reduceEqDiff, Nat.reduceAdd, Nat.reduceMul, Nat.reduceBEq, Option.getD_none, Int.reduceToNat, Nat.reduceSub, Nat.reduceLT, Nat.reduceLeDiff, Int.reduceLE, Int.reduceLT, reduceCtorEq]
  have h10 : s' 10 = aI l.length := by rw [ho 10 rfl]; simp only [go_sem, ↓reduceIte, Nat.reduceEqDiff, Nat.reduceAdd, Nat.reduceMul, Nat.reduceBEq, Option.getD_none, Int.reduceToNat, Nat.reduceSub, Nat.reduceLT, Nat.reduceLeDiff, Int.reduceLE, Int.reduceLT, reduceCtorEq]
  clear ho
  unfold spec_l1Rising.b0
  by_cases hlt : k < l.length
  · have hi' : (k : Int) < l.length := by omega
    have ga : l[k]? = some l[k] := List.getElem?_eq_getElem hlt
    have gd : l.getD k 0 = l[k] := by simp [hlt]
    have hw : IntKind.i64.wrap (k + 1) = ((k + 1 : Nat) : Int) := wrap_k hlt (by omega)
    simp only [go_sem, ↓reduceIte, Nat.reduceEqDiff, Nat.reduceAdd, Nat.reduceMul, Nat.reduceBEq, Option.getD_none, Int.reduceToNat, Nat.reduceSub, Nat.reduceLT, Nat.reduceLeDiff, Int.reduceLE, Int.reduceLT, reduceCtorEq, h0, h1, h2, h9, h10, h11, hi', ga]
    refine fcW_bool (spec_l1In.fc _ _ _) ?_
    cases hin : inB l[k] lo hi with
    | false =>
      have hn : rising lo hi l = false := ris_not hlt (by simp only [risAt, gd, hin, Bool.false_and])
      simp only [go_sem, ↓reduceIte, Nat.reduceEqDiff, Nat.reduceAdd, Nat.reduceMul, Nat.reduceBEq, Option.getD_none, Int.reduceToNat, Nat.reduceSub, Nat.reduceLT, Nat.reduceLeDiff, Int.reduceLE, Int.reduceLT, reduceCtorEq, hn]
    | true =>
      by_cases hk0 : 0 < k
      · have hk0' : (k : Int) > 0 := by omega
        have gb : l[k - 1]? = some l[k - 1] := List.getElem?_eq_getElem (by omega)
        have gd1 : l.getD (k - 1) 0 = l[k - 1] := by rw [List.getD_eq_getElem?_getD, gb]; rfl
        have hw1 : IntKind.i64.wrap (k - 1) = ((k - 1 : Nat) : Int) := by rw [wrap_in (by omega) (by omega)]; omega
        have hi1 : ((k - 1 : Nat) : Int) < l.length := by omega
        have hr2 : risAt lo hi l k = !decide (l[k - 1] ≥ l[k]) := by simp only [risAt, gd, gd1, hin, hk0, decide_true, Bool.true_and, ge_iff_le]
        simp only [go_sem, ↓reduceIte, Nat.reduceEqDiff, Nat.reduceAdd, Nat.reduceMul, Nat.reduceBEq, Option.getD_none, Int.reduceToNat, Nat.reduceSub, Nat.reduceLT, Nat.reduceLeDiff, Int.reduceLE, Int.reduceLT, reduceCtorEq, h0, h1, h2, h9, h10, h11, hk0', gb, hw1, hi1, hw]
        refine cdW_dec (fun e => ?_) (fun e => ?_)
        · have hn : rising lo hi l = false := ris_not hlt (by rw [hr2, decide_eq_true e]; rfl)
          simp only [go_sem, ↓reduceIte, Nat.reduceEqDiff, Nat.reduceAdd, Nat.reduceMul, Nat.reduceBEq, Option.getD_none, Int.reduceToNat, Nat.reduceSub, Nat.reduceLT, Nat.reduceLeDiff, Int.reduceLE, Int.reduceLT, reduceCtorEq, hn]
        · simp only [go_sem, ↓reduceIte, Nat.reduceEqDiff, Nat.reduceAdd, Nat.reduceMul, Nat.reduceBEq, Option.getD_none, Int.reduceToNat, Nat.reduceSub, Nat.reduceLT, Nat.reduceLeDiff, Int.reduceLE, Int.reduceLT, reduceCtorEq, h11, hw]
          exact ⟨k + 1, by dsimp only; omega, by omega, by simp only [go_sem, ↓reduceIte, Nat.reduceEqDiff, Nat.reduceAdd, Nat.reduceMul, Nat.reduceBEq, Option.getD_none, Int.reduceToNat, Nat.reduceSub, Nat.reduceLT, Nat.reduceLeDiff, Int.reduceLE, Int.reduceLT, reduceCtorEq], ris_step hr (by rw [hr2, decide_eq_false e]; rfl)⟩
      · have hk0' : ¬ (k : Int) > 0 := by omega
        simp only [go_sem, ↓reduceIte, Nat.reduceEqDiff, Nat.reduceAdd, Nat.reduceMul, Nat.reduceBEq, Option.getD_none, Int.reduceToNat, Nat.reduceSub, Nat.reduceLT, Nat.reduceLeDiff, Int.reduceLE, Int.reduceLT, reduceCtorEq, h0, h1, h2, h9, h10, h11, hk0', hw]
        exact ⟨k + 1, by dsimp only; omega, by omega, by simp only [go_sem, ↓reduceIte, Nat.reduceEqDiff, Nat.reduceAdd, Nat.reduceMul, Nat.reduceBEq, Option.getD_none, Int.reduceToNat, Nat.reduceSub, Nat.reduceLT, Nat.reduceLeDiff, Int.reduceLE, Int.reduceLT, reduceCtorEq], ris_step hr (by simp only [risAt, gd, hin, hk0, decide_false, Bool.false_and, Bool.not_false, Bool.and_true])⟩
  · have hi' : ¬ (k : Int) < l.length := by omega
    have hkl : k = l.length := by omega
    subst hkl
    simp only [go_sem, ↓reduceIte, Nat.reduceEqDiff, Nat.reduceAdd, Nat.reduceMul, Nat.reduceBEq, Option.getD_none, Int.reduceToNat, Nat.reduceSub, Nat.reduceLT, Nat.reduceLeDiff, Int.reduceLE, Int.reduceLT, reduceCtorEq, h0, h1, h2, h9, h10, h11, hi']
    exact congrArg D.bool hr.symm
theorem spec_l16Facts.fc (l : List Int) (n : Int) (hl : l.length ≤ 4294967296) : FCt prog F_spec_l16Facts [.ro, .ro] [Ii n, ints l] (Bb (rising 1 n l)) [] := by
  refine fct_run spec_l16Facts.ok rfl ?_
  simp only [go_sem, ↓reduceIte, Nat.reduceEqDiff, Nat.reduceAdd, Nat.reduceMul, Nat.reduceBEq, Option.getD_none, Int.reduceToNat, Nat.reduceSub, Nat.reduceLT, Nat.reduceLeDiff, Int.reduceLE, Int.reduceLT, reduceCtorEq]
  refine fcW_bool (spec_l1Rising.fc _ _ _ hl) ?_
  simp only [go_sem, ↓reduceIte, Nat.reduceEqDiff, Nat.reduceAdd, Nat.reduceMul, Nat.reduceBEq, Option.getD_none, Int.reduceToNat, Nat.reduceSub, Nat.reduceLT, Nat.reduceLeDiff, Int.reduceLE, Int.reduceLT, reduceCtorEq]
end Go.Vm.Ytedcnkglldmkbaa
/- Walks: rules are looked at, by the program and by the reference. -/
namespace Go.Vm.Ytedcnkglldmkbaa
open Go Go.Vm
set_option maxRecDepth 10000
set_option linter.unusedSimpArgs false
set_option linter.unusedVariables false

theorem impl_areFacts.fc (l : List Int) (hi : Int) (hl : l.length ≤ 4294967296) : FCt prog F_impl_areFacts [.ro, .ro] [ints l, Ii hi] (Bb (rising 1 hi l)) [] := by
  refine fct_run impl_areFacts.ok rfl ?_
  simp only [go_sem, ↓reduceIte, Nat.reduceEqDiff, Nat.reduceAdd, Nat.reduceMul, Nat.reduceBEq, Option.getD_none, Int.reduceToNat, Nat.reduceSub, Nat.reduceLT, Nat.reduceLeDiff, Int.reduceLE, Int.reduceLT, reduceCtorEq]
  refine R_loop (α := Nat) (fun k s' M' => k ≤ l.length ∧ s' 9 = aI k ∧ (List.range k).all (risAt 1 hi l) = true) (fun k => l.length - k) 0 ⟨by omega, by simp only [go_sem, ↓reduceIte, Nat.reduceEqDiff, Nat.reduceAdd, Nat.reduceMul, Nat.reduceBEq, Option.getD_none, Int.reduceToNat, Nat.reduceSub, Nat.reduceLT, Nat.reduceLeDiff, Int.reduceLE, Int.reduceLT, reduceCtorEq]; rfl, by simp⟩ ?_
  rintro k s' M' ⟨hk, h9, hr⟩ ho
  have h0 : s' 0 = .dat none (ints l) := by rw [ho 0 rfl]; simp only [go_sem, ↓reduceIte, Nat.reduceEqDiff, Nat.reduceAdd, Nat.reduceMul, Nat.reduceBEq, Option.getD_none, Int.reduceToNat, Nat.reduceSub, Nat.reduceLT, Nat.reduceLeDiff, Int.reduceLE, Int.reduceLT, reduceCtorEq]
  have h1 : s' 1 = aI hi := by rw [ho 1 rfl]; simp only [go_sem, ↓reduceIte, Nat.reduceEqDiff, Nat.reduceAdd, Nat.reduceMul, Nat.reduceBEq, Option.getD_none, Int.reduceToNat, Nat.reduceSub, Nat.reduceLT, Nat.reduceLeDiff, Int.reduceLE, Int.reduceLT, reduceCtorEq]
  have h7 : s' 7 = .dat none (ints l) := by rw [ho 7 rfl]; simp only [go_sem, ↓reduceIte, Nat.reduceEqDiff, Nat.reduceAdd, Nat.reduceMul, Nat.reduceBEq, Option.getD_none, Int.reduceToNat, Nat.reduceSub, Nat.reduceLT, Nat.reduceLeDiff, Int.reduceLE, Int.reduceLT, reduceCtorEq]
  have h8 : s' 8 = aI l.length := by rw [ho 8 rfl]; simp only [go_sem, ↓reduceIte, Nat.reduceEqDiff, Nat.reduceAdd, Nat.reduceMul, Nat.reduceBEq, Option.getD_none, Int.reduceToNat, Nat.reduceSub, Nat.reduceLT, Nat.reduceLeDiff, Int.reduceLE, Int.reduceLT, reduceCtorEq]
  clear ho
  unfold impl_areFacts.b0
  by_cases hlt : k < l.length
  · have hi' : (k : Int) < l.length := by omega
    have ga : l[k]? = some l[k] := List.getElem?_eq_getElem hlt
    have gd : l.getD k 0 = l[k] := by simp [hlt]
    have hw : IntKind.i64.wrap (k + 1) = ((k + 1 : Nat) : Int) := wrap_k hlt (by omega)
    simp only [go_sem, ↓reduceIte, Nat.reduceEqDiff, Nat.reduceAdd, Nat.reduceMul, Nat.reduceBEq, Option.getD_none, Int.reduceToNat, Nat.reduceSub, Nat.reduceLT, Nat.reduceLeDiff, Int.reduceLE, Int.reduceLT, reduceCtorEq, h0, h1, h7, h8, h9, hi', ga]
    refine fcW_bool (impl_in.fc _ _ _) ?_
    cases hin : inB l[k] 1 hi with
    | false =>
      have hn : rising 1 hi l = false := ris_not hlt (by simp only [risAt, gd, hin, Bool.false_and])
      simp only [go_sem, ↓reduceIte, Nat.reduceEqDiff, Nat.reduceAdd, Nat.reduceMul, Nat.reduceBEq, Option.getD_none, Int.reduceToNat, Nat.reduceSub, Nat.reduceLT, Nat.reduceLeDiff, Int.reduceLE, Int.reduceLT, reduceCtorEq, hn]
    | true =>
      by_cases hk0 : 0 < k
      · have hk0' : (k : Int) > 0 := by omega
        have gb : l[k - 1]? = some l[k - 1] := List.getElem?_eq_getElem (by omega)
        have gd1 : l.getD (k - 1) 0 = l[k - 1] := by rw [List.getD_eq_getElem?_getD, gb]; rfl
        have hw1 : IntKind.i64.wrap (k - 1) = ((k - 1 : Nat) : Int) := by rw [wrap_in (by omega) (by omega)]; omega
        have hi1 : ((k - 1 : Nat) : Int) < l.length := by omega
        have hr2 : risAt 1 hi l k = !decide (l[k - 1] ≥ l[k]) := by simp only [risAt, gd, gd1, hin, hk0, decide_true, Bool.true_and, ge_iff_le]
        simp only [go_sem, ↓reduceIte, Nat.reduceEqDiff, Nat.reduceAdd, Nat.reduceMul, Nat.reduceBEq, Option.getD_none, Int.reduceToNat, Nat.reduceSub, Nat.reduceLT, Nat.reduceLeDiff, Int.reduceLE, Int.reduceLT, reduceCtorEq, h0, h1, h7, h8, h9, hk0', gb, hw1, hi1]
        refine cdW_dec (fun e => ?_) (fun e => ?_)
        · have hn : rising 1 hi l = false := ris_not hlt (by rw [hr2, decide_eq_true e]; rfl)
          simp only [go_sem, ↓reduceIte, Nat.reduceEqDiff, Nat.reduceAdd, Nat.reduceMul, Nat.reduceBEq, Option.getD_none, Int.reduceToNat, Nat.reduceSub, Nat.reduceLT, Nat.reduceLeDiff, Int.reduceLE, Int.reduceLT, reduceCtorEq, hn]
        · simp only [go_sem, ↓reduceIte, Nat.reduceEqDiff, Nat.reduceAdd, Nat.reduceMul, Nat.reduceBEq, Option.getD_none, Int.reduceToNat, Nat.reduceSub, Nat.reduceLT, Nat.reduceLeDiff, Int.reduceLE, Int.reduceLT, reduceCtorEq, h9, hw]
          exact ⟨k + 1, by dsimp only; omega, by omega, by simp only [go_sem, ↓reduceIte, Nat.reduceEqDiff, Nat.reduceAdd, Nat.reduceMul, Nat.reduceBEq, Option.getD_none, Int.reduceToNat, Nat.reduceSub, Nat.reduceLT, Nat.reduceLeDiff, Int.reduceLE, Int.reduceLT, reduceCtorEq], ris_step hr (by rw [hr2, decide_eq_false e]; rfl)⟩
      · have hk0' : ¬ (k : Int) > 0 := by omega
        simp only [go_sem, ↓reduceIte, Nat.reduceEqDiff, Nat.reduceAdd, Nat.reduceMul, Nat.reduceBEq, Option.getD_none, Int.reduceToNat, Nat.reduceSub, Nat.reduceLT, Nat.reduceLeDiff, Int.reduceLE, Int.reduceLT, reduceCtorEq, h0, h1, h7, h8, h9, hk0', hw]
        exact ⟨k + 1, by dsimp only; omega, by omega, by simp only [go_sem, ↓reduceIte, Nat.reduceEqDiff, Nat.reduceAdd, Nat.reduceMul, Nat.reduceBEq, Option.getD_none, Int.reduceToNat, Nat.reduceSub, Nat.reduceLT, Nat.reduceLeDiff, Int.reduceLE, Int.reduceLT, reduceCtorEq], ris_step hr (by simp only [risAt, gd, hin, hk0, decide_false, Bool.false_and, Bool.not_false, Bool.and_true])⟩
  · have hi' : ¬ (k : Int) < l.length := by omega
    have hkl : k = l.length := by omega
    subst hkl
    simp only [go_sem, ↓reduceIte, Nat.reduceEqDiff, Nat.reduceAdd, Nat.reduceMul, Nat.reduceBEq, Option.getD_none, Int.reduceToNat, Nat.reduceSub, Nat.reduceLT, Nat.reduceLeDiff, Int.reduceLE, Int.reduceLT, reduceCtorEq, h0, h1, h7, h8, h9, hi']
    exact congrArg D.bool hr.symm

end Go.Vm.Ytedcnkglldmkbaa
/- Walks: valid rules; rules are compared. -/
namespace Go.Vm.Ytedcnkglldmkbaa
open Go Go.Vm
set_option maxRecDepth 10000
set_option linter.unusedSimpArgs false
set_option linter.unusedVariables false

end Go.Vm.Ytedcnkglldmkbaa
/- Walks: results are marked and read again. -/
namespace Go.Vm.Ytedcnkglldmkbaa
open Go Go.Vm
set_option maxRecDepth 10000
set_option linter.unusedSimpArgs false
set_option linter.unusedVariables false

end Go.Vm.Ytedcnkglldmkbaa
/- Walks: intervals and known bits, reduced by each other. -/
namespace Go.Vm.Ytedcnkglldmkbaa
open Go Go.Vm
set_option maxRecDepth 10000
set_option linter.unusedSimpArgs false
set_option linter.unusedVariables false

abbrev pr (a b : Int) : D := .agg [Ii a, Ii b]
end Go.Vm.Ytedcnkglldmkbaa
/- Walks: arcs. -/
namespace Go.Vm.Ytedcnkglldmkbaa
open Go Go.Vm
set_option maxRecDepth 10000
set_option linter.unusedSimpArgs false
set_option linter.unusedVariables false

abbrev arcD (a : Int × Int) : D := pr a.1 a.2
abbrev arcs (l : List (Int × Int)) : D := .sl 2 (l.map arcD)
end Go.Vm.Ytedcnkglldmkbaa
/- Walks: valid arcs. -/
namespace Go.Vm.Ytedcnkglldmkbaa
open Go Go.Vm
set_option maxRecDepth 10000
set_option linter.unusedSimpArgs false
set_option linter.unusedVariables false

end Go.Vm.Ytedcnkglldmkbaa
/- Walks: rows of rows; clauses. -/
namespace Go.Vm.Ytedcnkglldmkbaa
open Go Go.Vm
set_option maxRecDepth 10000
set_option linter.unusedSimpArgs false
set_option linter.unusedVariables false

theorem slices_IndexFunc__sint_int.fc (l : List Int) (f : FuncId) (caps : List D) (p : Int → Bool) (hl : l.length ≤ 4294967296)
    (h : ∀ x ∈ l, FCt prog f (.ro :: caps.map fun _ => .ro) (Ii x :: caps) (Bb (p x)) []) : FCt prog F_slices_IndexFunc__sint_int [.ro, .ro] [ints l, .clo f caps] (Ii (idxB p l)) [] := by
  refine fct_run slices_IndexFunc__sint_int.ok rfl ?_
  simp only [go_sem, ↓reduceIte, Nat.reduceEqDiff, Nat.reduceAdd, Nat.reduceMul, Nat.reduceBEq, Option.getD_none, Int.reduceToNat, Nat.reduceSub, Nat.reduceLT, Nat.reduceLeDiff, Int.reduceLE, Int.reduceLT, reduceCtorEq]
  refine R_loop (α := Nat) (fun k s' M' => k ≤ l.length ∧ s' 8 = aI k ∧ (l.take k).all (fun x => !p x) = true) (fun k => l.length - k) 0 ⟨by omega, by simp only [go_sem, ↓reduceIte, Nat.reduceEqDiff, Nat.reduceAdd, Nat.reduceMul, Nat.reduceBEq, Option.getD_none, Int.reduceToNat, Nat.reduceSub, Nat.reduceLT, Nat.reduceLeDiff, Int.reduceLE, Int.reduceLT, reduceCtorEq]; rfl, by simp⟩ ?_
  rintro k s' M' ⟨hk, h8, hr⟩ ho
  have h0 : s' 0 = .dat none (ints l) := by rw [ho 0 rfl]; simp only [go_sem, ↓reduceIte, Nat.reduceEqDiff, Nat.reduceAdd, Nat.reduceMul, Nat.reduceBEq, Option.getD_none, Int.reduceToNat, Nat.reduceSub, Nat.reduceLT, Nat.reduceLeDiff, Int.reduceLE, Int.reduceLT, reduceCtorEq]
  have h1 : s' 1 = .clo f (caps.map bindC) := by rw [ho 1 rfl]; simp only [go_sem, ↓reduceIte, Nat.reduceEqDiff, Nat.reduceAdd, Nat.reduceMul, Nat.reduceBEq, Option.getD_none, Int.reduceToNat, Nat.reduceSub, Nat.reduceLT, Nat.reduceLeDiff, Int.reduceLE, Int.reduceLT, reduceCtorEq]
  have h7 : s' 7 = aI l.length := by rw [ho 7 rfl]; simp only [go_sem, ↓reduceIte, Nat.reduceEqDiff, Nat.reduceAdd, Nat.reduceMul, Nat.reduceBEq, Option.getD_none, Int.reduceToNat, Nat.reduceSub, Nat.reduceLT, Nat.reduceLeDiff, Int.reduceLE, Int.reduceLT, reduceCtorEq]
  clear ho
  unfold slices_IndexFunc__sint_int.b0
  by_cases hlt : k < l.length
  · have hi' : (k : Int) < l.length := by omega
    have ga : l[k]? = some l[k] := List.getElem?_eq_getElem hlt
    have hw : IntKind.i64.wrap (k + 1) = ((k + 1 : Nat) : Int) := wrap_k hlt (by omega)
    simp only [go_sem, ↓reduceIte, Nat.reduceEqDiff, Nat.reduceAdd, Nat.reduceMul, Nat.reduceBEq, Option.getD_none, Int.reduceToNat, Nat.reduceSub, Nat.reduceLT, Nat.reduceLeDiff, Int.reduceLE, Int.reduceLT, reduceCtorEq, h0, h1, h7, h8, hi', ga]
    refine ccl_ro (ds := [Ii l[k]]) (by simp only [go_sem, ↓reduceIte, Nat.reduceEqDiff, Nat.reduceAdd, Nat.reduceMul, Nat.reduceBEq, Option.getD_none, Int.reduceToNat, Nat.reduceSub, Nat.reduceLT, Nat.reduceLeDiff, Int.reduceLE, Int.reduceLT, reduceCtorEq]) ?_
    refine fcW_bool (h _ (List.getElem_mem hlt)) ?_
    cases hp : p l[k] with
    | true => simp only [go_sem, ↓reduceIte, Nat.reduceEqDiff, Nat.reduceAdd, Nat.reduceMul, Nat.reduceBEq, Option.getD_none, Int.reduceToNat, Nat.reduceSub, Nat.reduceLT, Nat.reduceLeDiff, Int.reduceLE, Int.reduceLT, reduceCtorEq, idxB_some hlt hr hp]
    | false =>
      simp only [go_sem, ↓reduceIte, Nat.reduceEqDiff, Nat.reduceAdd, Nat.reduceMul, Nat.reduceBEq, Option.getD_none, Int.reduceToNat, Nat.reduceSub, Nat.reduceLT, Nat.reduceLeDiff, Int.reduceLE, Int.reduceLT, reduceCtorEq, h8, hw]
      exact ⟨k + 1, by dsimp only; omega, by omega, by simp only [go_sem, ↓reduceIte, Nat.reduceEqDiff, Nat.reduceAdd, Nat.reduceMul, Nat.reduceBEq, Option.getD_none, Int.reduceToNat, Nat.reduceSub, Nat.reduceLT, Nat.reduceLeDiff, Int.reduceLE, Int.reduceLT, reduceCtorEq], all_take hlt hr (by simp [hp])⟩
  · have hi' : ¬ (k : Int) < l.length := by omega
    rw [List.take_of_length_le (by omega)] at hr
    simp only [go_sem, ↓reduceIte, Nat.reduceEqDiff, Nat.reduceAdd, Nat.reduceMul, Nat.reduceBEq, Option.getD_none, Int.reduceToNat, Nat.reduceSub, Nat.reduceLT, Nat.reduceLeDiff, Int.reduceLE, Int.reduceLT, reduceCtorEq, h0, h1, h7, h8, hi', idxB_none hr]
theorem spec_l1Has.fc (l : List Int) (n : Int) (hl : l.length ≤ 4294967296) : FCt prog F_spec_l1Has [.ro, .ro] [ints l, Ii n] (Bb (l.any (· == n))) [] := by
  refine fct_run spec_l1Has.ok rfl ?_
  simp only [go_sem, ↓reduceIte, Nat.reduceEqDiff, Nat.reduceAdd, Nat.reduceMul, Nat.reduceBEq, Option.getD_none, Int.reduceToNat, Nat.reduceSub, Nat.reduceLT, Nat.reduceLeDiff, Int.reduceLE, Int.reduceLT, reduceCtorEq]
  refine R_loop (α := Nat) (fun k s' M' => k ≤ l.length ∧ s' 9 = aI k ∧ (l.take k).all (fun x => !(x == n)) = true) (fun k => l.length - k) 0 ⟨by omega, by simp only [go_sem, ↓reduceIte, Nat.reduceEqDiff, Nat.reduceAdd, Nat.reduceMul, Nat.reduceBEq, Option.getD_none, Int.reduceToNat, Nat.reduceSub, Nat.reduceLT, Nat.reduceLeDiff, Int.reduceLE, Int.reduceLT, reduceCtorEq]; rfl, by simp⟩ ?_
  rintro k s' M' ⟨hk, h9, hr⟩ ho
  have h1 : s' 1 = aI n := by rw [ho 1 rfl]; simp only [go_sem, ↓reduceIte, Nat.reduceEqDiff, Nat.reduceAdd, Nat.reduceMul, Nat.reduceBEq, Option.getD_none, Int.reduceToNat, Nat.reduceSub, Nat.reduceLT, Nat.reduceLeDiff, Int.reduceLE, Int.reduceLT, reduceCtorEq]
  have h7 : s' 7 = .dat none (ints l) := by rw [ho 7 rfl]; simp only [go_sem, ↓reduceIte, Nat.reduceEqDiff, Nat.reduceAdd, Nat.reduceMul, Nat.reduceBEq, Option.getD_none, Int.reduceToNat, Nat.reduceSub, Nat.reduceLT, Nat.reduceLeDiff, Int.reduceLE, Int.reduceLT, reduceCtorEq]
  have h8 : s' 8 = aI l.length := by rw [ho 8 rfl]; simp only [go_sem, ↓reduceIte, Nat.reduceEqDiff, Nat.reduceAdd, Nat.reduceMul, Nat.reduceBEq, Option.getD_none, Int.reduceToNat, Nat.reduceSub, Nat.reduceLT, Nat.reduceLeDiff, Int.reduceLE, Int.reduceLT, reduceCtorEq]
  clear ho
  unfold spec_l1Has.b0
  by_cases hlt : k < l.length
  · have hi' : (k : Int) < l.length := by omega
    have ga : l[k]? = some l[k] := List.getElem?_eq_getElem hlt
    have hw : IntKind.i64.wrap (k + 1) = ((k + 1 : Nat) : Int) := wrap_k hlt (by omega)
    simp only [go_sem, ↓reduceIte, Nat.reduceEqDiff, Nat.reduceAdd, Nat.reduceMul, Nat.reduceBEq, Option.getD_none, Int.reduceToNat, Nat.reduceSub, Nat.reduceLT, Nat.reduceLeDiff, Int.reduceLE, Int.reduceLT, reduceCtorEq, h1, h7, h8, h9, hi', ga]
    refine cdW_any (fun e => ?_) (fun e => ?_)
    · have : l.any (· == n) = true := List.any_eq_true.2 ⟨l[k], List.getElem_mem hlt, e⟩
      simp only [go_sem, ↓reduceIte, Nat.reduceEqDiff, Nat.reduceAdd, Nat.reduceMul, Nat.reduceBEq, Option.getD_none, Int.reduceToNat, Nat.reduceSub, Nat.reduceLT, Nat.reduceLeDiff, Int.reduceLE, Int.reduceLT, reduceCtorEq, this]
    · simp only [go_sem, ↓reduceIte, Nat.reduceEqDiff, Nat.reduceAdd, Nat.reduceMul, Nat.reduceBEq, Option.getD_none, Int.reduceToNat, Nat.reduceSub, Nat.reduceLT, Nat.reduceLeDiff, Int.reduceLE, Int.reduceLT, reduceCtorEq, h9, hw]
      exact ⟨k + 1, by dsimp only; omega, by omega, by simp only [go_sem, ↓reduceIte, Nat.reduceEqDiff, Nat.reduceAdd, Nat.reduceMul, Nat.reduceBEq, Option.getD_none, Int.reduceToNat, Nat.reduceSub, Nat.reduceLT, Nat.reduceLeDiff, Int.reduceLE, Int.reduceLT, reduceCtorEq], all_take hlt hr (by simp [e])⟩
  · have hi' : ¬ (k : Int) < l.length := by omega
    rw [List.take_of_length_le (by omega)] at hr
    have : l.any (· == n) = false := by
      rw [List.any_eq_false]; intro x hx; have := List.all_eq_true.1 hr x hx; simpa using this
    simp only [go_sem, ↓reduceIte, Nat.reduceEqDiff, Nat.reduceAdd, Nat.reduceMul, Nat.reduceBEq, Option.getD_none, Int.reduceToNat, Nat.reduceSub, Nat.reduceLT, Nat.reduceLeDiff, Int.reduceLE, Int.reduceLT, reduceCtorEq, h1, h7, h8, h9, hi', this]
end Go.Vm.Ytedcnkglldmkbaa
/- Walks: sorted rows. -/
namespace Go.Vm.Ytedcnkglldmkbaa
open Go Go.Vm
set_option maxRecDepth 10000
set_option linter.unusedSimpArgs false
set_option linter.unusedVariables false

end Go.Vm.Ytedcnkglldmkbaa
/- Walks: what is reached. -/
namespace Go.Vm.Ytedcnkglldmkbaa
open Go Go.Vm
set_option maxRecDepth 10000
set_option linter.unusedSimpArgs false
set_option linter.unusedVariables false

end Go.Vm.Ytedcnkglldmkbaa
/- Walks: facts and rules that hold. -/
namespace Go.Vm.Ytedcnkglldmkbaa
open Go Go.Vm
set_option maxRecDepth 10000
set_option linter.unusedSimpArgs false
set_option linter.unusedVariables false

def hasI (so : List Int) (x : Int) : Bool := so.any (· == x)
end Go.Vm.Ytedcnkglldmkbaa
/- Walks: lists of the places where a condition holds. -/
namespace Go.Vm.Ytedcnkglldmkbaa
open Go Go.Vm
set_option maxRecDepth 10000
set_option linter.unusedSimpArgs false
set_option linter.unusedVariables false

end Go.Vm.Ytedcnkglldmkbaa
/- Walks: what is reached, by rows of marks. -/
namespace Go.Vm.Ytedcnkglldmkbaa
open Go Go.Vm
set_option maxRecDepth 10000
set_option linter.unusedSimpArgs false
set_option linter.unusedVariables false

end Go.Vm.Ytedcnkglldmkbaa
/- Plain law: rows of marks and sorted rows. -/
namespace Go.Vm.Ytedcnkglldmkbaa
open Go Go.Vm
set_option maxRecDepth 10000
set_option linter.unusedSimpArgs false
set_option linter.unusedVariables false

end Go.Vm.Ytedcnkglldmkbaa
/- Walks: what is reached within so many steps. -/
namespace Go.Vm.Ytedcnkglldmkbaa
open Go Go.Vm
set_option maxRecDepth 10000
set_option linter.unusedSimpArgs false
set_option linter.unusedVariables false

end Go.Vm.Ytedcnkglldmkbaa
/- Walks: arcs that lead back. -/
namespace Go.Vm.Ytedcnkglldmkbaa
open Go Go.Vm
set_option maxRecDepth 10000
set_option linter.unusedSimpArgs false
set_option linter.unusedVariables false

end Go.Vm.Ytedcnkglldmkbaa
/- Walks: the laws' own helpers, in one form. -/
namespace Go.Vm.Ytedcnkglldmkbaa
open Go Go.Vm
set_option maxRecDepth 10000
set_option linter.unusedSimpArgs false
set_option linter.unusedVariables false

theorem hasSl {α : Type} {f : α → D} {p : α → Prop} {T : Ty} (one : ∀ x, HasTy T x → ∃ a, x = f a ∧ p a) {d : D} (h : HasTy (.sl T) d) : ∃ l : List α, d = .sl T.cells (l.map f) ∧ l.length ≤ 9223372036854775807 ∧ ∀ a ∈ l, p a := by
  simp only [HasTy] at h
  obtain ⟨xs, rfl, hl, h⟩ := h
  have : ∀ xs : List D, (∀ x ∈ xs, HasTy T x) → ∃ l : List α, xs = l.map f ∧ ∀ a ∈ l, p a := by
    intro xs
    induction xs with
    | nil => intro _; exact ⟨[], rfl, by simp⟩
    | cons x xs ih =>
      intro h
      obtain ⟨a, rfl, hp⟩ := one x (h x List.mem_cons_self)
      obtain ⟨l, rfl, hl⟩ := ih fun y hy => h y (List.mem_cons_of_mem _ hy)
      exact ⟨a :: l, rfl, fun b hb => by
        rcases List.mem_cons.1 hb with rfl | hb
        · exact hp
        · exact hl b hb⟩
  obtain ⟨l, rfl, hp⟩ := this xs h
  exact ⟨l, rfl, by simpa [maxLen] using hl, hp⟩
def mkIntS (n : Int) (l : List Int) : List Int := upFrom n l.length
theorem mkIntS_len {n : Int} {l : List Int} : (mkIntS n l).length = l.length := by simp [mkIntS, upFrom_len]
theorem mkIntS_take {n : Int} {l : List Int} : ((mkIntS n l).map Ii).take l.length = (mkIntS n l).map Ii := List.take_of_length_le (by simp [mkIntS_len])
theorem hasIntS {d : D} (h : HasTy (.sl (.int .i64)) d) : ∃ l : List Int, d = ints l ∧ l.length ≤ 9223372036854775807 := by
  obtain ⟨l, rfl, hl, hp⟩ := hasSl (f := Ii) (p := fun x => True) (fun x h => by obtain ⟨a, rfl, _⟩ := hasInt h; exact ⟨a, rfl, trivial⟩) h
  exact ⟨l, rfl, hl⟩
theorem laws_toIntS.fcu (x : List Int) (h : x.length ≤ 1048576) :
    FCt prog F_laws_toIntS [.ro] [ints x] (ints x) [] := by
  refine fct_run laws_toIntS.ok rfl ?_
  have h0 := h
  have c1 : (x.length : Int) * (8 : Nat) ≤ 70368744177664 := by omega
  simp only [go_sem, ↓reduceIte, Nat.reduceEqDiff, Nat.reduceAdd, Nat.reduceMul, Nat.reduceBEq, Option.getD_none, Int.reduceToNat, Nat.reduceSub, Nat.reduceLT, Nat.reduceLeDiff, Int.reduceLE, Int.reduceLT, reduceCtorEq, Int.le_refl, c1]
  refine R_loop (α := Nat) (fun k s' M' => k ≤ x.length ∧ s' 4 = aI k ∧ ∃ v, s' 3 = .sl 256 v 0 x.length 1 ∧ M'.m 256 = some (.arr v true 1 (fill Ii (Ii 0) x k))) (fun k => x.length - k) 0
    ⟨by omega, by simp only [go_sem, ↓reduceIte, Nat.reduceEqDiff, Nat.reduceAdd, Nat.reduceMul, Nat.reduceBEq, Option.getD_none, Int.reduceToNat, Nat.reduceSub, Nat.reduceLT, Nat.reduceLeDiff, Int.reduceLE, Int.reduceLT, reduceCtorEq]; rfl, _, by simp only [go_sem, ↓reduceIte, Nat.reduceEqDiff, Nat.reduceAdd, Nat.reduceMul, Nat.reduceBEq, Option.getD_none, Int.reduceToNat, Nat.reduceSub, Nat.reduceLT, Nat.reduceLeDiff, Int.reduceLE, Int.reduceLT, reduceCtorEq]; rfl, by simp only [go_sem, ↓reduceIte, Nat.reduceEqDiff, Nat.reduceAdd, Nat.reduceMul, Nat.reduceBEq, Option.getD_none, Int.reduceToNat, Nat.reduceSub, Nat.reduceLT, Nat.reduceLeDiff, Int.reduceLE, Int.reduceLT, reduceCtorEq]; rw [fill_zero]⟩ ?_
  rintro k s' M' ⟨hk, h4, v, h3, hm⟩ ho
  unfold laws_toIntS.b0
  have k0 : s' 0 = .dat none (ints x) := by rw [ho 0 rfl]; simp only [go_sem, ↓reduceIte, Nat.reduceEqDiff, Nat.reduceAdd, Nat.reduceMul, Nat.reduceBEq, Option.getD_none, Int.reduceToNat, Nat.reduceSub, Nat.reduceLT, Nat.reduceLeDiff, Int.reduceLE, Int.reduceLT, reduceCtorEq]
  clear ho
  by_cases hlt : k < x.length
  · have hi' : (k : Int) < x.length := by omega
    have ga : x[k]? = some x[k] := List.getElem?_eq_getElem hlt
    have hw : IntKind.i64.wrap (k + 1) = ((k + 1 : Nat) : Int) := wrap_k hlt (by omega)
    have hf := fill_get (f := Ii) (z := (Ii 0)) hlt
    simp only [go_sem, ↓reduceIte, Nat.reduceEqDiff, Nat.reduceAdd, Nat.reduceMul, Nat.reduceBEq, Option.getD_none, Int.reduceToNat, Nat.reduceSub, Nat.reduceLT, Nat.reduceLeDiff, Int.reduceLE, Int.reduceLT, reduceCtorEq, h4, h3, hi', ga, hw, hm, hf, k0]
    refine ⟨k + 1, by dsimp only; omega, by omega, by simp only [go_sem, ↓reduceIte, Nat.reduceEqDiff, Nat.reduceAdd, Nat.reduceMul, Nat.reduceBEq, Option.getD_none, Int.reduceToNat, Nat.reduceSub, Nat.reduceLT, Nat.reduceLeDiff, Int.reduceLE, Int.reduceLT, reduceCtorEq, k0], v, by simp only [go_sem, ↓reduceIte, Nat.reduceEqDiff, Nat.reduceAdd, Nat.reduceMul, Nat.reduceBEq, Option.getD_none, Int.reduceToNat, Nat.reduceSub, Nat.reduceLT, Nat.reduceLeDiff, Int.reduceLE, Int.reduceLT, reduceCtorEq, h3, k0], by simp only [go_sem, ↓reduceIte, Nat.reduceEqDiff, Nat.reduceAdd, Nat.reduceMul, Nat.reduceBEq, Option.getD_none, Int.reduceToNat, Nat.reduceSub, Nat.reduceLT, Nat.reduceLeDiff, Int.reduceLE, Int.reduceLT, reduceCtorEq, k0]; rw [← fill_set hlt]⟩
  · have hi' : ¬ (k : Int) < x.length := by omega
    obtain rfl : k = x.length := by omega
    have hlen := fill_len (f := Ii) (z := (Ii 0)) (Nat.le_refl x.length)
    simp only [go_sem, ↓reduceIte, Nat.reduceEqDiff, Nat.reduceAdd, Nat.reduceMul, Nat.reduceBEq, Option.getD_none, Int.reduceToNat, Nat.reduceSub, Nat.reduceLT, Nat.reduceLeDiff, Int.reduceLE, Int.reduceLT, reduceCtorEq, h4, h3, hi', hm, hlen, k0]
    simp only [fill_all, mkR_one, take_map_len]
theorem laws_eqIntS.fcu (x : List Int) (h : x.length ≤ 1048576) :
    FCt prog F_laws_eqIntS [.ro, .ro] [ints x, ints x] (Bb true) [] := by
  refine fct_run laws_eqIntS.ok rfl ?_
  have h0 := h
  simp only [go_sem, ↓reduceIte, Nat.reduceEqDiff, Nat.reduceAdd, Nat.reduceMul, Nat.reduceBEq, Option.getD_none, Int.reduceToNat, Nat.reduceSub, Nat.reduceLT, Nat.reduceLeDiff, Int.reduceLE, Int.reduceLT, reduceCtorEq]
  refine R_loop (α := Nat) (fun k s' M' => k ≤ x.length ∧ s' 5 = aI k) (fun k => x.length - k) 0 ⟨by omega, by simp only [go_sem, ↓reduceIte, Nat.reduceEqDiff, Nat.reduceAdd, Nat.reduceMul, Nat.reduceBEq, Option.getD_none, Int.reduceToNat, Nat.reduceSub, Nat.reduceLT, Nat.reduceLeDiff, Int.reduceLE, Int.reduceLT, reduceCtorEq]; rfl⟩ ?_
  rintro k s' M' ⟨hk, h5⟩ ho
  unfold laws_eqIntS.b0
  have k0 : s' 0 = .dat none (ints x) := by rw [ho 0 rfl]; simp only [go_sem, ↓reduceIte, Nat.reduceEqDiff, Nat.reduceAdd, Nat.reduceMul, Nat.reduceBEq, Option.getD_none, Int.reduceToNat, Nat.reduceSub, Nat.reduceLT, Nat.reduceLeDiff, Int.reduceLE, Int.reduceLT, reduceCtorEq]
  have k1 : s' 1 = .dat none (ints x) := by rw [ho 1 rfl]; simp only [go_sem, ↓reduceIte, Nat.reduceEqDiff, Nat.reduceAdd, Nat.reduceMul, Nat.reduceBEq, Option.getD_none, Int.reduceToNat, Nat.reduceSub, Nat.reduceLT, Nat.reduceLeDiff, Int.reduceLE, Int.reduceLT, reduceCtorEq]
  clear ho
  by_cases hlt : k < x.length
  · have hi' : (k : Int) < x.length := by omega
    have ga : x[k]? = some x[k] := List.getElem?_eq_getElem hlt
    have hw : IntKind.i64.wrap (k + 1) = ((k + 1 : Nat) : Int) := wrap_k hlt (by omega)
    simp only [go_sem, ↓reduceIte, Nat.reduceEqDiff, Nat.reduceAdd, Nat.reduceMul, Nat.reduceBEq, Option.getD_none, Int.reduceToNat, Nat.reduceSub, Nat.reduceLT, Nat.reduceLeDiff, Int.reduceLE, Int.reduceLT, reduceCtorEq, h5, hi', ga, hw, k0, k1]
    exact ⟨k + 1, by dsimp only; omega, by omega, by simp only [go_sem, ↓reduceIte, Nat.reduceEqDiff, Nat.reduceAdd, Nat.reduceMul, Nat.reduceBEq, Option.getD_none, Int.reduceToNat, Nat.reduceSub, Nat.reduceLT, Nat.reduceLeDiff, Int.reduceLE, Int.reduceLT, reduceCtorEq, k0, k1]⟩
  · have hi' : ¬ (k : Int) < x.length := by omega
    obtain rfl : k = x.length := by omega
    simp only [go_sem, ↓reduceIte, Nat.reduceEqDiff, Nat.reduceAdd, Nat.reduceMul, Nat.reduceBEq, Option.getD_none, Int.reduceToNat, Nat.reduceSub, Nat.reduceLT, Nat.reduceLeDiff, Int.reduceLE, Int.reduceLT, reduceCtorEq, h5, hi', k0, k1]
theorem laws_markIntS.fcu (x : List Int) (n : Int) (h : x.length ≤ 1048576) (hc : x.length ≤ 16777216) (hn : 0 ≤ n ∧ n + (x.length : Nat) ≤ 576460752303423488) :
    FCt prog F_laws_markIntS [.io, .ro] [ints x, Ii n] (Ii (n + (x.length : Nat))) [ints (mkIntS n x)] := by
  refine fct_run laws_markIntS.ok rfl ?_
  have hL : ((mkIntS n x).map Ii).length = (x.map Ii).length := by simp [mkIntS_len]
  simp only [go_sem, ↓reduceIte, Nat.reduceEqDiff, Nat.reduceAdd, Nat.reduceMul, Nat.reduceBEq, Option.getD_none, Int.reduceToNat, Nat.reduceSub, Nat.reduceLT, Nat.reduceLeDiff, Int.reduceLE, Int.reduceLT, reduceCtorEq]
  refine R_loop (α := Nat) (fun k s' M' => k ≤ x.length ∧ s' 5 = aI k ∧ s' 1 = aI (n + k) ∧ M'.m 0 = some (.arr 0 true 1 (ovr ((mkIntS n x).map Ii) (x.map Ii) k))) (fun k => x.length - k) 0
    ⟨by omega, by simp only [go_sem, ↓reduceIte, Nat.reduceEqDiff, Nat.reduceAdd, Nat.reduceMul, Nat.reduceBEq, Option.getD_none, Int.reduceToNat, Nat.reduceSub, Nat.reduceLT, Nat.reduceLeDiff, Int.reduceLE, Int.reduceLT, reduceCtorEq]; rfl, by simp only [go_sem, ↓reduceIte, Nat.reduceEqDiff, Nat.reduceAdd, Nat.reduceMul, Nat.reduceBEq, Option.getD_none, Int.reduceToNat, Nat.reduceSub, Nat.reduceLT, Nat.reduceLeDiff, Int.reduceLE, Int.reduceLT, reduceCtorEq]; simp, by simp only [go_sem, ↓reduceIte, Nat.reduceEqDiff, Nat.reduceAdd, Nat.reduceMul, Nat.reduceBEq, Option.getD_none, Int.reduceToNat, Nat.reduceSub, Nat.reduceLT, Nat.reduceLeDiff, Int.reduceLE, Int.reduceLT, reduceCtorEq]; simp [ovr_zero]⟩ ?_
  rintro k s' M' ⟨hk, h5, h1, hm⟩ ho
  unfold laws_markIntS.b0
  have k0 : s' 0 = .sl 0 0 0 x.length 1 := by rw [ho 0 rfl]; simp only [go_sem, ↓reduceIte, Nat.reduceEqDiff, Nat.reduceAdd, Nat.reduceMul, Nat.reduceBEq, Option.getD_none, Int.reduceToNat, Nat.reduceSub, Nat.reduceLT, Nat.reduceLeDiff, Int.reduceLE, Int.reduceLT, reduceCtorEq]
  clear ho
  by_cases hlt : k < x.length
  · have hi' : (k : Int) < x.length := by omega
    have ga : x[k]? = some x[k] := List.getElem?_eq_getElem hlt
    have hw : IntKind.i64.wrap (k + 1) = ((k + 1 : Nat) : Int) := wrap_k hlt (by omega)
    have hw1 : IntKind.i64.wrap (n + k + 1) = n + (k + 1 : Nat) := by rw [wrap_in (by omega) (by omega)]; try omega
    have hmk : (mkIntS n x)[k]? = some (n + k) := upFrom_get hlt
    have hg : (ovr ((mkIntS n x).map Ii) (x.map Ii) k)[k]? = some (Ii x[k]) := by rw [ovr_get hL (by simpa using hlt)]; simp [hlt]
    have hkl : k < (ovr ((mkIntS n x).map Ii) (x.map Ii) k).length := by rw [ovr_len hL (by simp; omega)]; simpa using hlt
    have hg2 : ∀ d, ((ovr ((mkIntS n x).map Ii) (x.map Ii) k).set k d)[k]? = some d := fun d => by rw [List.getElem?_set, if_pos rfl, if_pos hkl]
    have hs : (ovr ((mkIntS n x).map Ii) (x.map Ii) k).set k (.int .i64 (n + k)) = ovr ((mkIntS n x).map Ii) (x.map Ii) (k + 1) := ovr_set hL (by simpa using hlt) (by rw [List.getElem?_map, hmk]; rfl)
    simp only [go_sem, ↓reduceIte, Nat.reduceEqDiff, Nat.reduceAdd, Nat.reduceMul, Nat.reduceBEq, Option.getD_none, Int.reduceToNat, Nat.reduceSub, Nat.reduceLT, Nat.reduceLeDiff, Int.reduceLE, Int.reduceLT, reduceCtorEq, hi', hw, hw1, hg, hg2, List.set_set, hs, k0, h1, h5, hm]
    exact ⟨k + 1, by dsimp only; omega, by omega, by simp only [go_sem, ↓reduceIte, Nat.reduceEqDiff, Nat.reduceAdd, Nat.reduceMul, Nat.reduceBEq, Option.getD_none, Int.reduceToNat, Nat.reduceSub, Nat.reduceLT, Nat.reduceLeDiff, Int.reduceLE, Int.reduceLT, reduceCtorEq, k0, h1, h5, hm], by simp only [go_sem, ↓reduceIte, Nat.reduceEqDiff, Nat.reduceAdd, Nat.reduceMul, Nat.reduceBEq, Option.getD_none, Int.reduceToNat, Nat.reduceSub, Nat.reduceLT, Nat.reduceLeDiff, Int.reduceLE, Int.reduceLT, reduceCtorEq, k0, h1, h5, hm], by simp only [go_sem, ↓reduceIte, Nat.reduceEqDiff, Nat.reduceAdd, Nat.reduceMul, Nat.reduceBEq, Option.getD_none, Int.reduceToNat, Nat.reduceSub, Nat.reduceLT, Nat.reduceLeDiff, Int.reduceLE, Int.reduceLT, reduceCtorEq, k0, h1, h5, hm]⟩
  · have hi' : ¬ (k : Int) < x.length := by omega
    obtain rfl : k = x.length := by omega
    have hall : ovr ((mkIntS n x).map Ii) (x.map Ii) x.length = (mkIntS n x).map Ii := by have := ovr_all hL; simpa using this
    have htk : ((mkIntS n x).map Ii).take x.length = (mkIntS n x).map Ii := List.take_of_length_le (by simp [mkIntS_len])
    have hce : ((x.length : Nat) : Int) = x.length := by omega
    simp only [go_sem, ↓reduceIte, Nat.reduceEqDiff, Nat.reduceAdd, Nat.reduceMul, Nat.reduceBEq, Option.getD_none, Int.reduceToNat, Nat.reduceSub, Nat.reduceLT, Nat.reduceLeDiff, Int.reduceLE, Int.reduceLT, reduceCtorEq, hi', hall, mkIntS_len, htk, hce, k0, h1, h5, hm]
    try rfl
theorem laws_heldIntS.fcu (x : List Int) (n : Int) (h : x.length ≤ 1048576) (hc : x.length ≤ 16777216) (hn : 0 ≤ n ∧ n + (x.length : Nat) ≤ 576460752303423488) :
    FCt prog F_laws_heldIntS [.ro, .ro] [ints (mkIntS n x), Ii n] (Ii (n + (x.length : Nat))) [] := by
  refine fct_run laws_heldIntS.ok rfl ?_
  simp only [go_sem, ↓reduceIte, Nat.reduceEqDiff, Nat.reduceAdd, Nat.reduceMul, Nat.reduceBEq, Option.getD_none, Int.reduceToNat, Nat.reduceSub, Nat.reduceLT, Nat.reduceLeDiff, Int.reduceLE, Int.reduceLT, reduceCtorEq]
  refine R_loop (α := Nat) (fun k s' M' => k ≤ x.length ∧ s' 5 = aI k ∧ s' 1 = aI (n + k)) (fun k => x.length - k) 0 ⟨by omega, by simp only [go_sem, ↓reduceIte, Nat.reduceEqDiff, Nat.reduceAdd, Nat.reduceMul, Nat.reduceBEq, Option.getD_none, Int.reduceToNat, Nat.reduceSub, Nat.reduceLT, Nat.reduceLeDiff, Int.reduceLE, Int.reduceLT, reduceCtorEq]; rfl, by simp only [go_sem, ↓reduceIte, Nat.reduceEqDiff, Nat.reduceAdd, Nat.reduceMul, Nat.reduceBEq, Option.getD_none, Int.reduceToNat, Nat.reduceSub, Nat.reduceLT, Nat.reduceLeDiff, Int.reduceLE, Int.reduceLT, reduceCtorEq]; simp⟩ ?_
  rintro k s' M' ⟨hk, h5, h1⟩ ho
  unfold laws_heldIntS.b0
  have k0 : s' 0 = .dat none (ints (mkIntS n x)) := by rw [ho 0 rfl]; simp only [go_sem, ↓reduceIte, Nat.reduceEqDiff, Nat.reduceAdd, Nat.reduceMul, Nat.reduceBEq, Option.getD_none, Int.reduceToNat, Nat.reduceSub, Nat.reduceLT, Nat.reduceLeDiff, Int.reduceLE, Int.reduceLT, reduceCtorEq]
  clear ho
  by_cases hlt : k < x.length
  · have hi' : (k : Int) < x.length := by omega
    have hw : IntKind.i64.wrap (k + 1) = ((k + 1 : Nat) : Int) := wrap_k hlt (by omega)
    have hw1 : IntKind.i64.wrap (n + k + 1) = n + (k + 1 : Nat) := by rw [wrap_in (by omega) (by omega)]; try omega
    have hmk : (mkIntS n x)[k]? = some (n + k) := upFrom_get hlt
    simp only [go_sem, ↓reduceIte, Nat.reduceEqDiff, Nat.reduceAdd, Nat.reduceMul, Nat.reduceBEq, Option.getD_none, Int.reduceToNat, Nat.reduceSub, Nat.reduceLT, Nat.reduceLeDiff, Int.reduceLE, Int.reduceLT, reduceCtorEq, hi', hw, hw1, hmk, k0, h1, h5, mkIntS_len]
    exact ⟨k + 1, by dsimp only; omega, by omega, by simp only [go_sem, ↓reduceIte, Nat.reduceEqDiff, Nat.reduceAdd, Nat.reduceMul, Nat.reduceBEq, Option.getD_none, Int.reduceToNat, Nat.reduceSub, Nat.reduceLT, Nat.reduceLeDiff, Int.reduceLE, Int.reduceLT, reduceCtorEq, k0, h1, h5, mkIntS_len], by simp only [go_sem, ↓reduceIte, Nat.reduceEqDiff, Nat.reduceAdd, Nat.reduceMul, Nat.reduceBEq, Option.getD_none, Int.reduceToNat, Nat.reduceSub, Nat.reduceLT, Nat.reduceLeDiff, Int.reduceLE, Int.reduceLT, reduceCtorEq, k0, h1, h5, mkIntS_len]⟩
  · have hi' : ¬ (k : Int) < x.length := by omega
    obtain rfl : k = x.length := by omega
    have hce : ((x.length : Nat) : Int) = x.length := by omega
    simp only [go_sem, ↓reduceIte, Nat.reduceEqDiff, Nat.reduceAdd, Nat.reduceMul, Nat.reduceBEq, Option.getD_none, Int.reduceToNat, Nat.reduceSub, Nat.reduceLT, Nat.reduceLeDiff, Int.reduceLE, Int.reduceLT, reduceCtorEq, hi', hce, k0, h1, h5, mkIntS_len]

end Go.Vm.Ytedcnkglldmkbaa
/- Walks: the laws' own helpers, in one form: rules, rows of rows. -/
namespace Go.Vm.Ytedcnkglldmkbaa
open Go Go.Vm
set_option maxRecDepth 10000
set_option linter.unusedSimpArgs false
set_option linter.unusedVariables false

end Go.Vm.Ytedcnkglldmkbaa
/- Walks: what is put into a row that is handed over; the least facts. -/
namespace Go.Vm.Ytedcnkglldmkbaa
open Go Go.Vm
set_option maxRecDepth 10000
set_option linter.unusedSimpArgs false
set_option linter.unusedVariables false

end Go.Vm.Ytedcnkglldmkbaa
/- Walks: do rules hold among facts? -/
namespace Go.Vm.Ytedcnkglldmkbaa
open Go Go.Vm
set_option maxRecDepth 10000
set_option linter.unusedSimpArgs false
set_option linter.unusedVariables false

end Go.Vm.Ytedcnkglldmkbaa
/- Plain law: the least facts. -/
namespace Go.Vm.Ytedcnkglldmkbaa
open Go Go.Vm
set_option maxRecDepth 10000
set_option linter.unusedSimpArgs false
set_option linter.unusedVariables false

end Go.Vm.Ytedcnkglldmkbaa
/- Walks: the least facts. -/
namespace Go.Vm.Ytedcnkglldmkbaa
open Go Go.Vm
set_option maxRecDepth 10000
set_option linter.unusedSimpArgs false
set_option linter.unusedVariables false

end Go.Vm.Ytedcnkglldmkbaa
/- Walks: the least facts by the reference; why a fact holds. -/
namespace Go.Vm.Ytedcnkglldmkbaa
open Go Go.Vm
set_option maxRecDepth 10000
set_option linter.unusedSimpArgs false
set_option linter.unusedVariables false

end Go.Vm.Ytedcnkglldmkbaa
/- Walks: literals and clauses. -/
namespace Go.Vm.Ytedcnkglldmkbaa
open Go Go.Vm
set_option maxRecDepth 10000
set_option linter.unusedSimpArgs false
set_option linter.unusedVariables false

end Go.Vm.Ytedcnkglldmkbaa
/- Walks: rules as clauses. -/
namespace Go.Vm.Ytedcnkglldmkbaa
open Go Go.Vm
set_option maxRecDepth 10000
set_option linter.unusedSimpArgs false
set_option linter.unusedVariables false

theorem slices_Index__sint_int.fc (l : List Int) (x : Int) (hl : l.length ≤ 4294967296) : FCt prog F_slices_Index__sint_int [.ro, .ro] [ints l, Ii x] (Ii (idxB (fun y => x == y) l)) [] := by
  refine fct_run slices_Index__sint_int.ok rfl ?_
  simp only [go_sem, ↓reduceIte, Nat.reduceEqDiff, Nat.reduceAdd, Nat.reduceMul, Nat.reduceBEq, Option.getD_none, Int.reduceToNat, Nat.reduceSub, Nat.reduceLT, Nat.reduceLeDiff, Int.reduceLE, Int.reduceLT, reduceCtorEq]
  refine R_loop (α := Nat) (fun k s' M' => k ≤ l.length ∧ s' 8 = aI k ∧ (l.take k).all (fun y => !(x == y)) = true) (fun k => l.length - k) 0 ⟨by omega, by simp only [go_sem, ↓reduceIte, Nat.reduceEqDiff, Nat.reduceAdd, Nat.reduceMul, Nat.reduceBEq, Option.getD_none, Int.reduceToNat, Nat.reduceSub, Nat.reduceLT, Nat.reduceLeDiff, Int.reduceLE, Int.reduceLT, reduceCtorEq]; rfl, by simp⟩ ?_
  rintro k s' M' ⟨hk, h8, hr⟩ ho
  unfold slices_Index__sint_int.b0
  have k0 : s' 0 = .dat none (ints l) := by rw [ho 0 rfl]; simp only [go_sem, ↓reduceIte, Nat.reduceEqDiff, Nat.reduceAdd, Nat.reduceMul, Nat.reduceBEq, Option.getD_none, Int.reduceToNat, Nat.reduceSub, Nat.reduceLT, Nat.reduceLeDiff, Int.reduceLE, Int.reduceLT, reduceCtorEq]
  have k1 : s' 1 = aI x := by rw [ho 1 rfl]; simp only [go_sem, ↓reduceIte, Nat.reduceEqDiff, Nat.reduceAdd, Nat.reduceMul, Nat.reduceBEq, Option.getD_none, Int.reduceToNat, Nat.reduceSub, Nat.reduceLT, Nat.reduceLeDiff, Int.reduceLE, Int.reduceLT, reduceCtorEq]
  have k7 : s' 7 = aI l.length := by rw [ho 7 rfl]; simp only [go_sem, ↓reduceIte, Nat.reduceEqDiff, Nat.reduceAdd, Nat.reduceMul, Nat.reduceBEq, Option.getD_none, Int.reduceToNat, Nat.reduceSub, Nat.reduceLT, Nat.reduceLeDiff, Int.reduceLE, Int.reduceLT, reduceCtorEq]
  clear ho
  by_cases hlt : k < l.length
  · have hi' : (k : Int) < l.length := by omega
    have ga : l[k]? = some l[k] := List.getElem?_eq_getElem hlt
    have hw : IntKind.i64.wrap (k + 1) = ((k + 1 : Nat) : Int) := wrap_k hlt (by omega)
    simp only [go_sem, ↓reduceIte, Nat.reduceEqDiff, Nat.reduceAdd, Nat.reduceMul, Nat.reduceBEq, Option.getD_none, Int.reduceToNat, Nat.reduceSub, Nat.reduceLT, Nat.reduceLeDiff, Int.reduceLE, Int.reduceLT, reduceCtorEq, hi', ga, k0, k1, k7, h8]
    cases hc : (x == l[k]) with
    | true => simp only [go_sem, ↓reduceIte, Nat.reduceEqDiff, Nat.reduceAdd, Nat.reduceMul, Nat.reduceBEq, Option.getD_none, Int.reduceToNat, Nat.reduceSub, Nat.reduceLT, Nat.reduceLeDiff, Int.reduceLE, Int.reduceLT, reduceCtorEq, idxB_some (p := fun y => x == y) hlt hr hc, k0, k1, k7, h8]
    | false =>
      simp only [go_sem, ↓reduceIte, Nat.reduceEqDiff, Nat.reduceAdd, Nat.reduceMul, Nat.reduceBEq, Option.getD_none, Int.reduceToNat, Nat.reduceSub, Nat.reduceLT, Nat.reduceLeDiff, Int.reduceLE, Int.reduceLT, reduceCtorEq, hw, k0, k1, k7, h8]
      exact ⟨k + 1, by dsimp only; omega, by omega, by simp only [go_sem, ↓reduceIte, Nat.reduceEqDiff, Nat.reduceAdd, Nat.reduceMul, Nat.reduceBEq, Option.getD_none, Int.reduceToNat, Nat.reduceSub, Nat.reduceLT, Nat.reduceLeDiff, Int.reduceLE, Int.reduceLT, reduceCtorEq, k0, k1, k7, h8], all_take hlt hr (by rw [hc]; rfl)⟩
  · have hi' : ¬ (k : Int) < l.length := by omega
    obtain rfl : k = l.length := by omega
    rw [List.take_length] at hr
    simp only [go_sem, ↓reduceIte, Nat.reduceEqDiff, Nat.reduceAdd, Nat.reduceMul, Nat.reduceBEq, Option.getD_none, Int.reduceToNat, Nat.reduceSub, Nat.reduceLT, Nat.reduceLeDiff, Int.reduceLE, Int.reduceLT, reduceCtorEq, hi', idxB_none hr, k0, k1, k7, h8]
theorem slices_Contains__sint_int.fc (l : List Int) (x : Int) (hl : l.length ≤ 4294967296) : FCt prog F_slices_Contains__sint_int [.ro, .ro] [ints l, Ii x] (Bb (l.any (· == x))) [] := by
  refine fct_run slices_Contains__sint_int.ok rfl ?_
  have e : l.any (fun y => x == y) = l.any (· == x) := by congr 1; funext y; rw [Bool.beq_comm]
  simp only [go_sem, ↓reduceIte, Nat.reduceEqDiff, Nat.reduceAdd, Nat.reduceMul, Nat.reduceBEq, Option.getD_none, Int.reduceToNat, Nat.reduceSub, Nat.reduceLT, Nat.reduceLeDiff, Int.reduceLE, Int.reduceLT, reduceCtorEq]
  refine fcW_int (slices_Index__sint_int.fc l x hl) ?_
  simp only [go_sem, ↓reduceIte, Nat.reduceEqDiff, Nat.reduceAdd, Nat.reduceMul, Nat.reduceBEq, Option.getD_none, Int.reduceToNat, Nat.reduceSub, Nat.reduceLT, Nat.reduceLeDiff, Int.reduceLE, Int.reduceLT, reduceCtorEq, ge_iff_le, idxB_any, e]

theorem filter_step {α : Type} {p : α → Bool} {l : List α} {k : Nat} (h : k < l.length) : (l.take (k + 1)).filter p = (l.take k).filter p ++ (if p l[k] then [l[k]] else []) := by
  rw [take_succ' h, List.filter_append]
  simp only [List.filter_cons, List.filter_nil]
theorem filter_few {α : Type} {p : α → Bool} {l : List α} {k : Nat} : ((l.take k).filter p).length ≤ k := Nat.le_trans (List.length_filter_le _ _) (by rw [List.length_take]; omega)
end Go.Vm.Ytedcnkglldmkbaa
/- Walks: copies, and what is struck out of a row. -/
namespace Go.Vm.Ytedcnkglldmkbaa
open Go Go.Vm
set_option maxRecDepth 10000
set_option linter.unusedSimpArgs false
set_option linter.unusedVariables false

theorem slices_Clone__sint_int.fc (l : List Int) (hl : l.length ≤ 4294967296) : FCt prog F_slices_Clone__sint_int [.ro] [ints l] (ints l) [] := by
  refine fct_run slices_Clone__sint_int.ok rfl ?_
  have hsc : (l.map Ii).all isSc = true := by rw [List.all_eq_true]; intro d hd; obtain ⟨x, _, rfl⟩ := List.mem_map.1 hd; rfl
  cases l with
  | nil => simp only [go_sem, ↓reduceIte, Nat.reduceEqDiff, Nat.reduceAdd, Nat.reduceMul, Nat.reduceBEq, Option.getD_none, Int.reduceToNat, Nat.reduceSub, Nat.reduceLT, Nat.reduceLeDiff, Int.reduceLE, Int.reduceLT, reduceCtorEq, List.length_nil, List.map_nil, List.all_nil]; try rfl
  | cons b l =>
    have hb : (l.length + 1) * 8 ≤ 70368744177664 := by simp only [List.length_cons] at hl; omega
    have htk : (l.map Ii).take l.length = l.map Ii := List.take_of_length_le (by simp)
    simp only [List.map_cons, List.all_cons, Bool.and_eq_true] at hsc
    have h1 := hsc.1
    have h2 := hsc.2
    simp only [go_sem, ↓reduceIte, Nat.reduceEqDiff, Nat.reduceAdd, Nat.reduceMul, Nat.reduceBEq, Option.getD_none, Int.reduceToNat, Nat.reduceSub, Nat.reduceLT, Nat.reduceLeDiff, Int.reduceLE, Int.reduceLT, reduceCtorEq, h1, h2, hb, Nat.zero_le, htk]
    try rfl

theorem slices_DeleteFunc__sint_int.fc (l : List Int) (f : FuncId) (caps : List D) (p : Int → Bool) (hl : l.length ≤ 4294967296)
    (h : ∀ x ∈ l, FCt prog f (.ro :: caps.map fun _ => .ro) (Ii x :: caps) (Bb (p x)) []) : FCt prog F_slices_DeleteFunc__sint_int [.co, .ro] [ints l, .clo f caps] (ints (l.filter fun x => !p x)) [] := by
  refine fct_run slices_DeleteFunc__sint_int.ok rfl ?_
  simp only [go_sem, ↓reduceIte, Nat.reduceEqDiff, Nat.reduceAdd, Nat.reduceMul, Nat.reduceBEq, Option.getD_none, Int.reduceToNat, Nat.reduceSub, Nat.reduceLT, Nat.reduceLeDiff, Int.reduceLE, Int.reduceLT, reduceCtorEq, take_map_len]
  refine fcW_int (slices_IndexFunc__sint_int.fc l f caps p hl h) ?_
  cases hc : l.findIdx? p with
  | none =>
    have e : idxB p l = -1 := by unfold idxB; rw [hc]
    have hf : l.filter (fun x => !p x) = l := List.filter_eq_self.2 fun x hx => by simpa using List.findIdx?_eq_none_iff.1 hc x hx
    simp only [go_sem, ↓reduceIte, Nat.reduceEqDiff, Nat.reduceAdd, Nat.reduceMul, Nat.reduceBEq, Option.getD_none, Int.reduceToNat, Nat.reduceSub, Nat.reduceLT, Nat.reduceLeDiff, Int.reduceLE, Int.reduceLT, reduceCtorEq, e, take_map_len, hf]
  | some i0 =>
    have e : idxB p l = (i0 : Int) := by unfold idxB; rw [hc]
    rw [List.findIdx?_eq_some_iff_getElem] at hc
    obtain ⟨hi0, hp0, hlt0⟩ := hc
    have hne : ((i0 : Int) == -1) = false := by rw [beq_eq_false_iff_ne]; omega
    have hw0 : IntKind.i64.wrap ((i0 : Int) + 1) = ((i0 + 1 : Nat) : Int) := by rw [wrap_in (by omega) (by omega)]; omega
    have hf0 : (l.take (i0 + 1)).filter (fun x => !p x) = l.take i0 := by
      rw [take_succ' hi0, List.filter_append]
      have h1 : (l.take i0).filter (fun x => !p x) = l.take i0 := List.filter_eq_self.2 fun x hx => by
        rw [List.mem_take_iff_getElem] at hx
        obtain ⟨j, hj, rfl⟩ := hx
        simpa using hlt0 j (by omega)
      simp [h1, hp0]
    simp only [go_sem, ↓reduceIte, Nat.reduceEqDiff, Nat.reduceAdd, Nat.reduceMul, Nat.reduceBEq, Option.getD_none, Int.reduceToNat, Nat.reduceSub, Nat.reduceLT, Nat.reduceLeDiff, Int.reduceLE, Int.reduceLT, reduceCtorEq, e, hne, hw0]
    refine R_cut (fun ex s' M' => ex = .ex 0 ∧ ∃ cur : List Int, cur.length = l.length ∧ s' 5 = aI (l.filter fun x => !p x).length ∧ cur.take (l.filter fun x => !p x).length = (l.filter fun x => !p x) ∧ (l.filter fun x => !p x).length < l.length ∧ M'.m 0 = some (.arr 0 true 1 (cur.map Ii))) ?_ ?_
    · refine R_loop (α := Nat × List Int) (fun a s' M' => a.1 ≤ l.length ∧ s' 6 = aI a.1 ∧ s' 5 = aI ((l.take a.1).filter fun x => !p x).length ∧ ((l.take a.1).filter fun x => !p x).length < a.1 ∧ a.2.length = l.length ∧
          a.2.take ((l.take a.1).filter fun x => !p x).length = ((l.take a.1).filter fun x => !p x) ∧ a.2.drop a.1 = l.drop a.1 ∧ M'.m 0 = some (.arr 0 true 1 (a.2.map Ii))) (fun a => l.length - a.1) (i0 + 1, l)
        ⟨by dsimp only; omega, by simp only [go_sem, ↓reduceIte, Nat.reduceEqDiff, Nat.reduceAdd, Nat.reduceMul, Nat.reduceBEq, Option.getD_none, Int.reduceToNat, Nat.reduceSub, Nat.reduceLT, Nat.reduceLeDiff, Int.reduceLE, Int.reduceLT, reduceCtorEq], by dsimp only; rw [hf0, List.length_take, Nat.min_eq_left (by omega)]; simp only [go_sem, ↓reduceIte, Nat.reduceEqDiff, Nat.reduceAdd, Nat.reduceMul, Nat.reduceBEq, Option.getD_none, Int.reduceToNat, Nat.reduceSub, Nat.reduceLT, Nat.reduceLeDiff, Int.reduceLE, Int.reduceLT, reduceCtorEq], by dsimp only; rw [hf0, List.length_take]; omega, rfl, by dsimp only; rw [hf0, List.length_take, Nat.min_eq_left (by omega)], rfl, by simp only [go_sem, ↓reduceIte, Nat.reduceEqDiff, Nat.reduceAdd, Nat.reduceMul, Nat.reduceBEq, Option.getD_none, Int.reduceToNat, Nat.reduceSub, Nat.reduceLT, Nat.reduceLeDiff, Int.reduceLE, Int.reduceLT, reduceCtorEq]⟩ ?_
      rintro ⟨k, cur⟩ s' M' ⟨hk, h6, h5, hik, hcl, hct, hcd, hm⟩ ho
      dsimp only at hk h6 h5 hik hcl hct hcd hm
      unfold slices_DeleteFunc__sint_int.b0
      have k0 : s' 0 = .sl 0 0 0 l.length 1 := by rw [ho 0 rfl]; simp only [go_sem, ↓reduceIte, Nat.reduceEqDiff, Nat.reduceAdd, Nat.reduceMul, Nat.reduceBEq, Option.getD_none, Int.reduceToNat, Nat.reduceSub, Nat.reduceLT, Nat.reduceLeDiff, Int.reduceLE, Int.reduceLT, reduceCtorEq]
      have k1 : s' 1 = .clo f (caps.map bindC) := by rw [ho 1 rfl]; simp only [go_sem, ↓reduceIte, Nat.reduceEqDiff, Nat.reduceAdd, Nat.reduceMul, Nat.reduceBEq, Option.getD_none, Int.reduceToNat, Nat.reduceSub, Nat.reduceLT, Nat.reduceLeDiff, Int.reduceLE, Int.reduceLT, reduceCtorEq]
      clear ho
      by_cases hlt : k < l.length
      · have hi' : (k : Int) < l.length := by omega
        have ga : l[k]? = some l[k] := List.getElem?_eq_getElem hlt
        have hw : IntKind.i64.wrap (k + 1) = ((k + 1 : Nat) : Int) := wrap_k hlt (by omega)
        have gc : cur[k]? = some l[k] := by
          have := congrArg (fun z => z[0]?) hcd
          simp only [List.getElem?_drop, Nat.add_zero] at this
          rw [this, ga]
        have hst := filter_step (p := fun x => !p x) hlt
        simp only [go_sem, ↓reduceIte, Nat.reduceEqDiff, Nat.reduceAdd, Nat.reduceMul, Nat.reduceBEq, Option.getD_none, Int.reduceToNat, Nat.reduceSub, Nat.reduceLT, Nat.reduceLeDiff, Int.reduceLE, Int.reduceLT, reduceCtorEq, hi', gc, k0, k1, h6, h5, hm]
        refine ccl_ro (ds := [Ii l[k]]) (by simp only [go_sem, ↓reduceIte, Nat.reduceEqDiff, Nat.reduceAdd, Nat.reduceMul, Nat.reduceBEq, Option.getD_none, Int.reduceToNat, Nat.reduceSub, Nat.reduceLT, Nat.reduceLeDiff, Int.reduceLE, Int.reduceLT, reduceCtorEq, k0, k1, h6, h5, hm]) ?_
        refine fcW_bool (h _ (List.getElem_mem hlt)) ?_
        cases hp : p l[k] with
        | true =>
          rw [hp] at hst
          simp only [Bool.not_true, Bool.false_eq_true, if_false, List.append_nil] at hst
          simp only [go_sem, ↓reduceIte, Nat.reduceEqDiff, Nat.reduceAdd, Nat.reduceMul, Nat.reduceBEq, Option.getD_none, Int.reduceToNat, Nat.reduceSub, Nat.reduceLT, Nat.reduceLeDiff, Int.reduceLE, Int.reduceLT, reduceCtorEq, hw, k0, k1, h6, h5, hm]
          exact ⟨(k + 1, cur), by dsimp only; omega, by dsimp only; omega, by simp only [go_sem, ↓reduceIte, Nat.reduceEqDiff, Nat.reduceAdd, Nat.reduceMul, Nat.reduceBEq, Option.getD_none, Int.reduceToNat, Nat.reduceSub, Nat.reduceLT, Nat.reduceLeDiff, Int.reduceLE, Int.reduceLT, reduceCtorEq, k0, k1, h6, h5, hm], by dsimp only; rw [hst]; simp only [go_sem, ↓reduceIte, Nat.reduceEqDiff, Nat.reduceAdd, Nat.reduceMul, Nat.reduceBEq, Option.getD_none, Int.reduceToNat, Nat.reduceSub, Nat.reduceLT, Nat.reduceLeDiff, Int.reduceLE, Int.reduceLT, reduceCtorEq, k0, k1, h6, h5, hm], by dsimp only; rw [hst]; omega, hcl, by dsimp only; rw [hst]; exact hct, by dsimp only; rw [← List.drop_drop, hcd, List.drop_drop], by simp only [go_sem, ↓reduceIte, Nat.reduceEqDiff, Nat.reduceAdd, Nat.reduceMul, Nat.reduceBEq, Option.getD_none, Int.reduceToNat, Nat.reduceSub, Nat.reduceLT, Nat.reduceLeDiff, Int.reduceLE, Int.reduceLT, reduceCtorEq, k0, k1, h6, h5, hm]⟩
        | false =>
          rw [hp] at hst
          simp only [Bool.not_false, if_true] at hst
          have hil : (((l.take k).filter fun x => !p x).length : Int) < l.length := by omega
          have hlc : ((l.take k).filter fun x => !p x).length < cur.length := by omega
          have gi : cur[((l.take k).filter fun x => !p x).length]? = some cur[((l.take k).filter fun x => !p x).length] := List.getElem?_eq_getElem hlc
          have hwi : IntKind.i64.wrap (((l.take k).filter fun x => !p x).length + 1) = ((((l.take k).filter fun x => !p x).length + 1 : Nat) : Int) := by rw [wrap_in (by omega) (by omega)]; omega
          have hms : ∀ j, (cur.map Ii).set j (Ii l[k]) = (cur.set j l[k]).map Ii := fun j => by rw [List.map_set]
          simp only [go_sem, ↓reduceIte, Nat.reduceEqDiff, Nat.reduceAdd, Nat.reduceMul, Nat.reduceBEq, Option.getD_none, Int.reduceToNat, Nat.reduceSub, Nat.reduceLT, Nat.reduceLeDiff, Int.reduceLE, Int.reduceLT, reduceCtorEq, hil, gi, hw, hwi, hms, k0, k1, h6, h5, hm]
          refine ⟨(k + 1, cur.set ((l.take k).filter fun x => !p x).length l[k]), by dsimp only; omega, by dsimp only; omega, by simp only [go_sem, ↓reduceIte, Nat.reduceEqDiff, Nat.reduceAdd, Nat.reduceMul, Nat.reduceBEq, Option.getD_none, Int.reduceToNat, Nat.reduceSub, Nat.reduceLT, Nat.reduceLeDiff, Int.reduceLE, Int.reduceLT, reduceCtorEq, k0, k1, h6, h5, hm], by dsimp only; rw [hst]; simp only [go_sem, ↓reduceIte, Nat.reduceEqDiff, Nat.reduceAdd, Nat.reduceMul, Nat.reduceBEq, Option.getD_none, Int.reduceToNat, Nat.reduceSub, Nat.reduceLT, Nat.reduceLeDiff, Int.reduceLE, Int.reduceLT, reduceCtorEq, List.length_append, k0, k1, h6, h5, hm], by dsimp only; rw [hst, List.length_append]; simp; omega, by simpa using hcl, ?_, ?_, by simp only [go_sem, ↓reduceIte, Nat.reduceEqDiff, Nat.reduceAdd, Nat.reduceMul, Nat.reduceBEq, Option.getD_none, Int.reduceToNat, Nat.reduceSub, Nat.reduceLT, Nat.reduceLeDiff, Int.reduceLE, Int.reduceLT, reduceCtorEq, hms, k0, k1, h6, h5, hm]⟩
          · dsimp only
            rw [hst, List.length_append]
            simp only [List.length_cons, List.length_nil, Nat.zero_add]
            rw [List.take_succ_eq_append_getElem (by simpa using hlc), List.take_set_of_le (Nat.le_refl _), hct]
            simp
          · dsimp only
            rw [List.drop_set, if_pos (by omega), ← List.drop_drop, hcd, List.drop_drop]
      · have hi' : ¬ (k : Int) < l.length := by omega
        obtain rfl : k = l.length := by omega
        rw [List.take_length] at h5 hik hct
        simp only [go_sem, ↓reduceIte, Nat.reduceEqDiff, Nat.reduceAdd, Nat.reduceMul, Nat.reduceBEq, Option.getD_none, Int.reduceToNat, Nat.reduceSub, Nat.reduceLT, Nat.reduceLeDiff, Int.reduceLE, Int.reduceLT, reduceCtorEq, hi', h5, k0, k1, h6, h5, hm]
        exact ⟨cur, hcl, hct, hik, rfl⟩
    · rintro ex s' M' ⟨rfl, cur, hcl, h5, hct, hlt, hm⟩ ho
      have k0 : s' 0 = .sl 0 0 0 l.length 1 := by rw [ho 0 rfl]; simp only [go_sem, ↓reduceIte, Nat.reduceEqDiff, Nat.reduceAdd, Nat.reduceMul, Nat.reduceBEq, Option.getD_none, Int.reduceToNat, Nat.reduceSub, Nat.reduceLT, Nat.reduceLeDiff, Int.reduceLE, Int.reduceLT, reduceCtorEq]
      have k1 : s' 1 = .clo f (caps.map bindC) := by rw [ho 1 rfl]; simp only [go_sem, ↓reduceIte, Nat.reduceEqDiff, Nat.reduceAdd, Nat.reduceMul, Nat.reduceBEq, Option.getD_none, Int.reduceToNat, Nat.reduceSub, Nat.reduceLT, Nat.reduceLeDiff, Int.reduceLE, Int.reduceLT, reduceCtorEq]
      clear ho
      generalize hF : l.filter (fun x => !p x) = F at *
      have hle : (F.length : Int) ≤ l.length := by omega
      have hle' : F.length ≤ l.length := by omega
      have hsub : ((l.length : Int) - (F.length : Int)).toNat = l.length - F.length := by omega
      have hz : ¬ l.length - F.length = 0 := by omega
      have hsum : F.length + (l.length - F.length) ≤ l.length := by omega
      have hsc : (((cur.map Ii).drop F.length).take (l.length - F.length)).all isSc = true := List.all_eq_true.2 fun d hd => by
        obtain ⟨x, _, rfl⟩ := List.mem_map.1 (List.mem_of_mem_drop (List.mem_of_mem_take hd)); rfl
      have hln : ((cur.map Ii).take F.length ++ List.replicate (l.length - F.length) (D.int .i64 0) ++ (cur.map Ii).drop (F.length + (l.length - F.length))).length = l.length := by simp; omega
      have htk : ((cur.map Ii).take F.length ++ List.replicate (l.length - F.length) (D.int .i64 0) ++ (cur.map Ii).drop (F.length + (l.length - F.length))).take F.length = F.map Ii := by
        rw [List.append_assoc, List.take_append_of_le_length (by simp; omega), List.take_take, Nat.min_self, ← List.map_take, hct]
      simp only [go_sem, ↓reduceIte, Nat.reduceEqDiff, Nat.reduceAdd, Nat.reduceMul, Nat.reduceBEq, Option.getD_none, Int.reduceToNat, Nat.reduceSub, Nat.reduceLT, Nat.reduceLeDiff, Int.reduceLE, Int.reduceLT, reduceCtorEq, k0, k1, h5, hm, hcl, hle, hle', hsub, hz, hsum, hsc, hln, htk, Int.le_refl, Nat.zero_add, List.length_replicate, Nat.zero_le]

end Go.Vm.Ytedcnkglldmkbaa
/- Walks: what two sets of facts share; Horn clauses. -/
namespace Go.Vm.Ytedcnkglldmkbaa
open Go Go.Vm
set_option maxRecDepth 10000
set_option linter.unusedSimpArgs false
set_option linter.unusedVariables false

def meetD (a b : List Int) : D := if rising 1 12 a && rising 1 12 b then .tup [ints (a.filter (hasI b)), Bb true] else .tup [.sl 1 [], Bb false]
theorem impl_MeetOf_c1.fc (x : Int) (b : List Int) (hb : b.length ≤ 4294967296) : FCt prog F_impl_MeetOf_c1 [.ro, .ro] [Ii x, .ptr (ints b)] (Bb (!hasI b x)) [] := by
  refine fct_run impl_MeetOf_c1.ok rfl ?_
  simp only [go_sem, ↓reduceIte, Nat.reduceEqDiff, Nat.reduceAdd, Nat.reduceMul, Nat.reduceBEq, Option.getD_none, Int.reduceToNat, Nat.reduceSub, Nat.reduceLT, Nat.reduceLeDiff, Int.reduceLE, Int.reduceLT, reduceCtorEq]
  refine fcW_bool (slices_Contains__sint_int.fc b x hb) ?_
  simp only [go_sem, ↓reduceIte, Nat.reduceEqDiff, Nat.reduceAdd, Nat.reduceMul, Nat.reduceBEq, Option.getD_none, Int.reduceToNat, Nat.reduceSub, Nat.reduceLT, Nat.reduceLeDiff, Int.reduceLE, Int.reduceLT, reduceCtorEq, hasI]
theorem impl_MeetOf.fc (a b : List Int) (ha : a.length ≤ 4294967296) (hb : b.length ≤ 4294967296) : FCt prog F_impl_MeetOf [.ro, .ro] [ints a, ints b] (meetD a b) [] := by
  refine fct_run impl_MeetOf.ok rfl ?_
  unfold meetD
  simp only [go_sem, ↓reduceIte, Nat.reduceEqDiff, Nat.reduceAdd, Nat.reduceMul, Nat.reduceBEq, Option.getD_none, Int.reduceToNat, Nat.reduceSub, Nat.reduceLT, Nat.reduceLeDiff, Int.reduceLE, Int.reduceLT, reduceCtorEq]
  refine fcW_bool (impl_areFacts.fc a 12 ha) ?_
  cases h1 : rising 1 12 a with
  | false => simp only [go_sem, ↓reduceIte, Nat.reduceEqDiff, Nat.reduceAdd, Nat.reduceMul, Nat.reduceBEq, Option.getD_none, Int.reduceToNat, Nat.reduceSub, Nat.reduceLT, Nat.reduceLeDiff, Int.reduceLE, Int.reduceLT, reduceCtorEq]
  | true =>
    simp only [go_sem, ↓reduceIte, Nat.reduceEqDiff, Nat.reduceAdd, Nat.reduceMul, Nat.reduceBEq, Option.getD_none, Int.reduceToNat, Nat.reduceSub, Nat.reduceLT, Nat.reduceLeDiff, Int.reduceLE, Int.reduceLT, reduceCtorEq]
    refine fcW_bool (impl_areFacts.fc b 12 hb) ?_
    cases h2 : rising 1 12 b with
    | false => simp only [go_sem, ↓reduceIte, Nat.reduceEqDiff, Nat.reduceAdd, Nat.reduceMul, Nat.reduceBEq, Option.getD_none, Int.reduceToNat, Nat.reduceSub, Nat.reduceLT, Nat.reduceLeDiff, Int.reduceLE, Int.reduceLT, reduceCtorEq]
    | true =>
      simp only [go_sem, ↓reduceIte, Nat.reduceEqDiff, Nat.reduceAdd, Nat.reduceMul, Nat.reduceBEq, Option.getD_none, Int.reduceToNat, Nat.reduceSub, Nat.reduceLT, Nat.reduceLeDiff, Int.reduceLE, Int.reduceLT, reduceCtorEq]
      refine fcW_bd (slices_Clone__sint_int.fc a ha) noRs_ints ?_
      simp only [go_sem, ↓reduceIte, Nat.reduceEqDiff, Nat.reduceAdd, Nat.reduceMul, Nat.reduceBEq, Option.getD_none, Int.reduceToNat, Nat.reduceSub, Nat.reduceLT, Nat.reduceLeDiff, Int.reduceLE, Int.reduceLT, reduceCtorEq, take_map_len]
      refine coW_of (slices_DeleteFunc__sint_int.fc a F_impl_MeetOf_c1 [.ptr (ints b)] (fun x => !hasI b x) ha (fun x _ => impl_MeetOf_c1.fc x b hb)) noRs_ints rfl ?_
      have e : a.filter (fun x => !!hasI b x) = a.filter (hasI b) := by simp
      simp only [go_sem, ↓reduceIte, Nat.reduceEqDiff, Nat.reduceAdd, Nat.reduceMul, Nat.reduceBEq, Option.getD_none, Int.reduceToNat, Nat.reduceSub, Nat.reduceLT, Nat.reduceLeDiff, Int.reduceLE, Int.reduceLT, reduceCtorEq, e, take_map_len]
theorem spec_MeetOf.fc (a b : List Int) (ha : a.length ≤ 4294967296) (hb : b.length ≤ 4294967296) : FCt prog F_spec_MeetOf [.ro, .ro] [ints a, ints b] (meetD a b) [] := by
  refine fct_run spec_MeetOf.ok rfl ?_
  unfold meetD
  simp only [go_sem, ↓reduceIte, Nat.reduceEqDiff, Nat.reduceAdd, Nat.reduceMul, Nat.reduceBEq, Option.getD_none, Int.reduceToNat, Nat.reduceSub, Nat.reduceLT, Nat.reduceLeDiff, Int.reduceLE, Int.reduceLT, reduceCtorEq]
  refine fcW_bool (spec_l16Facts.fc a 12 ha) ?_
  cases h1 : rising 1 12 a with
  | false => simp only [go_sem, ↓reduceIte, Nat.reduceEqDiff, Nat.reduceAdd, Nat.reduceMul, Nat.reduceBEq, Option.getD_none, Int.reduceToNat, Nat.reduceSub, Nat.reduceLT, Nat.reduceLeDiff, Int.reduceLE, Int.reduceLT, reduceCtorEq]
  | true =>
    simp only [go_sem, ↓reduceIte, Nat.reduceEqDiff, Nat.reduceAdd, Nat.reduceMul, Nat.reduceBEq, Option.getD_none, Int.reduceToNat, Nat.reduceSub, Nat.reduceLT, Nat.reduceLeDiff, Int.reduceLE, Int.reduceLT, reduceCtorEq]
    refine fcW_bool (spec_l16Facts.fc b 12 hb) ?_
    cases h2 : rising 1 12 b with
    | false => simp only [go_sem, ↓reduceIte, Nat.reduceEqDiff, Nat.reduceAdd, Nat.reduceMul, Nat.reduceBEq, Option.getD_none, Int.reduceToNat, Nat.reduceSub, Nat.reduceLT, Nat.reduceLeDiff, Int.reduceLE, Int.reduceLT, reduceCtorEq]
    | true =>
      simp only [go_sem, ↓reduceIte, Nat.reduceEqDiff, Nat.reduceAdd, Nat.reduceMul, Nat.reduceBEq, Option.getD_none, Int.reduceToNat, Nat.reduceSub, Nat.reduceLT, Nat.reduceLeDiff, Int.reduceLE, Int.reduceLT, reduceCtorEq]
      refine R_loop (α := Nat) (fun k s' M' => k ≤ a.length ∧ s' 19 = aI k ∧ ∃ v, s' 6 = .sl 1728 v 0 ((a.take k).filter (hasI b)).length 1 ∧ M'.m 1728 = some (.arr v true 1 (((a.take k).filter (hasI b)).map Ii))) (fun k => a.length - k) 0
        ⟨by omega, by simp only [go_sem, ↓reduceIte, Nat.reduceEqDiff, Nat.reduceAdd, Nat.reduceMul, Nat.reduceBEq, Option.getD_none, Int.reduceToNat, Nat.reduceSub, Nat.reduceLT, Nat.reduceLeDiff, Int.reduceLE, Int.reduceLT, reduceCtorEq]; rfl, _, by simp only [go_sem, ↓reduceIte, Nat.reduceEqDiff, Nat.reduceAdd, Nat.reduceMul, Nat.reduceBEq, Option.getD_none, Int.reduceToNat, Nat.reduceSub, Nat.reduceLT, Nat.reduceLeDiff, Int.reduceLE, Int.reduceLT, reduceCtorEq]; rfl, by simp only [go_sem, ↓reduceIte, Nat.reduceEqDiff, Nat.reduceAdd, Nat.reduceMul, Nat.reduceBEq, Option.getD_none, Int.reduceToNat, Nat.reduceSub, Nat.reduceLT, Nat.reduceLeDiff, Int.reduceLE, Int.reduceLT, reduceCtorEq]; rfl⟩ ?_
      rintro k s' M' ⟨hk, h19, v, h6, hm⟩ ho
      unfold spec_MeetOf.b0
      have k1 : s' 1 = .dat none (ints b) := by rw [ho 1 rfl]; simp only [go_sem, ↓reduceIte, Nat.reduceEqDiff, Nat.reduceAdd, Nat.reduceMul, Nat.reduceBEq, Option.getD_none, Int.reduceToNat, Nat.reduceSub, Nat.reduceLT, Nat.reduceLeDiff, Int.reduceLE, Int.reduceLT, reduceCtorEq]
      have k17 : s' 17 = .dat none (ints a) := by rw [ho 17 rfl]; simp only [go_sem, ↓reduceIte, Nat.reduceEqDiff, Nat.reduceAdd, Nat.reduceMul, Nat.reduceBEq, Option.getD_none, Int.reduceToNat, Nat.reduceSub, Nat.reduceLT, Nat.reduceLeDiff, Int.reduceLE, Int.reduceLT, reduceCtorEq]
      have k18 : s' 18 = aI a.length := by rw [ho 18 rfl]; simp only [go_sem, ↓reduceIte, Nat.reduceEqDiff, Nat.reduceAdd, Nat.reduceMul, Nat.reduceBEq, Option.getD_none, Int.reduceToNat, Nat.reduceSub, Nat.reduceLT, Nat.reduceLeDiff, Int.reduceLE, Int.reduceLT, reduceCtorEq]
      clear ho
      by_cases hlt : k < a.length
      · have hi' : (k : Int) < a.length := by omega
        have ga : a[k]? = some a[k] := List.getElem?_eq_getElem hlt
        have hw : IntKind.i64.wrap (k + 1) = ((k + 1 : Nat) : Int) := wrap_k hlt (by omega)
        have hst := filter_step (p := hasI b) hlt
        have hfl := filter_few (p := hasI b) (l := a) (k := k)
        have hbb : (((a.take k).filter (hasI b)).length + 1) * 8 ≤ 70368744177664 := by omega
        simp only [go_sem, ↓reduceIte, Nat.reduceEqDiff, Nat.reduceAdd, Nat.reduceMul, Nat.reduceBEq, Option.getD_none, Int.reduceToNat, Nat.reduceSub, Nat.reduceLT, Nat.reduceLeDiff, Int.reduceLE, Int.reduceLT, reduceCtorEq, hi', ga, k1, k17, k18, h19, h6, hm]
        refine fcW_bool (spec_l1Has.fc b a[k] hb) ?_
        cases hc : b.any (· == a[k]) with
        | true =>
          have hh : hasI b a[k] = true := hc
          rw [hh, if_pos rfl] at hst
          simp only [go_sem, ↓reduceIte, Nat.reduceEqDiff, Nat.reduceAdd, Nat.reduceMul, Nat.reduceBEq, Option.getD_none, Int.reduceToNat, Nat.reduceSub, Nat.reduceLT, Nat.reduceLeDiff, Int.reduceLE, Int.reduceLT, reduceCtorEq, hw, hbb, take_map_len, k1, k17, k18, h19, h6, hm]
          exact ⟨k + 1, by dsimp only; omega, by omega, by simp only [go_sem, ↓reduceIte, Nat.reduceEqDiff, Nat.reduceAdd, Nat.reduceMul, Nat.reduceBEq, Option.getD_none, Int.reduceToNat, Nat.reduceSub, Nat.reduceLT, Nat.reduceLeDiff, Int.reduceLE, Int.reduceLT, reduceCtorEq, k1, k17, k18, h19, h6, hm], _, by simp only [go_sem, ↓reduceIte, Nat.reduceEqDiff, Nat.reduceAdd, Nat.reduceMul, Nat.reduceBEq, Option.getD_none, Int.reduceToNat, Nat.reduceSub, Nat.reduceLT, Nat.reduceLeDiff, Int.reduceLE, Int.reduceLT, reduceCtorEq, k1, k17, k18, h19, h6, hm]; rw [hst, List.length_append]; rfl, by simp only [go_sem, ↓reduceIte, Nat.reduceEqDiff, Nat.reduceAdd, Nat.reduceMul, Nat.reduceBEq, Option.getD_none, Int.reduceToNat, Nat.reduceSub, Nat.reduceLT, Nat.reduceLeDiff, Int.reduceLE, Int.reduceLT, reduceCtorEq, k1, k17, k18, h19, h6, hm]; rw [hst]; simp⟩
        | false =>
          have hh : hasI b a[k] = false := hc
          rw [hh] at hst
          simp only [Bool.false_eq_true, if_false, List.append_nil] at hst
          simp only [go_sem, ↓reduceIte, Nat.reduceEqDiff, Nat.reduceAdd, Nat.reduceMul, Nat.reduceBEq, Option.getD_none, Int.reduceToNat, Nat.reduceSub, Nat.reduceLT, Nat.reduceLeDiff, Int.reduceLE, Int.reduceLT, reduceCtorEq, hw, k1, k17, k18, h19, h6, hm]
          exact ⟨k + 1, by dsimp only; omega, by omega, by simp only [go_sem, ↓reduceIte, Nat.reduceEqDiff, Nat.reduceAdd, Nat.reduceMul, Nat.reduceBEq, Option.getD_none, Int.reduceToNat, Nat.reduceSub, Nat.reduceLT, Nat.reduceLeDiff, Int.reduceLE, Int.reduceLT, reduceCtorEq, k1, k17, k18, h19, h6, hm], v, by simp only [go_sem, ↓reduceIte, Nat.reduceEqDiff, Nat.reduceAdd, Nat.reduceMul, Nat.reduceBEq, Option.getD_none, Int.reduceToNat, Nat.reduceSub, Nat.reduceLT, Nat.reduceLeDiff, Int.reduceLE, Int.reduceLT, reduceCtorEq, k1, k17, k18, h19, h6, hm]; rw [hst], by simp only [go_sem, ↓reduceIte, Nat.reduceEqDiff, Nat.reduceAdd, Nat.reduceMul, Nat.reduceBEq, Option.getD_none, Int.reduceToNat, Nat.reduceSub, Nat.reduceLT, Nat.reduceLeDiff, Int.reduceLE, Int.reduceLT, reduceCtorEq, k1, k17, k18, h19, h6, hm]; rw [hst]⟩
      · have hi' : ¬ (k : Int) < a.length := by omega
        obtain rfl : k = a.length := by omega
        rw [List.take_length] at h6 hm
        simp only [go_sem, ↓reduceIte, Nat.reduceEqDiff, Nat.reduceAdd, Nat.reduceMul, Nat.reduceBEq, Option.getD_none, Int.reduceToNat, Nat.reduceSub, Nat.reduceLT, Nat.reduceLeDiff, Int.reduceLE, Int.reduceLT, reduceCtorEq, hi', take_map_len, k1, k17, k18, h19, h6, hm]
end Go.Vm.Ytedcnkglldmkbaa
