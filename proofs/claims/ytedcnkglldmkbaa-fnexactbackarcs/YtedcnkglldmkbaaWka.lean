/- What the functions that the law reaches return: part 1 (the conditions stand at each). -/
import Derived.Test.YtedcnkglldmkbaaIr
/- Words for data: whole numbers, rows of them. -/
namespace Go.Vm
open Go
set_option linter.unusedSimpArgs false
set_option linter.unusedVariables false

abbrev Ii (n : Int) : D := .int .i64 n
abbrev Bb (b : Bool) : D := .bool b
abbrev ints (l : List Int) : D := .sl 1 (l.map Ii)
abbrev aI (n : Int) : AV := .dat none (.int .i64 n)
/-- a whole number of 64 bits -/
def i64 (n : Int) : Prop := -9223372036854775808 ≤ n ∧ n ≤ 9223372036854775807
theorem wrap_k {k m : Nat} (h : k < m) (hm : m ≤ 9223372036854775807) : IntKind.i64.wrap ((k : Int) + 1) = ((k + 1 : Nat) : Int) := by
  rw [wrap_in (by omega) (by omega)]; rfl
theorem hasInt {d : D} (h : HasTy (.int .i64) d) : ∃ n, d = Ii n ∧ i64 n := by
  simp only [HasTy] at h
  obtain ⟨n, rfl, h⟩ := h
  refine ⟨n, rfl, ?_⟩
  simp [Lit.wf, IntKind.has, IntKind.min, IntKind.max, IntKind.signed, IntKind.bits] at h
  exact ⟨by omega, by omega⟩
theorem take_succ' {α : Type} {l : List α} {k : Nat} (h : k < l.length) : l.take (k + 1) = l.take k ++ [l[k]] := by
  rw [List.take_succ_eq_append_getElem h]
theorem all_take {α : Type} {p : α → Bool} {l : List α} {k : Nat} (h : k < l.length) (h1 : (l.take k).all p = true) (h2 : p l[k] = true) : (l.take (k + 1)).all p = true := by
  rw [take_succ' h, List.all_append, h1]; simpa using h2
/-- a row that is filled from the left -/
def fill {α : Type} (f : α → D) (z : D) (l : List α) (k : Nat) : List D := (l.take k).map f ++ List.replicate (l.length - k) z
section
variable {α : Type} {f : α → D} {z : D} {l : List α} {k : Nat}
theorem fill_zero : List.replicate l.length z = fill f z l 0 := by simp [fill]
theorem fill_len (h : k ≤ l.length) : (fill f z l k).length = l.length := by simp [fill]; omega
theorem fill_get (h : k < l.length) : (fill f z l k)[k]? = some z := by
  simp only [fill]
  have e0 : ((l.take k).map f).length = k := by rw [List.length_map, List.length_take]; omega
  rw [List.getElem?_append_right (by omega), e0, Nat.sub_self, List.getElem?_replicate, if_pos (by omega)]
theorem fill_set (h : k < l.length) : (fill f z l k).set k (f l[k]) = fill f z l (k + 1) := by
  simp only [fill]
  have e0 : ((l.take k).map f).length = k := by rw [List.length_map, List.length_take]; omega
  have e2 : l.length - k = (l.length - (k + 1)) + 1 := by omega
  rw [List.set_append_right _ _ (by omega), take_succ' h, e0, Nat.sub_self, e2, List.replicate_succ, List.set_cons_zero, List.map_append, List.append_assoc]
  rfl
theorem fill_all : fill f z l l.length = l.map f := by simp [fill]
theorem take_map_len : (l.map f).take l.length = l.map f := by rw [List.take_of_length_le (by simp)]
end
/-- a row that is written over from the left -/
def ovr {α : Type} (A B : List α) (k : Nat) : List α := A.take k ++ B.drop k
section
variable {α : Type} {A B : List α} {k : Nat}
theorem ovr_zero : ovr A B 0 = B := by simp [ovr]
theorem ovr_all (h : A.length = B.length) : ovr A B B.length = A := by simp [ovr, ← h]
theorem ovr_len (h : A.length = B.length) (hk : k ≤ B.length) : (ovr A B k).length = B.length := by simp [ovr]; omega
theorem ovr_get (h : A.length = B.length) (hk : k < B.length) : (ovr A B k)[k]? = B[k]? := by
  have e : (A.take k).length = k := by rw [List.length_take]; omega
  rw [ovr, List.getElem?_append_right (by omega), e, Nat.sub_self, List.getElem?_drop]; rfl
theorem ovr_set {x : α} (h : A.length = B.length) (hk : k < B.length) (hx : A[k]? = some x) : (ovr A B k).set k x = ovr A B (k + 1) := by
  have e : (A.take k).length = k := by rw [List.length_take]; omega
  have hd : B.drop k = B[k] :: B.drop (k + 1) := List.drop_eq_getElem_cons hk
  have hkA : k < A.length := by omega
  have hx' : A[k] = x := by rw [List.getElem?_eq_getElem hkA] at hx; exact Option.some.inj hx
  rw [ovr, ovr, List.set_append_right _ _ (by omega), e, Nat.sub_self, hd, List.set_cons_zero, take_succ' hkA, hx', List.append_assoc]; rfl
end
def upFrom (n : Int) (m : Nat) : List Int := (List.range m).map fun i => n + (i : Nat)
theorem upFrom_len {n : Int} {m : Nat} : (upFrom n m).length = m := by simp [upFrom]
theorem upFrom_get {n : Int} {m k : Nat} (h : k < m) : (upFrom n m)[k]? = some (n + k) := by simp [upFrom, h]
/-- a row that grows: nil at first, then under one name -/
def RowAt (x : AV) (M : Mem) (nm sz : Nat) (ds : List D) : Prop := (ds = [] ∧ x = .nil sz) ∨ ∃ v, x = .sl nm v 0 ds.length sz ∧ M.m nm = some (.arr v true sz ds)
theorem RowAt.nil {M : Mem} {nm sz : Nat} : RowAt (.nil sz) M nm sz [] := .inl ⟨rfl, rfl⟩
theorem RowAt.sl {x : AV} {M : Mem} {nm sz v n : Nat} {ds : List D} (hx : x = .sl nm v 0 n sz) (hn : n = ds.length) (hm : M.m nm = some (.arr v true sz ds)) : RowAt x M nm sz ds := .inr ⟨v, by rw [hx, hn], hm⟩
section
variable {α : Type} {f : Int → α → α} {c : α → Nat}
end
theorem noRsL_all : ∀ {ds : List D}, (∀ d ∈ ds, noRs d = true) → noRsL ds = true
  | [], _ => rfl
  | d :: ds, h => by simp only [noRsL, Bool.and_eq_true]; exact ⟨h d List.mem_cons_self, noRsL_all fun x hx => h x (List.mem_cons_of_mem _ hx)⟩
theorem noRs_sl {sz : Nat} {ds : List D} (h : ∀ d ∈ ds, noRs d = true) : noRs (.sl sz ds) = true := by simp only [noRs]; exact noRsL_all h
theorem noRs_ints {l : List Int} : noRs (ints l) = true := noRs_sl (by simp [noRs])

/-! ### function values -/
section
variable {P : Program} {s : Nat → AV} {M : Mem} {nb ib : Nat}
theorem frzR_caps : ∀ (caps : List D), frzR s M ((caps.map bindC).map X.k) = some caps
  | [] => rfl
  | c :: caps => by simp only [List.map_cons, frzR, ev_k, frz_bindC, frzR_caps caps]
theorem frzR_app : ∀ (xs ys : List X), frzR s M (xs ++ ys) = match frzR s M xs, frzR s M ys with | some a, some b => some (a ++ b) | _, _ => none
  | [], ys => by simp only [List.nil_append, frzR]; cases frzR s M ys <;> rfl
  | x :: xs, ys => by
    simp only [List.cons_append, frzR, frzR_app xs ys]
    cases frz M 8 (x.ev s) <;> cases frzR s M xs <;> cases frzR s M ys <;> rfl
/-- a function value is called -/
theorem ccl_ro {f : FuncId} {caps : List D} {args : List X} {ds : List D} {K : AV → Mem → (Nat → Bool) → Prop} (ha : frzR s M args = some ds)
    (h : @fcW P f (args.map (fun _ => Md.ro) ++ caps.map fun _ => Md.ro) (ds ++ caps) false ((args ++ (caps.map bindC).map X.k).all fun x => coldA (x.ev s)) nb ib M ⟨K⟩) : @cW P (.clo f (caps.map bindC)) s M nb ib false args ⟨K⟩ := by
  rw [cW_clo, CR_ro, frzR_app, ha, frzR_caps]
  have e : ((args ++ (caps.map bindC).map X.k).map fun _ => Md.ro) = (args.map (fun _ => Md.ro) ++ caps.map fun _ => Md.ro) := by simp [List.map_map, Function.comp_def]
  rw [e]
  exact h
end
end Go.Vm
/- Walks: small functions. -/
namespace Go.Vm.Ytedcnkglldmkbaa
open Go Go.Vm
set_option maxRecDepth 10000
set_option linter.unusedSimpArgs false
set_option linter.unusedVariables false

def inB (n lo hi : Int) : Bool := decide (lo ≤ n) && decide (n ≤ hi)
theorem impl_in.fc (n lo hi : Int) : FCt prog F_impl_in [.ro, .ro, .ro] [Ii n, Ii lo, Ii hi] (Bb (inB n lo hi)) [] := by
  refine fct_run impl_in.ok rfl ?_
  unfold inB
  by_cases h : lo ≤ n
  · simp only [go_sem, ↓reduceIte, Nat.reduceEqDiff, Nat.reduceAdd, Nat.reduceMul, Nat.reduceBEq, Option.getD_none, Int.reduceToNat, Nat.reduceSub, Nat.reduceLT, Nat.reduceLeDiff, Int.reduceLE, Int.reduceLT, reduceCtorEq, ge_iff_le, h]
  · simp only [go_sem, ↓reduceIte, Nat.reduceEqDiff, Nat.reduceAdd, Nat.reduceMul, Nat.reduceBEq, Option.getD_none, Int.reduceToNat, Nat.reduceSub, Nat.reduceLT, Nat.reduceLeDiff, Int.reduceLE, Int.reduceLT, reduceCtorEq, ge_iff_le, h]
theorem spec_l1In.fc (n lo hi : Int) : FCt prog F_spec_l1In [.ro, .ro, .ro] [Ii n, Ii lo, Ii hi] (Bb (inB n lo hi)) [] := by
  refine fct_run spec_l1In.ok rfl ?_
  unfold inB
  by_cases h : lo ≤ n
  · simp only [go_sem, ↓reduceIte, Nat.reduceEqDiff, Nat.reduceAdd, Nat.reduceMul, Nat.reduceBEq, Option.getD_none, Int.reduceToNat, Nat.reduceSub, Nat.reduceLT, Nat.reduceLeDiff, Int.reduceLE, Int.reduceLT, reduceCtorEq, ge_iff_le, h]
  · simp only [go_sem, ↓reduceIte, Nat.reduceEqDiff, Nat.reduceAdd, Nat.reduceMul, Nat.reduceBEq, Option.getD_none, Int.reduceToNat, Nat.reduceSub, Nat.reduceLT, Nat.reduceLeDiff, Int.reduceLE, Int.reduceLT, reduceCtorEq, ge_iff_le, h]

end Go.Vm.Ytedcnkglldmkbaa
/- Walks: rules are copied and weighed. -/
namespace Go.Vm.Ytedcnkglldmkbaa
open Go Go.Vm
set_option maxRecDepth 10000
set_option linter.unusedSimpArgs false
set_option linter.unusedVariables false

/-- a rule -/
structure RuleD where
  ifs : List Int
  thn : Int
  deriving DecidableEq
abbrev RuleD.d (r : RuleD) : D := .agg [ints r.ifs, Ii r.thn]
abbrev rules (l : List RuleD) : D := .sl 2 (l.map RuleD.d)
end Go.Vm.Ytedcnkglldmkbaa
/- Walks: rules are looked at. -/
namespace Go.Vm.Ytedcnkglldmkbaa
open Go Go.Vm
set_option maxRecDepth 10000
set_option linter.unusedSimpArgs false
set_option linter.unusedVariables false

end Go.Vm.Ytedcnkglldmkbaa
/- Walks: rules are looked at, by the program and by the reference. -/
namespace Go.Vm.Ytedcnkglldmkbaa
open Go Go.Vm
set_option maxRecDepth 10000
set_option linter.unusedSimpArgs false
set_option linter.unusedVariables false

end Go.Vm.Ytedcnkglldmkbaa
/- Walks: valid rules; rules are compared. -/
namespace Go.Vm.Ytedcnkglldmkbaa
open Go Go.Vm
set_option maxRecDepth 10000
set_option linter.unusedSimpArgs false
set_option linter.unusedVariables false

end Go.Vm.Ytedcnkglldmkbaa
/- Walks: results are marked and read again. -/
namespace Go.Vm.Ytedcnkglldmkbaa
open Go Go.Vm
set_option maxRecDepth 10000
set_option linter.unusedSimpArgs false
set_option linter.unusedVariables false

end Go.Vm.Ytedcnkglldmkbaa
/- Walks: intervals and known bits, reduced by each other. -/
namespace Go.Vm.Ytedcnkglldmkbaa
open Go Go.Vm
set_option maxRecDepth 10000
set_option linter.unusedSimpArgs false
set_option linter.unusedVariables false

abbrev pr (a b : Int) : D := .agg [Ii a, Ii b]
end Go.Vm.Ytedcnkglldmkbaa
/- Walks: arcs. -/
namespace Go.Vm.Ytedcnkglldmkbaa
open Go Go.Vm
set_option maxRecDepth 10000
set_option linter.unusedSimpArgs false
set_option linter.unusedVariables false

abbrev arcD (a : Int × Int) : D := pr a.1 a.2
abbrev arcs (l : List (Int × Int)) : D := .sl 2 (l.map arcD)
theorem noRs_arc {a : Int × Int} : noRs (arcD a) = true := rfl
theorem noRs_arcs {l : List (Int × Int)} : noRs (arcs l) = true := noRs_sl (by
  intro d hd
  obtain ⟨r, _, rfl⟩ := List.mem_map.1 hd
  exact noRs_arc)
end Go.Vm.Ytedcnkglldmkbaa
/- Walks: valid arcs. -/
namespace Go.Vm.Ytedcnkglldmkbaa
open Go Go.Vm
set_option maxRecDepth 10000
set_option linter.unusedSimpArgs false
set_option linter.unusedVariables false

def prevBad (p a : Int × Int) : Bool := decide (p.1 > a.1) || (p.1 == a.1 && decide (p.2 ≥ a.2))
def arcAt (m : Int) (l : List (Int × Int)) (i : Nat) : Bool :=
  inB (l.getD i (0, 0)).1 0 m && inB (l.getD i (0, 0)).2 0 m && !(decide (0 < i) && prevBad (l.getD (i - 1) (0, 0)) (l.getD i (0, 0)))
def goodA (n : Int) (l : List (Int × Int)) : Bool := (List.range l.length).all (arcAt (IntKind.i64.wrap (n - 1)) l) && (inB n 1 6 && decide (l.length ≤ 30))
theorem arc_step {m : Int} {l : List (Int × Int)} {k : Nat} (h : (List.range k).all (arcAt m l) = true) (h2 : arcAt m l k = true) : (List.range (k + 1)).all (arcAt m l) = true := by
  rw [List.range_succ, List.all_append, h]; simpa using h2
theorem arc_not {n : Int} {l : List (Int × Int)} {k : Nat} (hk : k < l.length) (h2 : arcAt (IntKind.i64.wrap (n - 1)) l k = false) : goodA n l = false := by
  unfold goodA
  rw [Bool.and_eq_false_iff]
  refine .inl ?_
  rw [← Bool.not_eq_true, List.all_eq_true]
  intro h
  have := h k (by simpa using hk)
  rw [h2] at this; cases this
theorem impl_isSpots.fc (n : Int) : FCt prog F_impl_isSpots [.ro] [Ii n] (Bb (inB n 1 6)) [] := by
  refine fct_run impl_isSpots.ok rfl ?_
  simp only [go_sem, ↓reduceIte, Nat.reduceEqDiff, Nat.reduceAdd, Nat.reduceMul, Nat.reduceBEq, Option.getD_none, Int.reduceToNat, Nat.reduceSub, Nat.reduceLT, Nat.reduceLeDiff, Int.reduceLE, Int.reduceLT, reduceCtorEq]
  refine fcW_bool (impl_in.fc ..) ?_
  simp only [go_sem, ↓reduceIte, Nat.reduceEqDiff, Nat.reduceAdd, Nat.reduceMul, Nat.reduceBEq, Option.getD_none, Int.reduceToNat, Nat.reduceSub, Nat.reduceLT, Nat.reduceLeDiff, Int.reduceLE, Int.reduceLT, reduceCtorEq]
theorem spec_GoodArcs.fc (n : Int) (l : List (Int × Int)) (hl : l.length ≤ 4294967296) : FCt prog F_spec_GoodArcs [.ro, .ro] [Ii n, arcs l] (Bb (goodA n l)) [] := by
  refine fct_run spec_GoodArcs.ok rfl ?_
  simp only [go_sem, ↓reduceIte, Nat.reduceEqDiff, Nat.reduceAdd, Nat.reduceMul, Nat.reduceBEq, Option.getD_none, Int.reduceToNat, Nat.reduceSub, Nat.reduceLT, Nat.reduceLeDiff, Int.reduceLE, Int.reduceLT, reduceCtorEq]
  refine R_loop (α := Nat) (fun k s' M' => k ≤ l.length ∧ s' 9 = aI k ∧ (List.range k).all (arcAt (IntKind.i64.wrap (n - 1)) l) = true) (fun k => l.length - k) 0 ⟨by omega, by simp only [go_sem, ↓reduceIte, Nat.reduceEqDiff, Nat.reduceAdd, Nat.reduceMul, Nat.reduceBEq, Option.getD_none, Int.reduceToNat, Nat.reduceSub, Nat.reduceLT, Nat.reduceLeDiff, Int.reduceLE, Int.reduceLT, reduceCtorEq]; rfl, by simp⟩ ?_
  rintro k s' M' ⟨hk, h9, hr⟩ ho
  have h0 : s' 0 = aI n := by rw [ho 0 rfl]; simp only [go_sem, ↓reduceIte, Nat.reduceEqDiff, Nat.reduceAdd, Nat.reduceMul, Nat.reduceBEq, Option.getD_none, Int.reduceToNat, Nat.reduceSub, Nat.reduceLT, Nat.reduceLeDiff, Int.reduceLE, Int.reduceLT, reduceCtorEq]
  have h1 : s' 1 = .dat none (arcs l) := by rw [ho 1 rfl]; simp only [go_sem, ↓reduceIte, Nat.reduceEqDiff, Nat.reduceAdd, Nat.reduceMul, Nat.reduceBEq, Option.getD_none, Int.reduceToNat, Nat.reduceSub, Nat.reduceLT, Nat.reduceLeDiff, Int.reduceLE, Int.reduceLT, reduceCtorEq]
  have h7 : s' 7 = .dat none (arcs l) := by rw [ho 7 rfl]; simp only [go_sem, ↓reduceIte, Nat.reduceEqDiff, Nat.reduceAdd, Nat.reduceMul, Nat.reduceBEq, Option.getD_none, Int.reduceToNat, Nat.reduceSub, Nat.reduceLT, Nat.reduceLeDiff, Int.reduceLE, Int.reduceLT, reduceCtorEq]
  have h8 : s' 8 = aI l.length := by rw [ho 8 rfl]; simp only [go_sem, ↓reduceIte, Nat.reduceEqDiff, Nat.reduceAdd, Nat.reduceMul, Nat.reduceBEq, Option.getD_none, Int.reduceToNat, Nat.reduceSub, Nat.reduceLT, Nat.reduceLeDiff, Int.reduceLE, Int.reduceLT, reduceCtorEq]
  clear ho
  unfold spec_GoodArcs.b0
  by_cases hlt : k < l.length
  · have hi' : (k : Int) < l.length := by omega
    have ga : l[k]? = some l[k] := List.getElem?_eq_getElem hlt
    have hw : IntKind.i64.wrap (k + 1) = ((k + 1 : Nat) : Int) := wrap_k hlt (by omega)
    have gd : l.getD k (0, 0) = l[k] := by rw [List.getD_eq_getElem?_getD, ga]; rfl
    simp only [go_sem, ↓reduceIte, Nat.reduceEqDiff, Nat.reduceAdd, Nat.reduceMul, Nat.reduceBEq, Option.getD_none, Int.reduceToNat, Nat.reduceSub, Nat.reduceLT, Nat.reduceLeDiff, Int.reduceLE, Int.reduceLT, reduceCtorEq, hi', ga, h0, h1, h7, h8, h9]
    refine fcW_bool (spec_l1In.fc ..) ?_
    cases ha : inB l[k].1 0 (IntKind.i64.wrap (n - 1)) with
    | false =>
      have hf := arc_not hlt (n := n) (by simp only [arcAt, gd, ha, Bool.false_and])
      simp only [go_sem, ↓reduceIte, Nat.reduceEqDiff, Nat.reduceAdd, Nat.reduceMul, Nat.reduceBEq, Option.getD_none, Int.reduceToNat, Nat.reduceSub, Nat.reduceLT, Nat.reduceLeDiff, Int.reduceLE, Int.reduceLT, reduceCtorEq, hf, h0, h1, h7, h8, h9]
    | true =>
      simp only [go_sem, ↓reduceIte, Nat.reduceEqDiff, Nat.reduceAdd, Nat.reduceMul, Nat.reduceBEq, Option.getD_none, Int.reduceToNat, Nat.reduceSub, Nat.reduceLT, Nat.reduceLeDiff, Int.reduceLE, Int.reduceLT, reduceCtorEq, h0, h1, h7, h8, h9]
      refine fcW_bool (spec_l1In.fc ..) ?_
      cases hb : inB l[k].2 0 (IntKind.i64.wrap (n - 1)) with
      | false =>
        have hf := arc_not hlt (n := n) (by simp only [arcAt, gd, ha, hb, Bool.false_and, Bool.and_false])
        simp only [go_sem, ↓reduceIte, Nat.reduceEqDiff, Nat.reduceAdd, Nat.reduceMul, Nat.reduceBEq, Option.getD_none, Int.reduceToNat, Nat.reduceSub, Nat.reduceLT, Nat.reduceLeDiff, Int.reduceLE, Int.reduceLT, reduceCtorEq, hf, h0, h1, h7, h8, h9]
      | true =>
        by_cases hk0 : 0 < k
        · have hk0' : (k : Int) > 0 := by omega
          have gb : l[k - 1]? = some l[k - 1] := List.getElem?_eq_getElem (by omega)
          have gd1 : l.getD (k - 1) (0, 0) = l[k - 1] := by rw [List.getD_eq_getElem?_getD, gb]; rfl
          have hw1 : IntKind.i64.wrap (k - 1) = ((k - 1 : Nat) : Int) := by rw [wrap_in (by omega) (by omega)]; omega
          have hi1 : ((k - 1 : Nat) : Int) < l.length := by omega
          have hat : arcAt (IntKind.i64.wrap (n - 1)) l k = !prevBad l[k - 1] l[k] := by simp only [arcAt, gd, gd1, ha, hb, hk0, decide_true, Bool.true_and]
          by_cases c1 : l[k - 1].1 > l[k].1
          · have hf := arc_not hlt (n := n) (by rw [hat]; simp [prevBad, c1])
            simp only [go_sem, ↓reduceIte, Nat.reduceEqDiff, Nat.reduceAdd, Nat.reduceMul, Nat.reduceBEq, Option.getD_none, Int.reduceToNat, Nat.reduceSub, Nat.reduceLT, Nat.reduceLeDiff, Int.reduceLE, Int.reduceLT, reduceCtorEq, c1, hf, h0, h1, h7, h8, h9, hk0', gb, hw1, hi1]
          · by_cases c2 : l[k - 1].1 = l[k].1
            · have c2' : (l[k - 1].1 == l[k].1) = true := by simpa using c2
              by_cases c3 : l[k - 1].2 ≥ l[k].2
              · have hf := arc_not hlt (n := n) (by rw [hat]; simp [prevBad, c2, c3])
                simp only [go_sem, ↓reduceIte, Nat.reduceEqDiff, Nat.reduceAdd, Nat.reduceMul, Nat.reduceBEq, Option.getD_none, Int.reduceToNat, Nat.reduceSub, Nat.reduceLT, Nat.reduceLeDiff, Int.reduceLE, Int.reduceLT, reduceCtorEq, c1, c2', c3, hf, h0, h1, h7, h8, h9, hk0', gb, hw1, hi1]
              · simp only [go_sem, ↓reduceIte, Nat.reduceEqDiff, Nat.reduceAdd, Nat.reduceMul, Nat.reduceBEq, Option.getD_none, Int.reduceToNat, Nat.reduceSub, Nat.reduceLT, Nat.reduceLeDiff, Int.reduceLE, Int.reduceLT, reduceCtorEq, c1, c2', c3, hw, h0, h1, h7, h8, h9, hk0', gb, hw1, hi1]
                exact ⟨k + 1, by dsimp only; omega, by omega, by simp only [go_sem, ↓reduceIte, Nat.reduceEqDiff, Nat.reduceAdd, Nat.reduceMul, Nat.reduceBEq, Option.getD_none, Int.reduceToNat, Nat.reduceSub, Nat.reduceLT, Nat.reduceLeDiff, Int.reduceLE, Int.reduceLT, reduceCtorEq, h0, h1, h7, h8, h9, hk0', gb, hw1, hi1], arc_step hr (by rw [hat]; simp [prevBad, c1, c3])⟩
            · have c2' : (l[k - 1].1 == l[k].1) = false := by simpa using c2
              simp only [go_sem, ↓reduceIte, Nat.reduceEqDiff, Nat.reduceAdd, Nat.reduceMul, Nat.reduceBEq, Option.getD_none, Int.reduceToNat, Nat.reduceSub, Nat.reduceLT, Nat.reduceLeDiff, Int.reduceLE, Int.reduceLT, reduceCtorEq, c1, c2', hw, h0, h1, h7, h8, h9, hk0', gb, hw1, hi1]
              exact ⟨k + 1, by dsimp only; omega, by omega, by simp only [go_sem, ↓reduceIte, Nat.reduceEqDiff, Nat.reduceAdd, Nat.reduceMul, Nat.reduceBEq, Option.getD_none, Int.reduceToNat, Nat.reduceSub, Nat.reduceLT, Nat.reduceLeDiff, Int.reduceLE, Int.reduceLT, reduceCtorEq, h0, h1, h7, h8, h9, hk0', gb, hw1, hi1], arc_step hr (by rw [hat]; simp [prevBad, c1, c2])⟩
        · have hk0' : ¬ (k : Int) > 0 := by omega
          simp only [go_sem, ↓reduceIte, Nat.reduceEqDiff, Nat.reduceAdd, Nat.reduceMul, Nat.reduceBEq, Option.getD_none, Int.reduceToNat, Nat.reduceSub, Nat.reduceLT, Nat.reduceLeDiff, Int.reduceLE, Int.reduceLT, reduceCtorEq, hk0', hw, h0, h1, h7, h8, h9]
          exact ⟨k + 1, by dsimp only; omega, by omega, by simp only [go_sem, ↓reduceIte, Nat.reduceEqDiff, Nat.reduceAdd, Nat.reduceMul, Nat.reduceBEq, Option.getD_none, Int.reduceToNat, Nat.reduceSub, Nat.reduceLT, Nat.reduceLeDiff, Int.reduceLE, Int.reduceLT, reduceCtorEq, h0, h1, h7, h8, h9], arc_step hr (by simp only [arcAt, gd, ha, hb, hk0, decide_false, Bool.false_and]; rfl)⟩
  · have hi' : ¬ (k : Int) < l.length := by omega
    have hkl : k = l.length := by omega
    subst hkl
    have hf : goodA n l = (inB n 1 6 && decide ((l.length : Int) ≤ 30)) := by
      simp only [goodA, hr, Bool.true_and]
      rw [show decide (l.length ≤ 30) = decide ((l.length : Int) ≤ 30) from decide_eq_decide.2 (by omega)]
    simp only [go_sem, ↓reduceIte, Nat.reduceEqDiff, Nat.reduceAdd, Nat.reduceMul, Nat.reduceBEq, Option.getD_none, Int.reduceToNat, Nat.reduceSub, Nat.reduceLT, Nat.reduceLeDiff, Int.reduceLE, Int.reduceLT, reduceCtorEq, hi', h0, h1, h7, h8, h9]
    refine fcW_bool (spec_l1In.fc ..) ?_
    cases hin : inB n 1 6
    · simp only [go_sem, ↓reduceIte, Nat.reduceEqDiff, Nat.reduceAdd, Nat.reduceMul, Nat.reduceBEq, Option.getD_none, Int.reduceToNat, Nat.reduceSub, Nat.reduceLT, Nat.reduceLeDiff, Int.reduceLE, Int.reduceLT, reduceCtorEq, hf, hin, h0, h1, h7, h8, h9]
    · simp only [go_sem, ↓reduceIte, Nat.reduceEqDiff, Nat.reduceAdd, Nat.reduceMul, Nat.reduceBEq, Option.getD_none, Int.reduceToNat, Nat.reduceSub, Nat.reduceLT, Nat.reduceLeDiff, Int.reduceLE, Int.reduceLT, reduceCtorEq, hf, hin, h0, h1, h7, h8, h9]
theorem impl_GoodArcs.fc (n : Int) (l : List (Int × Int)) (hl : l.length ≤ 4294967296) : FCt prog F_impl_GoodArcs [.ro, .ro] [Ii n, arcs l] (Bb (goodA n l)) [] := by
  refine fct_run impl_GoodArcs.ok rfl ?_
  simp only [go_sem, ↓reduceIte, Nat.reduceEqDiff, Nat.reduceAdd, Nat.reduceMul, Nat.reduceBEq, Option.getD_none, Int.reduceToNat, Nat.reduceSub, Nat.reduceLT, Nat.reduceLeDiff, Int.reduceLE, Int.reduceLT, reduceCtorEq]
  refine R_loop (α := Nat) (fun k s' M' => k ≤ l.length ∧ s' 10 = aI k ∧ (List.range k).all (arcAt (IntKind.i64.wrap (n - 1)) l) = true) (fun k => l.length - k) 0 ⟨by omega, by simp only [go_sem, ↓reduceIte, Nat.reduceEqDiff, Nat.reduceAdd, Nat.reduceMul, Nat.reduceBEq, Option.getD_none, Int.reduceToNat, Nat.reduceSub, Nat.reduceLT, Nat.reduceLeDiff, Int.reduceLE, Int.reduceLT, reduceCtorEq]; rfl, by simp⟩ ?_
  rintro k s' M' ⟨hk, h10, hr⟩ ho
  have h0 : s' 0 = aI n := by rw [ho 0 rfl]; simp only [go_sem, ↓reduceIte, Nat.reduceEqDiff, Nat.reduceAdd, Nat.reduceMul, Nat.reduceBEq, Option.getD_none, Int.reduceToNat, Nat.reduceSub, Nat.reduceLT, Nat.reduceLeDiff, Int.reduceLE, Int.reduceLT, reduceCtorEq]
  have h1 : s' 1 = .dat none (arcs l) := by rw [ho 1 rfl]; simp only [go_sem, ↓reduceIte, Nat.reduceEqDiff, Nat.reduceAdd, Nat.reduceMul, Nat.reduceBEq, Option.getD_none, Int.reduceToNat, Nat.reduceSub, Nat.reduceLT, Nat.reduceLeDiff, Int.reduceLE, Int.reduceLT, reduceCtorEq]
  have h7 : s' 8 = .dat none (arcs l) := by rw [ho 8 rfl]; simp only [go_sem, ↓reduceIte, Nat.reduceEqDiff, Nat.reduceAdd, Nat.reduceMul, Nat.reduceBEq, Option.getD_none, Int.reduceToNat, Nat.reduceSub, Nat.reduceLT, Nat.reduceLeDiff, Int.reduceLE, Int.reduceLT, reduceCtorEq]
  have h99 : s' 9 = aI l.length := by rw [ho 9 rfl]; simp only [go_sem, ↓reduceIte, Nat.reduceEqDiff, Nat.reduceAdd, Nat.reduceMul, Nat.reduceBEq, Option.getD_none, Int.reduceToNat, Nat.reduceSub, Nat.reduceLT, Nat.reduceLeDiff, Int.reduceLE, Int.reduceLT, reduceCtorEq]
  clear ho
  unfold impl_GoodArcs.b0
  by_cases hlt : k < l.length
  · have hi' : (k : Int) < l.length := by omega
    have ga : l[k]? = some l[k] := List.getElem?_eq_getElem hlt
    have hw : IntKind.i64.wrap (k + 1) = ((k + 1 : Nat) : Int) := wrap_k hlt (by omega)
    have gd : l.getD k (0, 0) = l[k] := by rw [List.getD_eq_getElem?_getD, ga]; rfl
    simp only [go_sem, ↓reduceIte, Nat.reduceEqDiff, Nat.reduceAdd, Nat.reduceMul, Nat.reduceBEq, Option.getD_none, Int.reduceToNat, Nat.reduceSub, Nat.reduceLT, Nat.reduceLeDiff, Int.reduceLE, Int.reduceLT, reduceCtorEq, hi', ga, h0, h1, h7, h99, h10]
    refine fcW_bool (impl_in.fc ..) ?_
    cases ha : inB l[k].1 0 (IntKind.i64.wrap (n - 1)) with
    | false =>
      have hf := arc_not hlt (n := n) (by simp only [arcAt, gd, ha, Bool.false_and])
      simp only [go_sem, ↓reduceIte, Nat.reduceEqDiff, Nat.reduceAdd, Nat.reduceMul, Nat.reduceBEq, Option.getD_none, Int.reduceToNat, Nat.reduceSub, Nat.reduceLT, Nat.reduceLeDiff, Int.reduceLE, Int.reduceLT, reduceCtorEq, hf, h0, h1, h7, h99, h10]
    | true =>
      simp only [go_sem, ↓reduceIte, Nat.reduceEqDiff, Nat.reduceAdd, Nat.reduceMul, Nat.reduceBEq, Option.getD_none, Int.reduceToNat, Nat.reduceSub, Nat.reduceLT, Nat.reduceLeDiff, Int.reduceLE, Int.reduceLT, reduceCtorEq, h0, h1, h7, h99, h10]
      refine fcW_bool (impl_in.fc ..) ?_
      cases hb : inB l[k].2 0 (IntKind.i64.wrap (n - 1)) with
      | false =>
        have hf := arc_not hlt (n := n) (by simp only [arcAt, gd, ha, hb, Bool.false_and, Bool.and_false])
        simp only [go_sem, ↓reduceIte, Nat.reduceEqDiff, Nat.reduceAdd, Nat.reduceMul, Nat.reduceBEq, Option.getD_none, Int.reduceToNat, Nat.reduceSub, Nat.reduceLT, Nat.reduceLeDiff, Int.reduceLE, Int.reduceLT, reduceCtorEq, hf, h0, h1, h7, h99, h10]
      | true =>
        by_cases hk0 : 0 < k
        · have hk0' : (k : Int) > 0 := by omega
          have gb : l[k - 1]? = some l[k - 1] := List.getElem?_eq_getElem (by omega)
          have gd1 : l.getD (k - 1) (0, 0) = l[k - 1] := by rw [List.getD_eq_getElem?_getD, gb]; rfl
          have hw1 : IntKind.i64.wrap (k - 1) = ((k - 1 : Nat) : Int) := by rw [wrap_in (by omega) (by omega)]; omega
          have hi1 : ((k - 1 : Nat) : Int) < l.length := by omega
          have hmx : (if ((k - 1 : Nat) : Int) > 0 then ((k - 1 : Nat) : Int) else 0) = ((k - 1 : Nat) : Int) := by split <;> omega
          have hat : arcAt (IntKind.i64.wrap (n - 1)) l k = !prevBad l[k - 1] l[k] := by simp only [arcAt, gd, gd1, ha, hb, hk0, decide_true, Bool.true_and]
          by_cases c1 : l[k - 1].1 > l[k].1
          · have hf := arc_not hlt (n := n) (by rw [hat]; simp [prevBad, c1])
            simp only [go_sem, ↓reduceIte, Nat.reduceEqDiff, Nat.reduceAdd, Nat.reduceMul, Nat.reduceBEq, Option.getD_none, Int.reduceToNat, Nat.reduceSub, Nat.reduceLT, Nat.reduceLeDiff, Int.reduceLE, Int.reduceLT, reduceCtorEq, c1, hf, h0, h1, h7, h99, h10, hk0', gb, hw1, hi1, hmx]
          · by_cases c2 : l[k - 1].1 = l[k].1
            · have c2' : (l[k - 1].1 == l[k].1) = true := by simpa using c2
              by_cases c3 : l[k - 1].2 ≥ l[k].2
              · have hf := arc_not hlt (n := n) (by rw [hat]; simp [prevBad, c2, c3])
                simp only [go_sem, ↓reduceIte, Nat.reduceEqDiff, Nat.reduceAdd, Nat.reduceMul, Nat.reduceBEq, Option.getD_none, Int.reduceToNat, Nat.reduceSub, Nat.reduceLT, Nat.reduceLeDiff, Int.reduceLE, Int.reduceLT, reduceCtorEq, c1, c2', c3, hf, h0, h1, h7, h99, h10, hk0', gb, hw1, hi1, hmx]
              · simp only [go_sem, ↓reduceIte, Nat.reduceEqDiff, Nat.reduceAdd, Nat.reduceMul, Nat.reduceBEq, Option.getD_none, Int.reduceToNat, Nat.reduceSub, Nat.reduceLT, Nat.reduceLeDiff, Int.reduceLE, Int.reduceLT, reduceCtorEq, c1, c2', c3, hw, h0, h1, h7, h99, h10, hk0', gb, hw1, hi1, hmx]
                exact ⟨k + 1, by dsimp only; omega, by omega, by simp only [go_sem, ↓reduceIte, Nat.reduceEqDiff, Nat.reduceAdd, Nat.reduceMul, Nat.reduceBEq, Option.getD_none, Int.reduceToNat, Nat.reduceSub, Nat.reduceLT, Nat.reduceLeDiff, Int.reduceLE, Int.reduceLT, reduceCtorEq, h0, h1, h7, h99, h10, hk0', gb, hw1, hi1, hmx], arc_step hr (by rw [hat]; simp [prevBad, c1, c3])⟩
            · have c2' : (l[k - 1].1 == l[k].1) = false := by simpa using c2
              simp only [go_sem, ↓reduceIte, Nat.reduceEqDiff, Nat.reduceAdd, Nat.reduceMul, Nat.reduceBEq, Option.getD_none, Int.reduceToNat, Nat.reduceSub, Nat.reduceLT, Nat.reduceLeDiff, Int.reduceLE, Int.reduceLT, reduceCtorEq, c1, c2', hw, h0, h1, h7, h99, h10, hk0', gb, hw1, hi1, hmx]
              exact ⟨k + 1, by dsimp only; omega, by omega, by simp only [go_sem, ↓reduceIte, Nat.reduceEqDiff, Nat.reduceAdd, Nat.reduceMul, Nat.reduceBEq, Option.getD_none, Int.reduceToNat, Nat.reduceSub, Nat.reduceLT, Nat.reduceLeDiff, Int.reduceLE, Int.reduceLT, reduceCtorEq, h0, h1, h7, h99, h10, hk0', gb, hw1, hi1, hmx], arc_step hr (by rw [hat]; simp [prevBad, c1, c2])⟩
        · have hk0' : ¬ (k : Int) > 0 := by omega
          obtain rfl : k = 0 := by omega
          have hm1 : IntKind.i64.wrap (((0 : Nat) : Int) - 1) = -1 := rfl
          have hm2 : (if (-1 : Int) > 0 then (-1 : Int) else 0) = 0 := rfl
          have hl0 : (0 : Int) < l.length := by omega
          have ga0 : l[0]? = some l[0] := List.getElem?_eq_getElem hlt
          simp only [go_sem, ↓reduceIte, Nat.reduceEqDiff, Nat.reduceAdd, Nat.reduceMul, Nat.reduceBEq, Option.getD_none, Int.reduceToNat, Nat.reduceSub, Nat.reduceLT, Nat.reduceLeDiff, Int.reduceLE, Int.reduceLT, reduceCtorEq, hk0', hw, hm1, hm2, hl0, ga0, Int.le_refl, h0, h1, h7, h99, h10]
          exact ⟨0 + 1, by dsimp only; omega, by omega, by simp only [go_sem, ↓reduceIte, Nat.reduceEqDiff, Nat.reduceAdd, Nat.reduceMul, Nat.reduceBEq, Option.getD_none, Int.reduceToNat, Nat.reduceSub, Nat.reduceLT, Nat.reduceLeDiff, Int.reduceLE, Int.reduceLT, reduceCtorEq, h0, h1, h7, h99, h10], arc_step hr (by simp only [arcAt, gd, ha, hb, hk0, decide_false, Bool.false_and]; rfl)⟩
  · have hi' : ¬ (k : Int) < l.length := by omega
    have hkl : k = l.length := by omega
    subst hkl
    have hf : goodA n l = (inB n 1 6 && decide ((l.length : Int) ≤ 30)) := by
      simp only [goodA, hr, Bool.true_and]
      rw [show decide (l.length ≤ 30) = decide ((l.length : Int) ≤ 30) from decide_eq_decide.2 (by omega)]
    simp only [go_sem, ↓reduceIte, Nat.reduceEqDiff, Nat.reduceAdd, Nat.reduceMul, Nat.reduceBEq, Option.getD_none, Int.reduceToNat, Nat.reduceSub, Nat.reduceLT, Nat.reduceLeDiff, Int.reduceLE, Int.reduceLT, reduceCtorEq, hi', h0, h1, h7, h99, h10]
    refine fcW_bool (impl_isSpots.fc ..) ?_
    cases hin : inB n 1 6
    · simp only [go_sem, ↓reduceIte, Nat.reduceEqDiff, Nat.reduceAdd, Nat.reduceMul, Nat.reduceBEq, Option.getD_none, Int.reduceToNat, Nat.reduceSub, Nat.reduceLT, Nat.reduceLeDiff, Int.reduceLE, Int.reduceLT, reduceCtorEq, hf, hin, h0, h1, h7, h99, h10]
    · simp only [go_sem, ↓reduceIte, Nat.reduceEqDiff, Nat.reduceAdd, Nat.reduceMul, Nat.reduceBEq, Option.getD_none, Int.reduceToNat, Nat.reduceSub, Nat.reduceLT, Nat.reduceLeDiff, Int.reduceLE, Int.reduceLT, reduceCtorEq, hf, hin, h0, h1, h7, h99, h10]
end Go.Vm.Ytedcnkglldmkbaa
/- Walks: rows of rows; clauses. -/
namespace Go.Vm.Ytedcnkglldmkbaa
open Go Go.Vm
set_option maxRecDepth 10000
set_option linter.unusedSimpArgs false
set_option linter.unusedVariables false

theorem spec_l1Has.fc (l : List Int) (n : Int) (hl : l.length ≤ 4294967296) : FCt prog F_spec_l1Has [.ro, .ro] [ints l, Ii n] (Bb (l.any (· == n))) [] := by
  refine fct_run spec_l1Has.ok rfl ?_
  simp only [go_sem, ↓reduceIte, Nat.reduceEqDiff, Nat.reduceAdd, Nat.reduceMul, Nat.reduceBEq, Option.getD_none, Int.reduceToNat, Nat.reduceSub, Nat.reduceLT, Nat.reduceLeDiff, Int.reduceLE, Int.reduceLT, reduceCtorEq]
  refine R_loop (α := Nat) (fun k s' M' => k ≤ l.length ∧ s' 9 = aI k ∧ (l.take k).all (fun x => !(x == n)) = true) (fun k => l.length - k) 0 ⟨by omega, by simp only [go_sem, ↓reduceIte, Nat.reduceEqDiff, Nat.reduceAdd, Nat.reduceMul, Nat.reduceBEq, Option.getD_none, Int.reduceToNat, Nat.reduceSub, Nat.reduceLT, Nat.reduceLeDiff, Int.reduceLE, Int.reduceLT, reduceCtorEq]; rfl, by simp⟩ ?_
  rintro k s' M' ⟨hk, h9, hr⟩ ho
  have h1 : s' 1 = aI n := by rw [ho 1 rfl]; simp only [go_sem, ↓reduceIte, Nat.reduceEqDiff, Nat.reduceAdd, Nat.reduceMul, Nat.reduceBEq, Option.getD_none, Int.reduceToNat, Nat.reduceSub, Nat.reduceLT, Nat.reduceLeDiff, Int.reduceLE, Int.reduceLT, reduceCtorEq]
  have h7 : s' 7 = .dat none (ints l) := by rw [ho 7 rfl]; simp only [go_sem, ↓reduceIte, Nat.reduceEqDiff, Nat.reduceAdd, Nat.reduceMul, Nat.reduceBEq, Option.getD_none, Int.reduceToNat, Nat.reduceSub, Nat.reduceLT, Nat.reduceLeDiff, Int.reduceLE, Int.reduceLT, reduceCtorEq]
  have h8 : s' 8 = aI l.length := by rw [ho 8 rfl]; simp only [go_sem, ↓reduceIte, Nat.reduceEqDiff, Nat.reduceAdd, Nat.reduceMul, Nat.reduceBEq, Option.getD_none, Int.reduceToNat, Nat.reduceSub, Nat.reduceLT, Nat.reduceLeDiff, Int.reduceLE, Int.reduceLT, reduceCtorEq]
  clear ho
  unfold spec_l1Has.b0
  by_cases hlt : k < l.length
  · have hi' : (k : Int) < l.length := by omega
    have ga : l[k]? = some l[k] := List.getElem?_eq_getElem hlt
    have hw : IntKind.i64.wrap (k + 1) = ((k + 1 : Nat) : Int) := wrap_k hlt (by omega)
    simp only [go_sem, ↓reduceIte, Nat.reduceEqDiff, Nat.reduceAdd, Nat.reduceMul, Nat.reduceBEq, Option.getD_none, Int.reduceToNat, Nat.reduceSub, Nat.reduceLT, Nat.reduceLeDiff, Int.reduceLE, Int.reduceLT, reduceCtorEq, h1, h7, h8, h9, hi', ga]
    refine cdW_any (fun e => ?_) (fun e => ?_)
    · have : l.any (· == n) = true := List.any_eq_true.2 ⟨l[k], List.getElem_mem hlt, e⟩
      simp only [go_sem, ↓reduceIte, Nat.reduceEqDiff, Nat.reduceAdd, Nat.reduceMul, Nat.reduceBEq, Option.getD_none, Int.reduceToNat, Nat.reduceSub, Nat.reduceLT, Nat.reduceLeDiff, Int.reduceLE, Int.reduceLT, reduceCtorEq, this]
    · simp only [go_sem, ↓reduceIte, Nat.reduceEqDiff, Nat.reduceAdd, Nat.reduceMul, Nat.reduceBEq, Option.getD_none, Int.reduceToNat, Nat.reduceSub, Nat.reduceLT, Nat.reduceLeDiff, Int.reduceLE, Int.reduceLT, reduceCtorEq, h9, hw]
      exact ⟨k + 1, by dsimp only; omega, by omega, by simp only [go_sem, ↓reduceIte, Nat.reduceEqDiff, Nat.reduceAdd, Nat.reduceMul, Nat.reduceBEq, Option.getD_none, Int.reduceToNat, Nat.reduceSub, Nat.reduceLT, Nat.reduceLeDiff, Int.reduceLE, Int.reduceLT, reduceCtorEq], all_take hlt hr (by simp [e])⟩
  · have hi' : ¬ (k : Int) < l.length := by omega
    rw [List.take_of_length_le (by omega)] at hr
    have : l.any (· == n) = false := by
      rw [List.any_eq_false]; intro x hx; have := List.all_eq_true.1 hr x hx; simpa using this
    simp only [go_sem, ↓reduceIte, Nat.reduceEqDiff, Nat.reduceAdd, Nat.reduceMul, Nat.reduceBEq, Option.getD_none, Int.reduceToNat, Nat.reduceSub, Nat.reduceLT, Nat.reduceLeDiff, Int.reduceLE, Int.reduceLT, reduceCtorEq, h1, h7, h8, h9, hi', this]
end Go.Vm.Ytedcnkglldmkbaa
/- Walks: sorted rows. -/
namespace Go.Vm.Ytedcnkglldmkbaa
open Go Go.Vm
set_option maxRecDepth 10000
set_option linter.unusedSimpArgs false
set_option linter.unusedVariables false

abbrev rsI (l : List Int) : D := .rs 1 (l.map Ii)
/-- where x belongs -/
def putK (l : List Int) (x : Int) : Nat := l.findIdx (fun y => !decide (y < x))
def putI (l : List Int) (x : Int) : List Int := if l[putK l x]? = some x then l else l.take (putK l x) ++ x :: l.drop (putK l x)
theorem putK_at {l : List Int} {x : Int} {k : Nat} (hk : k < l.length) (h : (l.take k).all (fun y => decide (y < x)) = true) (h2 : ¬ l[k] < x) : putK l x = k := by
  unfold putK
  rw [List.findIdx_eq hk]
  refine ⟨by simp [h2], fun j hj => ?_⟩
  have := List.all_eq_true.1 h l[j] (by rw [List.mem_take_iff_getElem]; exact ⟨j, by omega, rfl⟩)
  simpa using this
theorem putK_end {l : List Int} {x : Int} (h : l.all (fun y => decide (y < x)) = true) : putK l x = l.length := by
  unfold putK
  rw [List.findIdx_eq_length]
  intro y hy
  have := List.all_eq_true.1 h y hy
  simpa using this
theorem allSc {l : List Int} : (l.map Ii).all isSc = true := by
  rw [List.all_eq_true]; intro d hd; obtain ⟨x, _, rfl⟩ := List.mem_map.1 hd; rfl
theorem putL_len {l : List Int} {k : Nat} (hk : k ≤ l.length) : (l.take k).length = k := by rw [List.length_take]; omega
theorem spec_l1Put.fc (l : List Int) (x : Int) (hl : l.length ≤ 4294967296) : FCt prog F_spec_l1Put [.ro, .ro] [ints l, Ii x] (rsI (putI l x)) [] := by
  refine fct_run spec_l1Put.ok rfl ?_
  simp only [go_sem, ↓reduceIte, Nat.reduceEqDiff, Nat.reduceAdd, Nat.reduceMul, Nat.reduceBEq, Option.getD_none, Int.reduceToNat, Nat.reduceSub, Nat.reduceLT, Nat.reduceLeDiff, Int.reduceLE, Int.reduceLT, reduceCtorEq]
  refine R_cut (fun e s' M' => e = .ex 0 ∧ s' 5 = aI (putK l x) ∧ putK l x ≤ l.length) ?_ ?_
  · refine R_loop (α := Nat) (fun k s' M' => k ≤ l.length ∧ s' 5 = aI k ∧ (l.take k).all (fun y => decide (y < x)) = true) (fun k => l.length - k) 0 ⟨by omega, by simp only [go_sem, ↓reduceIte, Nat.reduceEqDiff, Nat.reduceAdd, Nat.reduceMul, Nat.reduceBEq, Option.getD_none, Int.reduceToNat, Nat.reduceSub, Nat.reduceLT, Nat.reduceLeDiff, Int.reduceLE, Int.reduceLT, reduceCtorEq]; rfl, by simp⟩ ?_
    rintro k s' M' ⟨hk, h5, hr⟩ ho
    have h0 : s' 0 = .dat none (ints l) := by rw [ho 0 rfl]; simp only [go_sem, ↓reduceIte, Nat.reduceEqDiff, Nat.reduceAdd, Nat.reduceMul, Nat.reduceBEq, Option.getD_none, Int.reduceToNat, Nat.reduceSub, Nat.reduceLT, Nat.reduceLeDiff, Int.reduceLE, Int.reduceLT, reduceCtorEq]
    have h1 : s' 1 = aI x := by rw [ho 1 rfl]; simp only [go_sem, ↓reduceIte, Nat.reduceEqDiff, Nat.reduceAdd, Nat.reduceMul, Nat.reduceBEq, Option.getD_none, Int.reduceToNat, Nat.reduceSub, Nat.reduceLT, Nat.reduceLeDiff, Int.reduceLE, Int.reduceLT, reduceCtorEq]
    clear ho
    unfold spec_l1Put.b0
    by_cases hlt : k < l.length
    · have hi' : (k : Int) < l.length := by omega
      have ga : l[k]? = some l[k] := List.getElem?_eq_getElem hlt
      have hw : IntKind.i64.wrap (k + 1) = ((k + 1 : Nat) : Int) := wrap_k hlt (by omega)
      by_cases hc : l[k] < x
      · simp only [go_sem, ↓reduceIte, Nat.reduceEqDiff, Nat.reduceAdd, Nat.reduceMul, Nat.reduceBEq, Option.getD_none, Int.reduceToNat, Nat.reduceSub, Nat.reduceLT, Nat.reduceLeDiff, Int.reduceLE, Int.reduceLT, reduceCtorEq, hi', ga, hc, hw, h0, h1, h5]
        exact ⟨k + 1, by dsimp only; omega, by omega, by simp only [go_sem, ↓reduceIte, Nat.reduceEqDiff, Nat.reduceAdd, Nat.reduceMul, Nat.reduceBEq, Option.getD_none, Int.reduceToNat, Nat.reduceSub, Nat.reduceLT, Nat.reduceLeDiff, Int.reduceLE, Int.reduceLT, reduceCtorEq, h0, h1, h5], all_take hlt hr (by simpa using hc)⟩
      · have hp := putK_at hlt hr hc
        simp only [go_sem, ↓reduceIte, Nat.reduceEqDiff, Nat.reduceAdd, Nat.reduceMul, Nat.reduceBEq, Option.getD_none, Int.reduceToNat, Nat.reduceSub, Nat.reduceLT, Nat.reduceLeDiff, Int.reduceLE, Int.reduceLT, reduceCtorEq, hi', ga, hc, hp, h0, h1, h5]
        exact hk
    · have hi' : ¬ (k : Int) < l.length := by omega
      rw [List.take_of_length_le (by omega)] at hr
      have hp := putK_end hr
      obtain rfl : k = l.length := by omega
      simp only [go_sem, ↓reduceIte, Nat.reduceEqDiff, Nat.reduceAdd, Nat.reduceMul, Nat.reduceBEq, Option.getD_none, Int.reduceToNat, Nat.reduceSub, Nat.reduceLT, Nat.reduceLeDiff, Int.reduceLE, Int.reduceLT, reduceCtorEq, hi', hp, h0, h1, h5]
  · rintro e s' M' ⟨rfl, h5, hk⟩ ho
    have h0 : s' 0 = .dat none (ints l) := by rw [ho 0 rfl]; simp only [go_sem, ↓reduceIte, Nat.reduceEqDiff, Nat.reduceAdd, Nat.reduceMul, Nat.reduceBEq, Option.getD_none, Int.reduceToNat, Nat.reduceSub, Nat.reduceLT, Nat.reduceLeDiff, Int.reduceLE, Int.reduceLT, reduceCtorEq]
    have h1 : s' 1 = aI x := by rw [ho 1 rfl]; simp only [go_sem, ↓reduceIte, Nat.reduceEqDiff, Nat.reduceAdd, Nat.reduceMul, Nat.reduceBEq, Option.getD_none, Int.reduceToNat, Nat.reduceSub, Nat.reduceLT, Nat.reduceLeDiff, Int.reduceLE, Int.reduceLT, reduceCtorEq]
    have hle : (putK l x : Int) ≤ l.length := by omega
    have hlt2 := putL_len hk
    have hb1 : putK l x * 8 ≤ 70368744177664 := by omega
    have hb2 : (putK l x + 1) * 8 ≤ 70368744177664 := by omega
    have hb3 : (putK l x + 1 + (l.length - putK l x)) * 8 ≤ 70368744177664 := by omega
    have ht1 : (l.take (putK l x)).take (putK l x) = l.take (putK l x) := by rw [List.take_take, Nat.min_self]
    have hl1 : ((l.take (putK l x)).map Ii ++ [D.int IntKind.i64 x]).length = putK l x + 1 := by rw [List.length_append, List.length_map, hlt2]; rfl
    have ht2 : ((l.take (putK l x)).map Ii ++ [D.int IntKind.i64 x]).take (putK l x + 1) = (l.take (putK l x)).map Ii ++ [D.int IntKind.i64 x] := List.take_of_length_le (by omega)
    have hl2 : ((l.take (putK l x)).map Ii ++ [D.int IntKind.i64 x] ++ (l.drop (putK l x)).map Ii).length = putK l x + 1 + (l.length - putK l x) := by rw [List.length_append, hl1, List.length_map, List.length_drop]
    have ht3 : ((l.take (putK l x)).map Ii ++ [D.int IntKind.i64 x] ++ (l.drop (putK l x)).map Ii).take (putK l x + 1 + (l.length - putK l x)) = (l.take (putK l x)).map Ii ++ [D.int IntKind.i64 x] ++ (l.drop (putK l x)).map Ii := List.take_of_length_le (by omega)
    by_cases hlt : putK l x < l.length
    · have hi' : (putK l x : Int) < l.length := by omega
      have ga : l[putK l x]? = some l[putK l x] := List.getElem?_eq_getElem hlt
      simp only [go_sem, ↓reduceIte, Nat.reduceEqDiff, Nat.reduceAdd, Nat.reduceMul, Nat.reduceBEq, Option.getD_none, Int.reduceToNat, Nat.reduceSub, Nat.reduceLT, Nat.reduceLeDiff, Int.reduceLE, Int.reduceLT, reduceCtorEq, hi', ga, h0, h1, h5, hle, hlt2, hb1, hb2, hb3, ht1, hl1, ht2, hl2, ht3]
      cases hc : (l[putK l x] == x) with
      | true =>
        have e : putI l x = l := by unfold putI; rw [ga, if_pos (by simpa using hc)]
        simp only [go_sem, ↓reduceIte, Nat.reduceEqDiff, Nat.reduceAdd, Nat.reduceMul, Nat.reduceBEq, Option.getD_none, Int.reduceToNat, Nat.reduceSub, Nat.reduceLT, Nat.reduceLeDiff, Int.reduceLE, Int.reduceLT, reduceCtorEq, e, h0, h1, h5, hle, hlt2, hb1, hb2, hb3, ht1, hl1, ht2, hl2, ht3]
      | false =>
        have e : putI l x = l.take (putK l x) ++ x :: l.drop (putK l x) := by unfold putI; rw [ga, if_neg (by simpa using hc)]
        simp only [go_sem, ↓reduceIte, Nat.reduceEqDiff, Nat.reduceAdd, Nat.reduceMul, Nat.reduceBEq, Option.getD_none, Int.reduceToNat, Nat.reduceSub, Nat.reduceLT, Nat.reduceLeDiff, Int.reduceLE, Int.reduceLT, reduceCtorEq, ← List.map_take, ← List.map_drop, allSc, Nat.zero_le, List.take_length, List.length_drop, Int.le_refl, h0, h1, h5, hle, hlt2, hb1, hb2, hb3, ht1, hl1, ht2, hl2, ht3]
        rw [e]
        simp
    · have hi' : ¬ (putK l x : Int) < l.length := by omega
      have e : putI l x = l.take (putK l x) ++ x :: l.drop (putK l x) := by
        unfold putI
        rw [List.getElem?_eq_none (by omega), if_neg (by simp)]
      simp only [go_sem, ↓reduceIte, Nat.reduceEqDiff, Nat.reduceAdd, Nat.reduceMul, Nat.reduceBEq, Option.getD_none, Int.reduceToNat, Nat.reduceSub, Nat.reduceLT, Nat.reduceLeDiff, Int.reduceLE, Int.reduceLT, reduceCtorEq, hi', ← List.map_take, ← List.map_drop, allSc, Nat.zero_le, List.take_length, List.length_drop, Int.le_refl, h0, h1, h5, hle, hlt2, hb1, hb2, hb3, ht1, hl1, ht2, hl2, ht3]
      rw [e]
      simp
end Go.Vm.Ytedcnkglldmkbaa
/- Walks: what is reached. -/
namespace Go.Vm.Ytedcnkglldmkbaa
open Go Go.Vm
set_option maxRecDepth 10000
set_option linter.unusedSimpArgs false
set_option linter.unusedVariables false

def stepI (l : List (Int × Int)) (out : List Int) : List Int := l.foldl (fun nx a => if out.any (· == a.1) then putI nx a.2 else nx) out
def reachI (l : List (Int × Int)) : Nat → List Int → List Int
  | 0, out => out
  | n + 1, out => reachI l n (stepI l out)
theorem putI_len (l : List Int) (x : Int) : (putI l x).length ≤ l.length + 1 := by
  unfold putI
  split
  · omega
  · simp; omega
theorem spec_l12Reach.fc (l : List (Int × Int)) (from' : Int) (most : Nat) (hl : l.length ≤ 65536) (hm : most ≤ 32768) :
    FCt prog F_spec_l12Reach [.ro, .ro, .ro] [arcs l, Ii from', Ii most] (rsI (reachI l most [from'])) [] := by
  refine fct_run spec_l12Reach.ok rfl ?_
  simp only [go_sem, ↓reduceIte, Nat.reduceEqDiff, Nat.reduceAdd, Nat.reduceMul, Nat.reduceBEq, Option.getD_none, Int.reduceToNat, Nat.reduceSub, Nat.reduceLT, Nat.reduceLeDiff, Int.reduceLE, Int.reduceLT, reduceCtorEq]
  refine R_loop (α := Nat × List Int) (fun a s' M' => a.1 ≤ most ∧ s' 2 = aI a.1 ∧ s' 7 = .dat none (ints a.2) ∧ a.2.length ≤ 1 + (most - a.1) * l.length ∧ reachI l a.1 a.2 = reachI l most [from']) (fun a => a.1) (most, [from'])
    ⟨by dsimp only; omega, by simp only [go_sem, ↓reduceIte, Nat.reduceEqDiff, Nat.reduceAdd, Nat.reduceMul, Nat.reduceBEq, Option.getD_none, Int.reduceToNat, Nat.reduceSub, Nat.reduceLT, Nat.reduceLeDiff, Int.reduceLE, Int.reduceLT, reduceCtorEq], by simp only [go_sem, ↓reduceIte, Nat.reduceEqDiff, Nat.reduceAdd, Nat.reduceMul, Nat.reduceBEq, Option.getD_none, Int.reduceToNat, Nat.reduceSub, Nat.reduceLT, Nat.reduceLeDiff, Int.reduceLE, Int.reduceLT, reduceCtorEq]; rfl, by simp, rfl⟩ ?_
  rintro ⟨j, out⟩ s' M' ⟨hj, h2, h7, hlen, hre⟩ ho
  have h0 : s' 0 = .dat none (arcs l) := by rw [ho 0 rfl]; simp only [go_sem, ↓reduceIte, Nat.reduceEqDiff, Nat.reduceAdd, Nat.reduceMul, Nat.reduceBEq, Option.getD_none, Int.reduceToNat, Nat.reduceSub, Nat.reduceLT, Nat.reduceLeDiff, Int.reduceLE, Int.reduceLT, reduceCtorEq]
  clear ho
  dsimp only at hj h2 h7 hlen hre
  unfold spec_l12Reach.b1
  cases j with
  | zero =>
    have hz : ¬ ((0 : Nat) : Int) > 0 := by omega
    simp only [go_sem, ↓reduceIte, Nat.reduceEqDiff, Nat.reduceAdd, Nat.reduceMul, Nat.reduceBEq, Option.getD_none, Int.reduceToNat, Nat.reduceSub, Nat.reduceLT, Nat.reduceLeDiff, Int.reduceLE, Int.reduceLT, reduceCtorEq, hz, h0, h2, h7]
    simp only [reachI] at hre
    rw [hre]
  | succ j =>
    have hz : ((j + 1 : Nat) : Int) > 0 := by omega
    simp only [go_sem, ↓reduceIte, Nat.reduceEqDiff, Nat.reduceAdd, Nat.reduceMul, Nat.reduceBEq, Option.getD_none, Int.reduceToNat, Nat.reduceSub, Nat.reduceLT, Nat.reduceLeDiff, Int.reduceLE, Int.reduceLT, reduceCtorEq, hz, h0, h2, h7]
    have hsz : out.length + l.length ≤ 4294967296 := by
      have : (most - (j + 1)) * l.length ≤ 32768 * 65536 := Nat.mul_le_mul (by omega) hl
      omega
    refine R_cut (fun e s' M' => e = .ex 2 ∧ s' 8 = .dat none (ints (stepI l out)) ∧ (stepI l out).length ≤ out.length + l.length) ?_ ?_
    · refine R_loop (α := Nat × List Int) (fun a s' M' => a.1 ≤ l.length ∧ s' 20 = aI a.1 ∧ s' 8 = .dat none (ints a.2) ∧ a.2 = (l.take a.1).foldl (fun nx a => if out.any (· == a.1) then putI nx a.2 else nx) out ∧ a.2.length ≤ out.length + a.1) (fun a => l.length - a.1) (0, out)
        ⟨by simp, by simp only [go_sem, ↓reduceIte, Nat.reduceEqDiff, Nat.reduceAdd, Nat.reduceMul, Nat.reduceBEq, Option.getD_none, Int.reduceToNat, Nat.reduceSub, Nat.reduceLT, Nat.reduceLeDiff, Int.reduceLE, Int.reduceLT, reduceCtorEq, h0, h2, h7]; rfl, by simp only [go_sem, ↓reduceIte, Nat.reduceEqDiff, Nat.reduceAdd, Nat.reduceMul, Nat.reduceBEq, Option.getD_none, Int.reduceToNat, Nat.reduceSub, Nat.reduceLT, Nat.reduceLeDiff, Int.reduceLE, Int.reduceLT, reduceCtorEq, h0, h2, h7], by simp, by simp⟩ ?_
      rintro ⟨k, nx⟩ s2 M2 ⟨hk, h20, h8, hnx, hnl⟩ ho
      have g7 : s2 7 = .dat none (ints out) := by rw [ho 7 rfl]; simp only [go_sem, ↓reduceIte, Nat.reduceEqDiff, Nat.reduceAdd, Nat.reduceMul, Nat.reduceBEq, Option.getD_none, Int.reduceToNat, Nat.reduceSub, Nat.reduceLT, Nat.reduceLeDiff, Int.reduceLE, Int.reduceLT, reduceCtorEq, h0, h2, h7]
      have g18 : s2 18 = .dat none (arcs l) := by rw [ho 18 rfl]; simp only [go_sem, ↓reduceIte, Nat.reduceEqDiff, Nat.reduceAdd, Nat.reduceMul, Nat.reduceBEq, Option.getD_none, Int.reduceToNat, Nat.reduceSub, Nat.reduceLT, Nat.reduceLeDiff, Int.reduceLE, Int.reduceLT, reduceCtorEq, h0, h2, h7]
      have g19 : s2 19 = aI l.length := by rw [ho 19 rfl]; simp only [go_sem, ↓reduceIte, Nat.reduceEqDiff, Nat.reduceAdd, Nat.reduceMul, Nat.reduceBEq, Option.getD_none, Int.reduceToNat, Nat.reduceSub, Nat.reduceLT, Nat.reduceLeDiff, Int.reduceLE, Int.reduceLT, reduceCtorEq, h0, h2, h7]
      clear ho
      dsimp only at hk h20 h8 hnx hnl
      unfold spec_l12Reach.b0
      by_cases hlt : k < l.length
      · have hi' : (k : Int) < l.length := by omega
        have ga : l[k]? = some l[k] := List.getElem?_eq_getElem hlt
        have hw : IntKind.i64.wrap (k + 1) = ((k + 1 : Nat) : Int) := wrap_k hlt (by omega)
        simp only [go_sem, ↓reduceIte, Nat.reduceEqDiff, Nat.reduceAdd, Nat.reduceMul, Nat.reduceBEq, Option.getD_none, Int.reduceToNat, Nat.reduceSub, Nat.reduceLT, Nat.reduceLeDiff, Int.reduceLE, Int.reduceLT, reduceCtorEq, hi', ga, h0, h2, h7, g7, g18, g19, h20, h8]
        refine fcW_bool (spec_l1Has.fc out _ (by omega)) ?_
        cases hc : out.any (· == l[k].1) with
        | true =>
          simp only [go_sem, ↓reduceIte, Nat.reduceEqDiff, Nat.reduceAdd, Nat.reduceMul, Nat.reduceBEq, Option.getD_none, Int.reduceToNat, Nat.reduceSub, Nat.reduceLT, Nat.reduceLeDiff, Int.reduceLE, Int.reduceLT, reduceCtorEq, h0, h2, h7, g7, g18, g19, h20, h8]
          refine fcW_bdc (spec_l1Put.fc nx _ (by omega)) ?_
          simp only [go_sem, ↓reduceIte, Nat.reduceEqDiff, Nat.reduceAdd, Nat.reduceMul, Nat.reduceBEq, Option.getD_none, Int.reduceToNat, Nat.reduceSub, Nat.reduceLT, Nat.reduceLeDiff, Int.reduceLE, Int.reduceLT, reduceCtorEq, hw, h0, h2, h7, g7, g18, g19, h20, h8]
          refine ⟨(k + 1, putI nx l[k].2), by dsimp only; omega, by dsimp only; omega, by simp only [go_sem, ↓reduceIte, Nat.reduceEqDiff, Nat.reduceAdd, Nat.reduceMul, Nat.reduceBEq, Option.getD_none, Int.reduceToNat, Nat.reduceSub, Nat.reduceLT, Nat.reduceLeDiff, Int.reduceLE, Int.reduceLT, reduceCtorEq, h0, h2, h7, g7, g18, g19, h20, h8], by simp only [go_sem, ↓reduceIte, Nat.reduceEqDiff, Nat.reduceAdd, Nat.reduceMul, Nat.reduceBEq, Option.getD_none, Int.reduceToNat, Nat.reduceSub, Nat.reduceLT, Nat.reduceLeDiff, Int.reduceLE, Int.reduceLT, reduceCtorEq, h0, h2, h7, g7, g18, g19, h20, h8], ?_, ?_⟩
          · dsimp only; rw [take_succ' hlt, List.foldl_append, ← hnx]; simp only [List.foldl_cons, List.foldl_nil, hc]; rfl
          · dsimp only; have := putI_len nx l[k].2; omega
        | false =>
          simp only [go_sem, ↓reduceIte, Nat.reduceEqDiff, Nat.reduceAdd, Nat.reduceMul, Nat.reduceBEq, Option.getD_none, Int.reduceToNat, Nat.reduceSub, Nat.reduceLT, Nat.reduceLeDiff, Int.reduceLE, Int.reduceLT, reduceCtorEq, hw, h0, h2, h7, g7, g18, g19, h20, h8]
          refine ⟨(k + 1, nx), by dsimp only; omega, by dsimp only; omega, by simp only [go_sem, ↓reduceIte, Nat.reduceEqDiff, Nat.reduceAdd, Nat.reduceMul, Nat.reduceBEq, Option.getD_none, Int.reduceToNat, Nat.reduceSub, Nat.reduceLT, Nat.reduceLeDiff, Int.reduceLE, Int.reduceLT, reduceCtorEq, h0, h2, h7, g7, g18, g19, h20, h8], by simp only [go_sem, ↓reduceIte, Nat.reduceEqDiff, Nat.reduceAdd, Nat.reduceMul, Nat.reduceBEq, Option.getD_none, Int.reduceToNat, Nat.reduceSub, Nat.reduceLT, Nat.reduceLeDiff, Int.reduceLE, Int.reduceLT, reduceCtorEq, h0, h2, h7, g7, g18, g19, h20, h8], ?_, by dsimp only; omega⟩
          dsimp only; rw [take_succ' hlt, List.foldl_append, ← hnx]; simp only [List.foldl_cons, List.foldl_nil, hc]; rfl
      · have hi' : ¬ (k : Int) < l.length := by omega
        obtain rfl : k = l.length := by omega
        rw [List.take_length] at hnx
        simp only [go_sem, ↓reduceIte, Nat.reduceEqDiff, Nat.reduceAdd, Nat.reduceMul, Nat.reduceBEq, Option.getD_none, Int.reduceToNat, Nat.reduceSub, Nat.reduceLT, Nat.reduceLeDiff, Int.reduceLE, Int.reduceLT, reduceCtorEq, hi', h0, h2, h7, g7, g18, g19, h20, h8]
        subst hnx
        exact ⟨rfl, hnl⟩
    · rintro e s2 M2 ⟨rfl, h8, hsl⟩ ho
      have g2 : s2 2 = aI (j + 1 : Nat) := by rw [ho 2 rfl]; simp only [go_sem, ↓reduceIte, Nat.reduceEqDiff, Nat.reduceAdd, Nat.reduceMul, Nat.reduceBEq, Option.getD_none, Int.reduceToNat, Nat.reduceSub, Nat.reduceLT, Nat.reduceLeDiff, Int.reduceLE, Int.reduceLT, reduceCtorEq, h0, h2, h7]
      have hw : IntKind.i64.wrap (((j + 1 : Nat) : Int) - 1) = (j : Int) := by rw [wrap_in (by omega) (by omega)]; omega
      simp only [go_sem, ↓reduceIte, Nat.reduceEqDiff, Nat.reduceAdd, Nat.reduceMul, Nat.reduceBEq, Option.getD_none, Int.reduceToNat, Nat.reduceSub, Nat.reduceLT, Nat.reduceLeDiff, Int.reduceLE, Int.reduceLT, reduceCtorEq, h8, g2, hw, h0, h2, h7]
      refine ⟨(j, stepI l out), by dsimp only; omega, by dsimp only; omega, by simp only [go_sem, ↓reduceIte, Nat.reduceEqDiff, Nat.reduceAdd, Nat.reduceMul, Nat.reduceBEq, Option.getD_none, Int.reduceToNat, Nat.reduceSub, Nat.reduceLT, Nat.reduceLeDiff, Int.reduceLE, Int.reduceLT, reduceCtorEq, h0, h2, h7], by simp only [go_sem, ↓reduceIte, Nat.reduceEqDiff, Nat.reduceAdd, Nat.reduceMul, Nat.reduceBEq, Option.getD_none, Int.reduceToNat, Nat.reduceSub, Nat.reduceLT, Nat.reduceLeDiff, Int.reduceLE, Int.reduceLT, reduceCtorEq, h0, h2, h7], ?_, by dsimp only; rw [← hre]; rfl⟩
      dsimp only
      have e1 : most - j = (most - (j + 1)) + 1 := by omega
      rw [e1, Nat.add_mul]
      omega
end Go.Vm.Ytedcnkglldmkbaa
/- Walks: facts and rules that hold. -/
namespace Go.Vm.Ytedcnkglldmkbaa
open Go Go.Vm
set_option maxRecDepth 10000
set_option linter.unusedSimpArgs false
set_option linter.unusedVariables false

abbrev bools (l : List Bool) : D := .sl 1 (l.map Bb)
end Go.Vm.Ytedcnkglldmkbaa
/- Walks: lists of the places where a condition holds. -/
namespace Go.Vm.Ytedcnkglldmkbaa
open Go Go.Vm
set_option maxRecDepth 10000
set_option linter.unusedSimpArgs false
set_option linter.unusedVariables false

/-- the numbers below n for which p holds -/
def listI (n : Nat) (p : Nat → Bool) : List Int := ((List.range n).filter p).map fun (i : Nat) => (i : Int)
theorem listI_step {n : Nat} {p : Nat → Bool} : listI (n + 1) p = listI n p ++ (if p n then [(n : Int)] else []) := by
  simp only [listI, List.range_succ, List.filter_append, List.map_append]
  cases h : p n <;> simp [h]
theorem listI_len (n : Nat) (p : Nat → Bool) : (listI n p).length ≤ n := by
  simp only [listI, List.length_map]
  exact Nat.le_trans (List.length_filter_le _ _) (by simp)
theorem impl_list.fc (n : Nat) (f : FuncId) (caps : List D) (p : Nat → Bool) (hn : n ≤ 4294967296)
    (h : ∀ i, i < n → FCt prog f (.ro :: caps.map fun _ => .ro) (Ii i :: caps) (Bb (p i)) []) : FCt prog F_impl_list [.ro, .ro] [Ii n, .clo f caps] (ints (listI n p)) [] := by
  refine fct_run impl_list.ok rfl ?_
  simp only [go_sem, ↓reduceIte, Nat.reduceEqDiff, Nat.reduceAdd, Nat.reduceMul, Nat.reduceBEq, Option.getD_none, Int.reduceToNat, Nat.reduceSub, Nat.reduceLT, Nat.reduceLeDiff, Int.reduceLE, Int.reduceLT, reduceCtorEq]
  refine R_loop (α := Nat) (fun k s' M' => k ≤ n ∧ s' 8 = aI k ∧ ∃ v, s' 5 = .sl 896 v 0 (listI k p).length 1 ∧ M'.m 896 = some (.arr v true 1 ((listI k p).map Ii))) (fun k => n - k) 0
    ⟨by omega, by simp only [go_sem, ↓reduceIte, Nat.reduceEqDiff, Nat.reduceAdd, Nat.reduceMul, Nat.reduceBEq, Option.getD_none, Int.reduceToNat, Nat.reduceSub, Nat.reduceLT, Nat.reduceLeDiff, Int.reduceLE, Int.reduceLT, reduceCtorEq]; rfl, _, by simp only [go_sem, ↓reduceIte, Nat.reduceEqDiff, Nat.reduceAdd, Nat.reduceMul, Nat.reduceBEq, Option.getD_none, Int.reduceToNat, Nat.reduceSub, Nat.reduceLT, Nat.reduceLeDiff, Int.reduceLE, Int.reduceLT, reduceCtorEq]; rfl, by simp only [go_sem, ↓reduceIte, Nat.reduceEqDiff, Nat.reduceAdd, Nat.reduceMul, Nat.reduceBEq, Option.getD_none, Int.reduceToNat, Nat.reduceSub, Nat.reduceLT, Nat.reduceLeDiff, Int.reduceLE, Int.reduceLT, reduceCtorEq]; rfl⟩ ?_
  rintro k s' M' ⟨hk, h8, v, h5, hm⟩ ho
  have h1 : s' 1 = .clo f (caps.map bindC) := by rw [ho 1 rfl]; simp only [go_sem, ↓reduceIte, Nat.reduceEqDiff, Nat.reduceAdd, Nat.reduceMul, Nat.reduceBEq, Option.getD_none, Int.reduceToNat, Nat.reduceSub, Nat.reduceLT, Nat.reduceLeDiff, Int.reduceLE, Int.reduceLT, reduceCtorEq]
  have h7 : s' 7 = aI n := by rw [ho 7 rfl]; simp only [go_sem, ↓reduceIte, Nat.reduceEqDiff, Nat.reduceAdd, Nat.reduceMul, Nat.reduceBEq, Option.getD_none, Int.reduceToNat, Nat.reduceSub, Nat.reduceLT, Nat.reduceLeDiff, Int.reduceLE, Int.reduceLT, reduceCtorEq]
  clear ho
  unfold impl_list.b0
  by_cases hlt : k < n
  · have hi' : (k : Int) < n := by omega
    have hw : IntKind.i64.wrap (k + 1) = ((k + 1 : Nat) : Int) := wrap_k hlt (by omega)
    simp only [go_sem, ↓reduceIte, Nat.reduceEqDiff, Nat.reduceAdd, Nat.reduceMul, Nat.reduceBEq, Option.getD_none, Int.reduceToNat, Nat.reduceSub, Nat.reduceLT, Nat.reduceLeDiff, Int.reduceLE, Int.reduceLT, reduceCtorEq, hi', h1, h7, h8, h5, hm]
    refine ccl_ro (ds := [Ii k]) (by simp only [go_sem, ↓reduceIte, Nat.reduceEqDiff, Nat.reduceAdd, Nat.reduceMul, Nat.reduceBEq, Option.getD_none, Int.reduceToNat, Nat.reduceSub, Nat.reduceLT, Nat.reduceLeDiff, Int.reduceLE, Int.reduceLT, reduceCtorEq, h1, h7, h8, h5, hm]) ?_
    refine fcW_bool (h k hlt) ?_
    have hll := listI_len k p
    cases hp : p k with
    | false =>
      simp only [go_sem, ↓reduceIte, Nat.reduceEqDiff, Nat.reduceAdd, Nat.reduceMul, Nat.reduceBEq, Option.getD_none, Int.reduceToNat, Nat.reduceSub, Nat.reduceLT, Nat.reduceLeDiff, Int.reduceLE, Int.reduceLT, reduceCtorEq, hw, h1, h7, h8, h5, hm]
      refine ⟨k + 1, by dsimp only; omega, by omega, by simp only [go_sem, ↓reduceIte, Nat.reduceEqDiff, Nat.reduceAdd, Nat.reduceMul, Nat.reduceBEq, Option.getD_none, Int.reduceToNat, Nat.reduceSub, Nat.reduceLT, Nat.reduceLeDiff, Int.reduceLE, Int.reduceLT, reduceCtorEq, h1, h7, h8, h5, hm], v, by simp only [go_sem, ↓reduceIte, Nat.reduceEqDiff, Nat.reduceAdd, Nat.reduceMul, Nat.reduceBEq, Option.getD_none, Int.reduceToNat, Nat.reduceSub, Nat.reduceLT, Nat.reduceLeDiff, Int.reduceLE, Int.reduceLT, reduceCtorEq, h1, h7, h8, h5, hm]; rw [listI_step, hp]; simp, by simp only [go_sem, ↓reduceIte, Nat.reduceEqDiff, Nat.reduceAdd, Nat.reduceMul, Nat.reduceBEq, Option.getD_none, Int.reduceToNat, Nat.reduceSub, Nat.reduceLT, Nat.reduceLeDiff, Int.reduceLE, Int.reduceLT, reduceCtorEq, h1, h7, h8, h5, hm]; rw [listI_step, hp]; simp⟩
    | true =>
      have hb : ((listI k p).length + 1) * 8 ≤ 70368744177664 := by omega
      simp only [go_sem, ↓reduceIte, Nat.reduceEqDiff, Nat.reduceAdd, Nat.reduceMul, Nat.reduceBEq, Option.getD_none, Int.reduceToNat, Nat.reduceSub, Nat.reduceLT, Nat.reduceLeDiff, Int.reduceLE, Int.reduceLT, reduceCtorEq, hw, hb, take_map_len, h1, h7, h8, h5, hm]
      refine ⟨k + 1, by dsimp only; omega, by omega, by simp only [go_sem, ↓reduceIte, Nat.reduceEqDiff, Nat.reduceAdd, Nat.reduceMul, Nat.reduceBEq, Option.getD_none, Int.reduceToNat, Nat.reduceSub, Nat.reduceLT, Nat.reduceLeDiff, Int.reduceLE, Int.reduceLT, reduceCtorEq, h1, h7, h8, h5, hm], _, by simp only [go_sem, ↓reduceIte, Nat.reduceEqDiff, Nat.reduceAdd, Nat.reduceMul, Nat.reduceBEq, Option.getD_none, Int.reduceToNat, Nat.reduceSub, Nat.reduceLT, Nat.reduceLeDiff, Int.reduceLE, Int.reduceLT, reduceCtorEq, h1, h7, h8, h5, hm]; rw [listI_step, hp]; simp; rfl, by simp only [go_sem, ↓reduceIte, Nat.reduceEqDiff, Nat.reduceAdd, Nat.reduceMul, Nat.reduceBEq, Option.getD_none, Int.reduceToNat, Nat.reduceSub, Nat.reduceLT, Nat.reduceLeDiff, Int.reduceLE, Int.reduceLT, reduceCtorEq, h1, h7, h8, h5, hm]; rw [listI_step, hp]; simp⟩
  · have hi' : ¬ (k : Int) < n := by omega
    obtain rfl : k = n := by omega
    simp only [go_sem, ↓reduceIte, Nat.reduceEqDiff, Nat.reduceAdd, Nat.reduceMul, Nat.reduceBEq, Option.getD_none, Int.reduceToNat, Nat.reduceSub, Nat.reduceLT, Nat.reduceLeDiff, Int.reduceLE, Int.reduceLT, reduceCtorEq, hi', take_map_len, h1, h7, h8, h5, hm]
theorem noRs_bools {l : List Bool} : noRs (bools l) = true := noRs_sl (by
  intro d hd; obtain ⟨x, _, rfl⟩ := List.mem_map.1 hd; rfl)
theorem allScB {l : List Bool} : (l.map Bb).all isSc = true := by
  rw [List.all_eq_true]; intro d hd; obtain ⟨x, _, rfl⟩ := List.mem_map.1 hd; rfl
theorem slices_Clone__sbool_bool.fc (b : Bool) (l : List Bool) (hl : l.length ≤ 4294967296) : FCt prog F_slices_Clone__sbool_bool [.ro] [bools (b :: l)] (bools (b :: l)) [] := by
  refine fct_run slices_Clone__sbool_bool.ok rfl ?_
  have hb : (l.length + 1) * 1 ≤ 70368744177664 := by omega
  have htk : (l.map Bb).take l.length = l.map Bb := List.take_of_length_le (by simp)
  simp only [go_sem, ↓reduceIte, Nat.reduceEqDiff, Nat.reduceAdd, Nat.reduceMul, Nat.reduceBEq, Option.getD_none, Int.reduceToNat, Nat.reduceSub, Nat.reduceLT, Nat.reduceLeDiff, Int.reduceLE, Int.reduceLT, reduceCtorEq, allScB, hb, Nat.zero_le, htk]
  rfl
/-- one round over the arcs: 'now' is what was reached before -/
def roundB (l : List (Int × Int)) (now out : List Bool) : List Bool := l.foldl (fun o a => if now.getD a.1.toNat false then o.set a.2.toNat true else o) out
def withinB (l : List (Int × Int)) : Nat → List Bool → List Bool
  | 0, out => out
  | n + 1, out => withinB l n (roundB l out out)
theorem roundB_len {l : List (Int × Int)} {now : List Bool} : ∀ {out : List Bool}, (roundB l now out).length = out.length := by
  induction l with
  | nil => intro out; rfl
  | cons a l ih =>
    intro out
    simp only [roundB, List.foldl_cons]
    have := ih (out := if now.getD a.1.toNat false then out.set a.2.toNat true else out)
    simp only [roundB] at this
    rw [this]
    split <;> simp
end Go.Vm.Ytedcnkglldmkbaa
/- Walks: what is reached, by rows of marks. -/
namespace Go.Vm.Ytedcnkglldmkbaa
open Go Go.Vm
set_option maxRecDepth 10000
set_option linter.unusedSimpArgs false
set_option linter.unusedVariables false

theorem slices_Clone__sbool_bool.fc1 (l : List Bool) (h : 0 < l.length) (hl : l.length ≤ 4294967296) : FCt prog F_slices_Clone__sbool_bool [.ro] [bools l] (bools l) [] := by
  cases l with
  | nil => simp at h
  | cons b l => exact slices_Clone__sbool_bool.fc b l (by simpa using Nat.le_of_succ_le hl)
theorem map_setB {l : List Bool} {i : Nat} : (l.map Bb).set i (.bool true) = (l.set i true).map Bb := by rw [List.map_set]
theorem impl_within.fc (n : Nat) (l : List (Int × Int)) (from' : Int) (most : Nat) (hn : n ≤ 65536) (hl : l.length ≤ 65536) (hm : most ≤ 32768) (hf : 0 ≤ from' ∧ from' < n) (ha : ∀ a ∈ l, (0 ≤ a.1 ∧ a.1 < n) ∧ 0 ≤ a.2 ∧ a.2 < n) :
    FCt prog F_impl_within [.ro, .ro, .ro, .ro] [Ii n, arcs l, Ii from', Ii most] (bools (withinB l most ((List.replicate n false).set from'.toNat true))) [] := by
  refine fct_run impl_within.ok rfl ?_
  have hb : (n : Int) * (1 : Nat) ≤ 70368744177664 := by omega
  have hrep : List.replicate n (D.bool false) = (List.replicate n false).map Bb := by simp
  have hg : ((List.replicate n false).map Bb)[from'.toNat]? = some (Bb false) := by
    have h1 : from'.toNat < n := by omega
    simp [h1]
  simp only [go_sem, ↓reduceIte, Nat.reduceEqDiff, Nat.reduceAdd, Nat.reduceMul, Nat.reduceBEq, Option.getD_none, Int.reduceToNat, Nat.reduceSub, Nat.reduceLT, Nat.reduceLeDiff, Int.reduceLE, Int.reduceLT, reduceCtorEq, Int.le_refl, hb, hrep, hf.1, hf.2, hg, map_setB]
  generalize hst : (List.replicate n false).set from'.toNat true = start
  have hsl : start.length = n := by rw [← hst]; simp
  refine R_loop (α := Nat × List Bool) (fun a s' M' => a.1 ≤ most ∧ s' 19 = aI a.1 ∧ a.2.length = n ∧ (∃ v, s' 9 = .sl 192 v 0 n 1 ∧ M'.m 192 = some (.arr v true 1 (a.2.map Bb))) ∧ withinB l (most - a.1) a.2 = withinB l most start) (fun a => most - a.1) (0, start)
    ⟨by dsimp only; omega, by simp only [go_sem, ↓reduceIte, Nat.reduceEqDiff, Nat.reduceAdd, Nat.reduceMul, Nat.reduceBEq, Option.getD_none, Int.reduceToNat, Nat.reduceSub, Nat.reduceLT, Nat.reduceLeDiff, Int.reduceLE, Int.reduceLT, reduceCtorEq]; rfl, hsl, ⟨_, by simp only [go_sem, ↓reduceIte, Nat.reduceEqDiff, Nat.reduceAdd, Nat.reduceMul, Nat.reduceBEq, Option.getD_none, Int.reduceToNat, Nat.reduceSub, Nat.reduceLT, Nat.reduceLeDiff, Int.reduceLE, Int.reduceLT, reduceCtorEq]; rfl, by simp only [go_sem, ↓reduceIte, Nat.reduceEqDiff, Nat.reduceAdd, Nat.reduceMul, Nat.reduceBEq, Option.getD_none, Int.reduceToNat, Nat.reduceSub, Nat.reduceLT, Nat.reduceLeDiff, Int.reduceLE, Int.reduceLT, reduceCtorEq, hst]⟩, rfl⟩ ?_
  rintro ⟨k, cur⟩ s' M' ⟨hk, h19, hcl, ⟨v, h9, hmr⟩, hre⟩ ho
  have h1 : s' 1 = .dat none (arcs l) := by rw [ho 1 rfl]; simp only [go_sem, ↓reduceIte, Nat.reduceEqDiff, Nat.reduceAdd, Nat.reduceMul, Nat.reduceBEq, Option.getD_none, Int.reduceToNat, Nat.reduceSub, Nat.reduceLT, Nat.reduceLeDiff, Int.reduceLE, Int.reduceLT, reduceCtorEq]
  have h18 : s' 18 = aI most := by rw [ho 18 rfl]; simp only [go_sem, ↓reduceIte, Nat.reduceEqDiff, Nat.reduceAdd, Nat.reduceMul, Nat.reduceBEq, Option.getD_none, Int.reduceToNat, Nat.reduceSub, Nat.reduceLT, Nat.reduceLeDiff, Int.reduceLE, Int.reduceLT, reduceCtorEq]
  clear ho
  dsimp only at hk h19 hcl hmr hre
  unfold impl_within.b1
  by_cases hlt : k < most
  · have hi' : (k : Int) < most := by omega
    have hw : IntKind.i64.wrap (k + 1) = ((k + 1 : Nat) : Int) := wrap_k hlt (by omega)
    have hcm : (cur.map Bb).length = n := by simpa using hcl
    have htk : (cur.map Bb).take n = cur.map Bb := List.take_of_length_le (by omega)
    simp only [go_sem, ↓reduceIte, Nat.reduceEqDiff, Nat.reduceAdd, Nat.reduceMul, Nat.reduceBEq, Option.getD_none, Int.reduceToNat, Nat.reduceSub, Nat.reduceLT, Nat.reduceLeDiff, Int.reduceLE, Int.reduceLT, reduceCtorEq, hi', hcm, hcl, htk, Nat.zero_le, Nat.le_refl, h1, h18, h19, h9, hmr]
    refine fcW_bd (slices_Clone__sbool_bool.fc1 cur (by omega) (by omega)) noRs_bools ?_
    simp only [go_sem, ↓reduceIte, Nat.reduceEqDiff, Nat.reduceAdd, Nat.reduceMul, Nat.reduceBEq, Option.getD_none, Int.reduceToNat, Nat.reduceSub, Nat.reduceLT, Nat.reduceLeDiff, Int.reduceLE, Int.reduceLT, reduceCtorEq, h1, h18, h19, h9, hmr]
    refine R_cut (fun e s' M' => e = .ex 2 ∧ ∃ v, s' 9 = .sl 192 v 0 n 1 ∧ M'.m 192 = some (.arr v true 1 ((roundB l cur cur).map Bb))) ?_ ?_
    · refine R_loop (α := Nat) (fun i s' M' => i ≤ l.length ∧ s' 25 = aI i ∧ (∃ w, s' 10 = .sl 832 w 0 cur.length 1 ∧ M'.m 832 = some (.arr w true 1 (cur.map Bb))) ∧ ∃ v, s' 9 = .sl 192 v 0 n 1 ∧ M'.m 192 = some (.arr v true 1 ((roundB (l.take i) cur cur).map Bb))) (fun i => l.length - i) 0
        ⟨by omega, by simp only [go_sem, ↓reduceIte, Nat.reduceEqDiff, Nat.reduceAdd, Nat.reduceMul, Nat.reduceBEq, Option.getD_none, Int.reduceToNat, Nat.reduceSub, Nat.reduceLT, Nat.reduceLeDiff, Int.reduceLE, Int.reduceLT, reduceCtorEq, h1, h18, h19, h9, hmr]; rfl, ⟨_, by simp only [go_sem, ↓reduceIte, Nat.reduceEqDiff, Nat.reduceAdd, Nat.reduceMul, Nat.reduceBEq, Option.getD_none, Int.reduceToNat, Nat.reduceSub, Nat.reduceLT, Nat.reduceLeDiff, Int.reduceLE, Int.reduceLT, reduceCtorEq, h1, h18, h19, h9, hmr]; rfl, by simp only [go_sem, ↓reduceIte, Nat.reduceEqDiff, Nat.reduceAdd, Nat.reduceMul, Nat.reduceBEq, Option.getD_none, Int.reduceToNat, Nat.reduceSub, Nat.reduceLT, Nat.reduceLeDiff, Int.reduceLE, Int.reduceLT, reduceCtorEq, h1, h18, h19, h9, hmr]⟩, _, by simp only [go_sem, ↓reduceIte, Nat.reduceEqDiff, Nat.reduceAdd, Nat.reduceMul, Nat.reduceBEq, Option.getD_none, Int.reduceToNat, Nat.reduceSub, Nat.reduceLT, Nat.reduceLeDiff, Int.reduceLE, Int.reduceLT, reduceCtorEq, h1, h18, h19, h9, hmr]; rfl, by simp only [go_sem, ↓reduceIte, Nat.reduceEqDiff, Nat.reduceAdd, Nat.reduceMul, Nat.reduceBEq, Option.getD_none, Int.reduceToNat, Nat.reduceSub, Nat.reduceLT, Nat.reduceLeDiff, Int.reduceLE, Int.reduceLT, reduceCtorEq, h1, h18, h19, h9, hmr]; rfl⟩ ?_
      rintro i s2 M2 ⟨hi, h25, ⟨w, h10, hmw⟩, v2, g9, hm2⟩ ho
      have g23 : s2 23 = .dat none (arcs l) := by rw [ho 23 rfl]; simp only [go_sem, ↓reduceIte, Nat.reduceEqDiff, Nat.reduceAdd, Nat.reduceMul, Nat.reduceBEq, Option.getD_none, Int.reduceToNat, Nat.reduceSub, Nat.reduceLT, Nat.reduceLeDiff, Int.reduceLE, Int.reduceLT, reduceCtorEq, h1, h18, h19, h9, hmr]
      have g24 : s2 24 = aI l.length := by rw [ho 24 rfl]; simp only [go_sem, ↓reduceIte, Nat.reduceEqDiff, Nat.reduceAdd, Nat.reduceMul, Nat.reduceBEq, Option.getD_none, Int.reduceToNat, Nat.reduceSub, Nat.reduceLT, Nat.reduceLeDiff, Int.reduceLE, Int.reduceLT, reduceCtorEq, h1, h18, h19, h9, hmr]
      clear ho
      unfold impl_within.b0
      by_cases hlt2 : i < l.length
      · have hi2 : (i : Int) < l.length := by omega
        have ga : l[i]? = some l[i] := List.getElem?_eq_getElem hlt2
        have hw2 : IntKind.i64.wrap (i + 1) = ((i + 1 : Nat) : Int) := wrap_k hlt2 (by omega)
        obtain ⟨⟨a1, a2⟩, b1, b2⟩ := ha _ (List.getElem_mem hlt2)
        have a2' : l[i].1 < (cur.length : Int) := by omega
        have hg1 : (cur.map Bb)[l[i].1.toNat]? = some (Bb (cur.getD l[i].1.toNat false)) := by
          have : l[i].1.toNat < cur.length := by omega
          simp [this]
        have hro : (roundB (l.take i) cur cur).length = n := by rw [roundB_len]; exact hcl
        have hg2 : ((roundB (l.take i) cur cur).map Bb)[l[i].2.toNat]? = some (Bb ((roundB (l.take i) cur cur).getD l[i].2.toNat false)) := by
          have : l[i].2.toNat < (roundB (l.take i) cur cur).length := by omega
          simp [this]
        have hst2 : roundB (l.take (i + 1)) cur cur = if cur.getD l[i].1.toNat false then (roundB (l.take i) cur cur).set l[i].2.toNat true else roundB (l.take i) cur cur := by
          simp only [roundB]; rw [take_succ' hlt2, List.foldl_append]; rfl
        simp only [go_sem, ↓reduceIte, Nat.reduceEqDiff, Nat.reduceAdd, Nat.reduceMul, Nat.reduceBEq, Option.getD_none, Int.reduceToNat, Nat.reduceSub, Nat.reduceLT, Nat.reduceLeDiff, Int.reduceLE, Int.reduceLT, reduceCtorEq, hi2, ga, a1, a2', hg1, h1, h18, h19, h9, hmr, g23, g24, h25, h10, hmw, g9, hm2]
        cases hc : cur.getD l[i].1.toNat false with
        | true =>
          rw [hc, if_pos rfl] at hst2
          simp only [go_sem, ↓reduceIte, Nat.reduceEqDiff, Nat.reduceAdd, Nat.reduceMul, Nat.reduceBEq, Option.getD_none, Int.reduceToNat, Nat.reduceSub, Nat.reduceLT, Nat.reduceLeDiff, Int.reduceLE, Int.reduceLT, reduceCtorEq, b1, b2, hg2, hw2, map_setB, h1, h18, h19, h9, hmr, g23, g24, h25, h10, hmw, g9, hm2]
          exact ⟨i + 1, by dsimp only; omega, by omega, by simp only [go_sem, ↓reduceIte, Nat.reduceEqDiff, Nat.reduceAdd, Nat.reduceMul, Nat.reduceBEq, Option.getD_none, Int.reduceToNat, Nat.reduceSub, Nat.reduceLT, Nat.reduceLeDiff, Int.reduceLE, Int.reduceLT, reduceCtorEq, h1, h18, h19, h9, hmr, g23, g24, h25, h10, hmw, g9, hm2], ⟨w, by simp only [go_sem, ↓reduceIte, Nat.reduceEqDiff, Nat.reduceAdd, Nat.reduceMul, Nat.reduceBEq, Option.getD_none, Int.reduceToNat, Nat.reduceSub, Nat.reduceLT, Nat.reduceLeDiff, Int.reduceLE, Int.reduceLT, reduceCtorEq, h1, h18, h19, h9, hmr, g23, g24, h25, h10, hmw, g9, hm2], by simp only [go_sem, ↓reduceIte, Nat.reduceEqDiff, Nat.reduceAdd, Nat.reduceMul, Nat.reduceBEq, Option.getD_none, Int.reduceToNat, Nat.reduceSub, Nat.reduceLT, Nat.reduceLeDiff, Int.reduceLE, Int.reduceLT, reduceCtorEq, h1, h18, h19, h9, hmr, g23, g24, h25, h10, hmw, g9, hm2]⟩, v2, by simp only [go_sem, ↓reduceIte, Nat.reduceEqDiff, Nat.reduceAdd, Nat.reduceMul, Nat.reduceBEq, Option.getD_none, Int.reduceToNat, Nat.reduceSub, Nat.reduceLT, Nat.reduceLeDiff, Int.reduceLE, Int.reduceLT, reduceCtorEq, h1, h18, h19, h9, hmr, g23, g24, h25, h10, hmw, g9, hm2], by simp only [go_sem, ↓reduceIte, Nat.reduceEqDiff, Nat.reduceAdd, Nat.reduceMul, Nat.reduceBEq, Option.getD_none, Int.reduceToNat, Nat.reduceSub, Nat.reduceLT, Nat.reduceLeDiff, Int.reduceLE, Int.reduceLT, reduceCtorEq, h1, h18, h19, h9, hmr, g23, g24, h25, h10, hmw, g9, hm2]; rw [hst2]⟩
        | false =>
          rw [hc, if_neg (by simp)] at hst2
          simp only [go_sem, ↓reduceIte, Nat.reduceEqDiff, Nat.reduceAdd, Nat.reduceMul, Nat.reduceBEq, Option.getD_none, Int.reduceToNat, Nat.reduceSub, Nat.reduceLT, Nat.reduceLeDiff, Int.reduceLE, Int.reduceLT, reduceCtorEq, hw2, h1, h18, h19, h9, hmr, g23, g24, h25, h10, hmw, g9, hm2]
          exact ⟨i + 1, by dsimp only; omega, by omega, by simp only [go_sem, ↓reduceIte, Nat.reduceEqDiff, Nat.reduceAdd, Nat.reduceMul, Nat.reduceBEq, Option.getD_none, Int.reduceToNat, Nat.reduceSub, Nat.reduceLT, Nat.reduceLeDiff, Int.reduceLE, Int.reduceLT, reduceCtorEq, h1, h18, h19, h9, hmr, g23, g24, h25, h10, hmw, g9, hm2], ⟨w, by simp only [go_sem, ↓reduceIte, Nat.reduceEqDiff, Nat.reduceAdd, Nat.reduceMul, Nat.reduceBEq, Option.getD_none, Int.reduceToNat, Nat.reduceSub, Nat.reduceLT, Nat.reduceLeDiff, Int.reduceLE, Int.reduceLT, reduceCtorEq, h1, h18, h19, h9, hmr, g23, g24, h25, h10, hmw, g9, hm2], by simp only [go_sem, ↓reduceIte, Nat.reduceEqDiff, Nat.reduceAdd, Nat.reduceMul, Nat.reduceBEq, Option.getD_none, Int.reduceToNat, Nat.reduceSub, Nat.reduceLT, Nat.reduceLeDiff, Int.reduceLE, Int.reduceLT, reduceCtorEq, h1, h18, h19, h9, hmr, g23, g24, h25, h10, hmw, g9, hm2]⟩, v2, by simp only [go_sem, ↓reduceIte, Nat.reduceEqDiff, Nat.reduceAdd, Nat.reduceMul, Nat.reduceBEq, Option.getD_none, Int.reduceToNat, Nat.reduceSub, Nat.reduceLT, Nat.reduceLeDiff, Int.reduceLE, Int.reduceLT, reduceCtorEq, h1, h18, h19, h9, hmr, g23, g24, h25, h10, hmw, g9, hm2], by simp only [go_sem, ↓reduceIte, Nat.reduceEqDiff, Nat.reduceAdd, Nat.reduceMul, Nat.reduceBEq, Option.getD_none, Int.reduceToNat, Nat.reduceSub, Nat.reduceLT, Nat.reduceLeDiff, Int.reduceLE, Int.reduceLT, reduceCtorEq, h1, h18, h19, h9, hmr, g23, g24, h25, h10, hmw, g9, hm2]; rw [hst2]⟩
      · have hi2 : ¬ (i : Int) < l.length := by omega
        obtain rfl : i = l.length := by omega
        rw [List.take_length] at hm2
        simp only [go_sem, ↓reduceIte, Nat.reduceEqDiff, Nat.reduceAdd, Nat.reduceMul, Nat.reduceBEq, Option.getD_none, Int.reduceToNat, Nat.reduceSub, Nat.reduceLT, Nat.reduceLeDiff, Int.reduceLE, Int.reduceLT, reduceCtorEq, hi2, h1, h18, h19, h9, hmr, g23, g24, h25, h10, hmw, g9, hm2]
        exact ⟨v2, rfl, rfl⟩
    · rintro e s2 M2 ⟨rfl, v2, g9, hm2⟩ ho
      have g19 : s2 19 = aI k := by rw [ho 19 rfl]; simp only [go_sem, ↓reduceIte, Nat.reduceEqDiff, Nat.reduceAdd, Nat.reduceMul, Nat.reduceBEq, Option.getD_none, Int.reduceToNat, Nat.reduceSub, Nat.reduceLT, Nat.reduceLeDiff, Int.reduceLE, Int.reduceLT, reduceCtorEq, h1, h18, h19, h9, hmr]
      simp only [go_sem, ↓reduceIte, Nat.reduceEqDiff, Nat.reduceAdd, Nat.reduceMul, Nat.reduceBEq, Option.getD_none, Int.reduceToNat, Nat.reduceSub, Nat.reduceLT, Nat.reduceLeDiff, Int.reduceLE, Int.reduceLT, reduceCtorEq, g19, hw, h1, h18, h19, h9, hmr]
      refine ⟨(k + 1, roundB l cur cur), by dsimp only; omega, by dsimp only; omega, by simp only [go_sem, ↓reduceIte, Nat.reduceEqDiff, Nat.reduceAdd, Nat.reduceMul, Nat.reduceBEq, Option.getD_none, Int.reduceToNat, Nat.reduceSub, Nat.reduceLT, Nat.reduceLeDiff, Int.reduceLE, Int.reduceLT, reduceCtorEq, h1, h18, h19, h9, hmr], by dsimp only; rw [roundB_len]; exact hcl, ⟨v2, by simp only [go_sem, ↓reduceIte, Nat.reduceEqDiff, Nat.reduceAdd, Nat.reduceMul, Nat.reduceBEq, Option.getD_none, Int.reduceToNat, Nat.reduceSub, Nat.reduceLT, Nat.reduceLeDiff, Int.reduceLE, Int.reduceLT, reduceCtorEq, g9, h1, h18, h19, h9, hmr], by simp only [go_sem, ↓reduceIte, Nat.reduceEqDiff, Nat.reduceAdd, Nat.reduceMul, Nat.reduceBEq, Option.getD_none, Int.reduceToNat, Nat.reduceSub, Nat.reduceLT, Nat.reduceLeDiff, Int.reduceLE, Int.reduceLT, reduceCtorEq, hm2, h1, h18, h19, h9, hmr]⟩, ?_⟩
      dsimp only
      rw [← hre, show most - k = (most - (k + 1)) + 1 by omega]
      rfl
  · have hi' : ¬ (k : Int) < most := by omega
    obtain rfl : k = most := by omega
    rw [Nat.sub_self] at hre
    simp only [withinB] at hre
    have htk : (cur.map Bb).take n = cur.map Bb := List.take_of_length_le (by simp; omega)
    simp only [go_sem, ↓reduceIte, Nat.reduceEqDiff, Nat.reduceAdd, Nat.reduceMul, Nat.reduceBEq, Option.getD_none, Int.reduceToNat, Nat.reduceSub, Nat.reduceLT, Nat.reduceLeDiff, Int.reduceLE, Int.reduceLT, reduceCtorEq, hi', htk, hcl, h1, h18, h19, h9, hmr]
    rw [hre]
end Go.Vm.Ytedcnkglldmkbaa
/- Plain law: rows of marks and sorted rows. -/
namespace Go.Vm.Ytedcnkglldmkbaa
open Go Go.Vm
set_option maxRecDepth 10000
set_option linter.unusedSimpArgs false
set_option linter.unusedVariables false

/-- the numbers from a on, b of them, for which p holds -/
def segI (a b : Nat) (p : Nat → Bool) : List Int := ((List.range' a b).filter p).map fun (i : Nat) => (i : Int)
theorem listI_seg (n : Nat) (p : Nat → Bool) : listI n p = segI 0 n p := by simp only [listI, segI, List.range_eq_range']
theorem segI_split {a b c : Nat} {p : Nat → Bool} : segI a (b + c) p = segI a b p ++ segI (a + b) c p := by
  simp only [segI]
  rw [← List.range'_append_1, List.filter_append, List.map_append]
theorem segI_mem {a b : Nat} {p : Nat → Bool} {x : Int} (h : x ∈ segI a b p) : ∃ i : Nat, x = i ∧ a ≤ i ∧ i < a + b ∧ p i = true := by
  simp only [segI, List.mem_map, List.mem_filter, List.mem_range'_1] at h
  obtain ⟨i, ⟨hi, hp⟩, rfl⟩ := h
  exact ⟨i, rfl, hi.1, hi.2, hp⟩
theorem segI_congr {a b : Nat} {p q : Nat → Bool} (h : ∀ i, a ≤ i → i < a + b → p i = q i) : segI a b p = segI a b q := by
  simp only [segI]
  congr 1
  exact List.filter_congr fun i hi => by rw [List.mem_range'_1] at hi; exact h i hi.1 hi.2
theorem putK_app {A C : List Int} {x : Int} (hA : ∀ y ∈ A, y < x) (hC : ∀ y ∈ C, ¬ y < x) : putK (A ++ C) x = A.length := by
  unfold putK
  have h1 : A.findIdx (fun y => !decide (y < x)) = A.length := by
    rw [List.findIdx_eq_length]; intro y hy; simp [hA y hy]
  rw [List.findIdx_append, h1, if_neg (by omega)]
  cases C with
  | nil => simp
  | cons c C =>
    have := hC c List.mem_cons_self
    simp only [List.findIdx_cons, this, decide_false, Bool.not_false, cond_true, Nat.zero_add]
theorem putI_app {A C : List Int} {x : Int} (hA : ∀ y ∈ A, y < x) (hC : ∀ y ∈ C, x < y) : putI (A ++ C) x = A ++ x :: C ∧ putI (A ++ x :: C) x = A ++ x :: C := by
  constructor
  · unfold putI
    rw [putK_app hA (fun y hy => by have := hC y hy; omega)]
    have : (A ++ C)[A.length]? ≠ some x := by
      rw [List.getElem?_append_right (Nat.le_refl _), Nat.sub_self]
      cases C with
      | nil => simp
      | cons c C => have := hC c List.mem_cons_self; simp; omega
    rw [if_neg this]
    simp
  · unfold putI
    rw [putK_app hA (fun y hy => by
      rcases List.mem_cons.1 hy with rfl | hy
      · omega
      · have := hC y hy; omega)]
    simp
theorem putI_list {n : Nat} {p : Nat → Bool} {x : Nat} (hx : x < n) : putI (listI n p) x = listI n (fun i => if i = x then true else p i) := by
  obtain ⟨m, rfl⟩ : ∃ m, n = x + (1 + m) := ⟨n - x - 1, by omega⟩
  rw [listI_seg, listI_seg, segI_split (p := p), segI_split (p := p) (b := 1), segI_split (p := fun i => if i = x then true else p i), segI_split (p := fun i => if i = x then true else p i) (b := 1)]
  simp only [Nat.zero_add]
  have hA : ∀ q, ∀ y ∈ segI 0 x q, y < (x : Int) := fun q y hy => by obtain ⟨i, rfl, _, h, _⟩ := segI_mem hy; omega
  have hC : ∀ q, ∀ y ∈ segI (x + 1) m q, (x : Int) < y := fun q y hy => by obtain ⟨i, rfl, h, _, _⟩ := segI_mem hy; omega
  have e1 : segI 0 x (fun i => if i = x then true else p i) = segI 0 x p := segI_congr fun i _ h => by rw [if_neg (by omega)]
  have e2 : segI (x + 1) m (fun i => if i = x then true else p i) = segI (x + 1) m p := segI_congr fun i h _ => by rw [if_neg (by omega)]
  have e3 : segI x 1 (fun i => if i = x then true else p i) = [(x : Int)] := by simp [segI]
  rw [e1, e2, e3]
  cases hp : p x with
  | true =>
    have e4 : segI x 1 p = [(x : Int)] := by simp [segI, hp]
    rw [e4]
    exact (putI_app (hA p) (hC p)).2
  | false =>
    have e4 : segI x 1 p = [] := by simp [segI, hp]
    rw [e4, List.nil_append]
    exact (putI_app (hA p) (hC p)).1
theorem has_list {n : Nat} {p : Nat → Bool} {x : Nat} (hx : x < n) : (listI n p).any (· == (x : Int)) = p x := by
  rw [Bool.eq_iff_iff, List.any_eq_true]
  constructor
  · rintro ⟨y, hy, e⟩
    rw [listI_seg] at hy
    obtain ⟨i, rfl, _, _, h⟩ := segI_mem hy
    have e : ((i : Nat) : Int) = x := by simpa using e
    have : i = x := by omega
    rw [← this]; exact h
  · intro h
    exact ⟨x, by simp only [listI, List.mem_map, List.mem_filter, List.mem_range]; exact ⟨x, ⟨hx, h⟩, rfl⟩, by simp⟩
theorem listI_congr {n : Nat} {p q : Nat → Bool} (h : ∀ i, i < n → p i = q i) : listI n p = listI n q := by
  rw [listI_seg, listI_seg]; exact segI_congr fun i _ hi => h i (by omega)
def ofRow (b : List Bool) : List Int := listI b.length (fun i => b.getD i false)
theorem ofRow_set {b : List Bool} {x : Nat} (hx : x < b.length) : putI (ofRow b) x = ofRow (b.set x true) := by
  unfold ofRow
  rw [putI_list hx, List.length_set]
  refine listI_congr fun i hi => ?_
  simp only [List.getD_eq_getElem?_getD, List.getElem?_set]
  by_cases e : i = x
  · subst e; simp [hx]
  · rw [if_neg e, if_neg (fun h => e h.symm)]
theorem fold_row {n : Nat} (cur : List Bool) (hc : cur.length = n) : ∀ (l : List (Int × Int)) (o : List Bool), o.length = n → (∀ a ∈ l, (0 ≤ a.1 ∧ a.1 < n) ∧ 0 ≤ a.2 ∧ a.2 < n) →
    l.foldl (fun nx a => if (ofRow cur).any (· == a.1) then putI nx a.2 else nx) (ofRow o) = ofRow (roundB l cur o)
  | [], o, _, _ => rfl
  | a :: l, o, ho, h => by
    obtain ⟨⟨h1, h2⟩, h3, h4⟩ := h a List.mem_cons_self
    have e1 : ((a.1.toNat : Nat) : Int) = a.1 := by omega
    have e2 : ((a.2.toNat : Nat) : Int) = a.2 := by omega
    have hh : (ofRow cur).any (· == a.1) = cur.getD a.1.toNat false := by
      have := has_list (n := cur.length) (p := fun i => cur.getD i false) (x := a.1.toNat) (by omega)
      rw [e1] at this
      exact this
    have hp := ofRow_set (b := o) (x := a.2.toNat) (by omega)
    rw [e2] at hp
    simp only [List.foldl_cons, roundB, hh]
    cases hcc : cur.getD a.1.toNat false with
    | true =>
      simp only [if_true, hp]
      exact fold_row cur hc l (o.set a.2.toNat true) (by simpa using ho) fun x hx => h x (List.mem_cons_of_mem _ hx)
    | false =>
      simp only [Bool.false_eq_true, if_false]
      exact fold_row cur hc l o ho fun x hx => h x (List.mem_cons_of_mem _ hx)
theorem reach_row {n : Nat} {l : List (Int × Int)} (h : ∀ a ∈ l, (0 ≤ a.1 ∧ a.1 < n) ∧ 0 ≤ a.2 ∧ a.2 < n) : ∀ (m : Nat) (b : List Bool), b.length = n → reachI l m (ofRow b) = ofRow (withinB l m b)
  | 0, b, _ => rfl
  | m + 1, b, hb => by
    simp only [reachI, withinB, stepI]
    rw [fold_row b hb l b hb h]
    exact reach_row h m _ (by rw [roundB_len]; exact hb)
theorem ofRow_one {n x : Nat} (hx : x < n) : ofRow ((List.replicate n false).set x true) = [(x : Int)] := by
  rw [← ofRow_set (by simpa using hx)]
  have : ofRow (List.replicate n false) = [] := by
    unfold ofRow listI
    rw [List.filter_eq_nil_iff.2 (by intro i hi; simp at hi ⊢; simp [hi])]
    rfl
  rw [this]
  simp [putI, putK]
end Go.Vm.Ytedcnkglldmkbaa
/- Walks: what is reached within so many steps. -/
namespace Go.Vm.Ytedcnkglldmkbaa
open Go Go.Vm
set_option maxRecDepth 10000
set_option linter.unusedSimpArgs false
set_option linter.unusedVariables false

theorem goodA_mem {n : Int} {l : List (Int × Int)} (h : goodA n l = true) : (1 ≤ n ∧ n ≤ 6) ∧ l.length ≤ 30 ∧ ∀ a ∈ l, (0 ≤ a.1 ∧ a.1 < n) ∧ 0 ≤ a.2 ∧ a.2 < n := by
  simp only [goodA, Bool.and_eq_true, List.all_eq_true, inB, decide_eq_true_eq] at h
  obtain ⟨h1, hn, h3⟩ := h
  refine ⟨hn, h3, fun a ha => ?_⟩
  obtain ⟨i, hi, rfl⟩ := List.getElem_of_mem ha
  have := h1 i (by simpa using hi)
  have e : l.getD i (0, 0) = l[i] := by rw [List.getD_eq_getElem?_getD, List.getElem?_eq_getElem hi]; rfl
  rw [wrap_in (by omega) (by omega)] at this
  simp only [arcAt, e, inB, Bool.and_eq_true, decide_eq_true_eq] at this
  omega
end Go.Vm.Ytedcnkglldmkbaa
/- Walks: arcs that lead back. -/
namespace Go.Vm.Ytedcnkglldmkbaa
open Go Go.Vm
set_option maxRecDepth 10000
set_option linter.unusedSimpArgs false
set_option linter.unusedVariables false

/-- what is reached from x within n steps -/
def wFrom (n : Nat) (l : List (Int × Int)) (x : Int) : List Bool := withinB l n ((List.replicate n false).set x.toNat true)
theorem within_len {l : List (Int × Int)} : ∀ (k : Nat) (o : List Bool), (withinB l k o).length = o.length := by
  intro k
  induction k with
  | zero => intro o; rfl
  | succ k ih => intro o; simp only [withinB]; rw [ih, roundB_len]
theorem wFrom_len {n : Nat} {l : List (Int × Int)} {x : Int} : (wFrom n l x).length = n := by
  unfold wFrom; rw [within_len]; simp
def backP (n : Nat) (l : List (Int × Int)) (i : Nat) : Bool := (wFrom n l (l.getD i (0, 0)).2).getD (l.getD i (0, 0)).1.toNat false
def backI (n : Int) (l : List (Int × Int)) : D := if goodA n l then .tup [ints (listI l.length (backP n.toNat l)), Bb true] else .tup [.sl 1 [], Bb false]
theorem impl_BackArcs_c1.fc (n : Nat) (l : List (Int × Int)) (i : Nat) (hi : i < l.length) (hn : n ≤ 6) (hl : l.length ≤ 65536) (ha : ∀ a ∈ l, (0 ≤ a.1 ∧ a.1 < n) ∧ 0 ≤ a.2 ∧ a.2 < n) :
    FCt prog F_impl_BackArcs_c1 [.ro, .ro, .ro] [Ii i, .ptr (Ii n), .ptr (arcs l)] (Bb (backP n l i)) [] := by
  refine fct_run impl_BackArcs_c1.ok rfl ?_
  have hi' : (i : Int) < l.length := by omega
  have ga : l[i]? = some l[i] := List.getElem?_eq_getElem hi
  have gd : l.getD i (0, 0) = l[i] := by rw [List.getD_eq_getElem?_getD, ga]; rfl
  obtain ⟨⟨a1, a2⟩, a3, a4⟩ := ha _ (List.getElem_mem hi)
  have hb : (wFrom n l l[i].2)[l[i].1.toNat]? = some (backP n l i) := by
    unfold backP
    rw [gd, List.getD_eq_getElem?_getD, List.getElem?_eq_getElem (by rw [wFrom_len]; omega)]; rfl
  simp only [go_sem, ↓reduceIte, Nat.reduceEqDiff, Nat.reduceAdd, Nat.reduceMul, Nat.reduceBEq, Option.getD_none, Int.reduceToNat, Nat.reduceSub, Nat.reduceLT, Nat.reduceLeDiff, Int.reduceLE, Int.reduceLT, reduceCtorEq, hi', ga]
  refine fcW_bd (impl_within.fc n l l[i].2 n (by omega) (by omega) (by omega) ⟨a3, a4⟩ ha) noRs_bools ?_
  have e : withinB l n ((List.replicate n false).set l[i].2.toNat true) = wFrom n l l[i].2 := rfl
  have wl : ((wFrom n l l[i].2).length : Int) = n := by rw [wFrom_len]
  rw [e]
  simp only [go_sem, ↓reduceIte, Nat.reduceEqDiff, Nat.reduceAdd, Nat.reduceMul, Nat.reduceBEq, Option.getD_none, Int.reduceToNat, Nat.reduceSub, Nat.reduceLT, Nat.reduceLeDiff, Int.reduceLE, Int.reduceLT, reduceCtorEq, a1, a2, hb, wl, hi', ga]
theorem impl_BackArcs.fc (n : Int) (l : List (Int × Int)) (hl : l.length ≤ 4294967296) : FCt prog F_impl_BackArcs [.ro, .ro] [Ii n, arcs l] (backI n l) [] := by
  refine fct_run impl_BackArcs.ok rfl ?_
  unfold backI
  simp only [go_sem, ↓reduceIte, Nat.reduceEqDiff, Nat.reduceAdd, Nat.reduceMul, Nat.reduceBEq, Option.getD_none, Int.reduceToNat, Nat.reduceSub, Nat.reduceLT, Nat.reduceLeDiff, Int.reduceLE, Int.reduceLT, reduceCtorEq]
  refine fcW_bool (impl_GoodArcs.fc n l hl) ?_
  cases hg : goodA n l with
  | false => simp only [go_sem, ↓reduceIte, Nat.reduceEqDiff, Nat.reduceAdd, Nat.reduceMul, Nat.reduceBEq, Option.getD_none, Int.reduceToNat, Nat.reduceSub, Nat.reduceLT, Nat.reduceLeDiff, Int.reduceLE, Int.reduceLT, reduceCtorEq]
  | true =>
    obtain ⟨hn, hl2, hmem⟩ := goodA_mem hg
    obtain ⟨N, rfl⟩ : ∃ N : Nat, n = N := ⟨n.toNat, by omega⟩
    simp only [go_sem, ↓reduceIte, Nat.reduceEqDiff, Nat.reduceAdd, Nat.reduceMul, Nat.reduceBEq, Option.getD_none, Int.reduceToNat, Nat.reduceSub, Nat.reduceLT, Nat.reduceLeDiff, Int.reduceLE, Int.reduceLT, reduceCtorEq]
    refine fcW_bd (impl_list.fc l.length F_impl_BackArcs_c1 [.ptr (Ii N), .ptr (arcs l)] (backP N l) (by omega) (fun i hi => impl_BackArcs_c1.fc N l i hi (by omega) (by omega) hmem)) noRs_ints ?_
    simp only [go_sem, ↓reduceIte, Nat.reduceEqDiff, Nat.reduceAdd, Nat.reduceMul, Nat.reduceBEq, Option.getD_none, Int.reduceToNat, Nat.reduceSub, Nat.reduceLT, Nat.reduceLeDiff, Int.reduceLE, Int.reduceLT, reduceCtorEq, take_map_len]
theorem spec_BackArcs.fc (n : Int) (l : List (Int × Int)) (hl : l.length ≤ 4294967296) : FCt prog F_spec_BackArcs [.ro, .ro] [Ii n, arcs l] (backI n l) [] := by
  refine fct_run spec_BackArcs.ok rfl ?_
  unfold backI
  simp only [go_sem, ↓reduceIte, Nat.reduceEqDiff, Nat.reduceAdd, Nat.reduceMul, Nat.reduceBEq, Option.getD_none, Int.reduceToNat, Nat.reduceSub, Nat.reduceLT, Nat.reduceLeDiff, Int.reduceLE, Int.reduceLT, reduceCtorEq]
  refine fcW_bool (spec_GoodArcs.fc n l hl) ?_
  cases hg : goodA n l with
  | false => simp only [go_sem, ↓reduceIte, Nat.reduceEqDiff, Nat.reduceAdd, Nat.reduceMul, Nat.reduceBEq, Option.getD_none, Int.reduceToNat, Nat.reduceSub, Nat.reduceLT, Nat.reduceLeDiff, Int.reduceLE, Int.reduceLT, reduceCtorEq]
  | true =>
    obtain ⟨hn, hl2, hmem⟩ := goodA_mem hg
    obtain ⟨N, rfl⟩ : ∃ N : Nat, n = N := ⟨n.toNat, by omega⟩
    simp only [go_sem, ↓reduceIte, Nat.reduceEqDiff, Nat.reduceAdd, Nat.reduceMul, Nat.reduceBEq, Option.getD_none, Int.reduceToNat, Nat.reduceSub, Nat.reduceLT, Nat.reduceLeDiff, Int.reduceLE, Int.reduceLT, reduceCtorEq]
    refine R_loop (α := Nat) (fun k s' M' => k ≤ l.length ∧ s' 15 = aI k ∧ ∃ v, s' 6 = .sl 1984 v 0 (listI k (backP N l)).length 1 ∧ M'.m 1984 = some (.arr v true 1 ((listI k (backP N l)).map Ii))) (fun k => l.length - k) 0
      ⟨by omega, by simp only [go_sem, ↓reduceIte, Nat.reduceEqDiff, Nat.reduceAdd, Nat.reduceMul, Nat.reduceBEq, Option.getD_none, Int.reduceToNat, Nat.reduceSub, Nat.reduceLT, Nat.reduceLeDiff, Int.reduceLE, Int.reduceLT, reduceCtorEq]; rfl, _, by simp only [go_sem, ↓reduceIte, Nat.reduceEqDiff, Nat.reduceAdd, Nat.reduceMul, Nat.reduceBEq, Option.getD_none, Int.reduceToNat, Nat.reduceSub, Nat.reduceLT, Nat.reduceLeDiff, Int.reduceLE, Int.reduceLT, reduceCtorEq]; rfl, by simp only [go_sem, ↓reduceIte, Nat.reduceEqDiff, Nat.reduceAdd, Nat.reduceMul, Nat.reduceBEq, Option.getD_none, Int.reduceToNat, Nat.reduceSub, Nat.reduceLT, Nat.reduceLeDiff, Int.reduceLE, Int.reduceLT, reduceCtorEq]; rfl⟩ ?_
    rintro k s' M' ⟨hk, h15, v, h6, hm⟩ ho
    unfold spec_BackArcs.b0
    have k0 : s' 0 = aI N := by rw [ho 0 rfl]; simp only [go_sem, ↓reduceIte, Nat.reduceEqDiff, Nat.reduceAdd, Nat.reduceMul, Nat.reduceBEq, Option.getD_none, Int.reduceToNat, Nat.reduceSub, Nat.reduceLT, Nat.reduceLeDiff, Int.reduceLE, Int.reduceLT, reduceCtorEq]
    have k1 : s' 1 = .dat none (arcs l) := by rw [ho 1 rfl]; simp only [go_sem, ↓reduceIte, Nat.reduceEqDiff, Nat.reduceAdd, Nat.reduceMul, Nat.reduceBEq, Option.getD_none, Int.reduceToNat, Nat.reduceSub, Nat.reduceLT, Nat.reduceLeDiff, Int.reduceLE, Int.reduceLT, reduceCtorEq]
    have k13 : s' 13 = .dat none (arcs l) := by rw [ho 13 rfl]; simp only [go_sem, ↓reduceIte, Nat.reduceEqDiff, Nat.reduceAdd, Nat.reduceMul, Nat.reduceBEq, Option.getD_none, Int.reduceToNat, Nat.reduceSub, Nat.reduceLT, Nat.reduceLeDiff, Int.reduceLE, Int.reduceLT, reduceCtorEq]
    have k14 : s' 14 = aI l.length := by rw [ho 14 rfl]; simp only [go_sem, ↓reduceIte, Nat.reduceEqDiff, Nat.reduceAdd, Nat.reduceMul, Nat.reduceBEq, Option.getD_none, Int.reduceToNat, Nat.reduceSub, Nat.reduceLT, Nat.reduceLeDiff, Int.reduceLE, Int.reduceLT, reduceCtorEq]
    clear ho
    by_cases hlt : k < l.length
    · have hi' : (k : Int) < l.length := by omega
      have ga : l[k]? = some l[k] := List.getElem?_eq_getElem hlt
      have hw : IntKind.i64.wrap (k + 1) = ((k + 1 : Nat) : Int) := wrap_k hlt (by omega)
      have gd : l.getD k (0, 0) = l[k] := by rw [List.getD_eq_getElem?_getD, ga]; rfl
      obtain ⟨⟨a1, a2⟩, a3, a4⟩ := hmem _ (List.getElem_mem hlt)
      simp only [go_sem, ↓reduceIte, Nat.reduceEqDiff, Nat.reduceAdd, Nat.reduceMul, Nat.reduceBEq, Option.getD_none, Int.reduceToNat, Nat.reduceSub, Nat.reduceLT, Nat.reduceLeDiff, Int.reduceLE, Int.reduceLT, reduceCtorEq, hi', ga, k0, k1, k13, k14, h15, h6, hm]
      refine fcW_bdc (spec_l12Reach.fc l l[k].2 N (by omega) (by omega)) ?_
      have hrr := reach_row hmem N ((List.replicate N false).set l[k].2.toNat true) (by simp)
      rw [ofRow_one (by omega), show ((l[k].2.toNat : Nat) : Int) = l[k].2 by omega] at hrr
      rw [hrr]
      have e : withinB l N ((List.replicate N false).set l[k].2.toNat true) = wFrom N l l[k].2 := rfl
      rw [e]
      simp only [go_sem, ↓reduceIte, Nat.reduceEqDiff, Nat.reduceAdd, Nat.reduceMul, Nat.reduceBEq, Option.getD_none, Int.reduceToNat, Nat.reduceSub, Nat.reduceLT, Nat.reduceLeDiff, Int.reduceLE, Int.reduceLT, reduceCtorEq, k0, k1, k13, k14, h15, h6, hm]
      have hol : (ofRow (wFrom N l l[k].2)).length ≤ 4294967296 := by
        have := listI_len (wFrom N l l[k].2).length (fun i => (wFrom N l l[k].2).getD i false)
        rw [wFrom_len] at this
        unfold ofRow; rw [wFrom_len]; omega
      refine fcW_bool (spec_l1Has.fc _ _ hol) ?_
      have hh : (ofRow (wFrom N l l[k].2)).any (· == l[k].1) = backP N l k := by
        have := has_list (n := (wFrom N l l[k].2).length) (p := fun i => (wFrom N l l[k].2).getD i false) (x := l[k].1.toNat) (by rw [wFrom_len]; omega)
        rw [show ((l[k].1.toNat : Nat) : Int) = l[k].1 by omega] at this
        unfold backP; rw [gd]; exact this
      have hll := listI_len k (backP N l)
      rw [hh]
      cases hp : backP N l k with
      | false =>
        simp only [go_sem, ↓reduceIte, Nat.reduceEqDiff, Nat.reduceAdd, Nat.reduceMul, Nat.reduceBEq, Option.getD_none, Int.reduceToNat, Nat.reduceSub, Nat.reduceLT, Nat.reduceLeDiff, Int.reduceLE, Int.reduceLT, reduceCtorEq, hw, k0, k1, k13, k14, h15, h6, hm]
        refine ⟨k + 1, by dsimp only; omega, by omega, by simp only [go_sem, ↓reduceIte, Nat.reduceEqDiff, Nat.reduceAdd, Nat.reduceMul, Nat.reduceBEq, Option.getD_none, Int.reduceToNat, Nat.reduceSub, Nat.reduceLT, Nat.reduceLeDiff, Int.reduceLE, Int.reduceLT, reduceCtorEq, k0, k1, k13, k14, h15, h6, hm], v, by simp only [go_sem, ↓reduceIte, Nat.reduceEqDiff, Nat.reduceAdd, Nat.reduceMul, Nat.reduceBEq, Option.getD_none, Int.reduceToNat, Nat.reduceSub, Nat.reduceLT, Nat.reduceLeDiff, Int.reduceLE, Int.reduceLT, reduceCtorEq, k0, k1, k13, k14, h15, h6, hm]; rw [listI_step, hp]; simp, by simp only [go_sem, ↓reduceIte, Nat.reduceEqDiff, Nat.reduceAdd, Nat.reduceMul, Nat.reduceBEq, Option.getD_none, Int.reduceToNat, Nat.reduceSub, Nat.reduceLT, Nat.reduceLeDiff, Int.reduceLE, Int.reduceLT, reduceCtorEq, k0, k1, k13, k14, h15, h6, hm]; rw [listI_step, hp]; simp⟩
      | true =>
        have hb : ((listI k (backP N l)).length + 1) * 8 ≤ 70368744177664 := by omega
        simp only [go_sem, ↓reduceIte, Nat.reduceEqDiff, Nat.reduceAdd, Nat.reduceMul, Nat.reduceBEq, Option.getD_none, Int.reduceToNat, Nat.reduceSub, Nat.reduceLT, Nat.reduceLeDiff, Int.reduceLE, Int.reduceLT, reduceCtorEq, hw, hb, take_map_len, k0, k1, k13, k14, h15, h6, hm]
        refine ⟨k + 1, by dsimp only; omega, by omega, by simp only [go_sem, ↓reduceIte, Nat.reduceEqDiff, Nat.reduceAdd, Nat.reduceMul, Nat.reduceBEq, Option.getD_none, Int.reduceToNat, Nat.reduceSub, Nat.reduceLT, Nat.reduceLeDiff, Int.reduceLE, Int.reduceLT, reduceCtorEq, k0, k1, k13, k14, h15, h6, hm], _, by simp only [go_sem, ↓reduceIte, Nat.reduceEqDiff, Nat.reduceAdd, Nat.reduceMul, Nat.reduceBEq, Option.getD_none, Int.reduceToNat, Nat.reduceSub, Nat.reduceLT, Nat.reduceLeDiff, Int.reduceLE, Int.reduceLT, reduceCtorEq, k0, k1, k13, k14, h15, h6, hm]; rw [listI_step, hp]; simp; rfl, by simp only [go_sem, ↓reduceIte, Nat.reduceEqDiff, Nat.reduceAdd, Nat.reduceMul, Nat.reduceBEq, Option.getD_none, Int.reduceToNat, Nat.reduceSub, Nat.reduceLT, Nat.reduceLeDiff, Int.reduceLE, Int.reduceLT, reduceCtorEq, k0, k1, k13, k14, h15, h6, hm]; rw [listI_step, hp]; simp⟩
    · have hi' : ¬ (k : Int) < l.length := by omega
      obtain rfl : k = l.length := by omega
      simp only [go_sem, ↓reduceIte, Nat.reduceEqDiff, Nat.reduceAdd, Nat.reduceMul, Nat.reduceBEq, Option.getD_none, Int.reduceToNat, Nat.reduceSub, Nat.reduceLT, Nat.reduceLeDiff, Int.reduceLE, Int.reduceLT, reduceCtorEq, hi', take_map_len, k0, k1, k13, k14, h15, h6, hm]
end Go.Vm.Ytedcnkglldmkbaa
/- Walks: the laws' own helpers, in one form. -/
namespace Go.Vm.Ytedcnkglldmkbaa
open Go Go.Vm
set_option maxRecDepth 10000
set_option linter.unusedSimpArgs false
set_option linter.unusedVariables false

theorem hasSl {α : Type} {f : α → D} {p : α → Prop} {T : Ty} (one : ∀ x, HasTy T x → ∃ a, x = f a ∧ p a) {d : D} (h : HasTy (.sl T) d) : ∃ l : List α, d = .sl T.cells (l.map f) ∧ l.length ≤ 9223372036854775807 ∧ ∀ a ∈ l, p a := by
  simp only [HasTy] at h
  obtain ⟨xs, rfl, hl, h⟩ := h
  have : ∀ xs : List D, (∀ x ∈ xs, HasTy T x) → ∃ l : List α, xs = l.map f ∧ ∀ a ∈ l, p a := by
    intro xs
    induction xs with
    | nil => intro _; exact ⟨[], rfl, by simp⟩
    | cons x xs ih =>
      intro h
      obtain ⟨a, rfl, hp⟩ := one x (h x List.mem_cons_self)
      obtain ⟨l, rfl, hl⟩ := ih fun y hy => h y (List.mem_cons_of_mem _ hy)
      exact ⟨a :: l, rfl, fun b hb => by
        rcases List.mem_cons.1 hb with rfl | hb
        · exact hp
        · exact hl b hb⟩
  obtain ⟨l, rfl, hp⟩ := this xs h
  exact ⟨l, rfl, by simpa [maxLen] using hl, hp⟩
def mkIntS (n : Int) (l : List Int) : List Int := upFrom n l.length
theorem mkIntS_len {n : Int} {l : List Int} : (mkIntS n l).length = l.length := by simp [mkIntS, upFrom_len]
theorem mkIntS_take {n : Int} {l : List Int} : ((mkIntS n l).map Ii).take l.length = (mkIntS n l).map Ii := List.take_of_length_le (by simp [mkIntS_len])
theorem laws_eqIntS.fcu (x : List Int) (h : x.length ≤ 1048576) :
    FCt prog F_laws_eqIntS [.ro, .ro] [ints x, ints x] (Bb true) [] := by
  refine fct_run laws_eqIntS.ok rfl ?_
  have h0 := h
  simp only [go_sem, ↓reduceIte, Nat.reduceEqDiff, Nat.reduceAdd, Nat.reduceMul, Nat.reduceBEq, Option.getD_none, Int.reduceToNat, Nat.reduceSub, Nat.reduceLT, Nat.reduceLeDiff, Int.reduceLE, Int.reduceLT, reduceCtorEq]
  refine R_loop (α := Nat) (fun k s' M' => k ≤ x.length ∧ s' 5 = aI k) (fun k => x.length - k) 0 ⟨by omega, by simp only [go_sem, ↓reduceIte, Nat.reduceEqDiff, Nat.reduceAdd, Nat.reduceMul, Nat.reduceBEq, Option.getD_none, Int.reduceToNat, Nat.reduceSub, Nat.reduceLT, Nat.reduceLeDiff, Int.reduceLE, Int.reduceLT, reduceCtorEq]; rfl⟩ ?_
  rintro k s' M' ⟨hk, h5⟩ ho
  unfold laws_eqIntS.b0
  have k0 : s' 0 = .dat none (ints x) := by rw [ho 0 rfl]; simp only [go_sem, ↓reduceIte, Nat.reduceEqDiff, Nat.reduceAdd, Nat.reduceMul, Nat.reduceBEq, Option.getD_none, Int.reduceToNat, Nat.reduceSub, Nat.reduceLT, Nat.reduceLeDiff, Int.reduceLE, Int.reduceLT, reduceCtorEq]
  have k1 : s' 1 = .dat none (ints x) := by rw [ho 1 rfl]; simp only [go_sem, ↓reduceIte, Nat.reduceEqDiff, Nat.reduceAdd, Nat.reduceMul, Nat.reduceBEq, Option.getD_none, Int.reduceToNat, Nat.reduceSub, Nat.reduceLT, Nat.reduceLeDiff, Int.reduceLE, Int.reduceLT, reduceCtorEq]
  clear ho
  by_cases hlt : k < x.length
  · have hi' : (k : Int) < x.length := by omega
    have ga : x[k]? = some x[k] := List.getElem?_eq_getElem hlt
    have hw : IntKind.i64.wrap (k + 1) = ((k + 1 : Nat) : Int) := wrap_k hlt (by omega)
    simp only [go_sem, ↓reduceIte, Nat.reduceEqDiff, Nat.reduceAdd, Nat.reduceMul, Nat.reduceBEq, Option.getD_none, Int.reduceToNat, Nat.reduceSub, Nat.reduceLT, Nat.reduceLeDiff, Int.reduceLE, Int.reduceLT, reduceCtorEq, h5, hi', ga, hw, k0, k1]
    exact ⟨k + 1, by dsimp only; omega, by omega, by simp only [go_sem, ↓reduceIte, Nat.reduceEqDiff, Nat.reduceAdd, Nat.reduceMul, Nat.reduceBEq, Option.getD_none, Int.reduceToNat, Nat.reduceSub, Nat.reduceLT, Nat.reduceLeDiff, Int.reduceLE, Int.reduceLT, reduceCtorEq, k0, k1]⟩
  · have hi' : ¬ (k : Int) < x.length := by omega
    obtain rfl : k = x.length := by omega
    simp only [go_sem, ↓reduceIte, Nat.reduceEqDiff, Nat.reduceAdd, Nat.reduceMul, Nat.reduceBEq, Option.getD_none, Int.reduceToNat, Nat.reduceSub, Nat.reduceLT, Nat.reduceLeDiff, Int.reduceLE, Int.reduceLT, reduceCtorEq, h5, hi', k0, k1]
theorem laws_markIntS.fcu (x : List Int) (n : Int) (h : x.length ≤ 1048576) (hc : x.length ≤ 16777216) (hn : 0 ≤ n ∧ n + (x.length : Nat) ≤ 576460752303423488) :
    FCt prog F_laws_markIntS [.io, .ro] [ints x, Ii n] (Ii (n + (x.length : Nat))) [ints (mkIntS n x)] := by
  refine fct_run laws_markIntS.ok rfl ?_
  have hL : ((mkIntS n x).map Ii).length = (x.map Ii).length := by simp [mkIntS_len]
  simp only [go_sem, ↓reduceIte, Nat.reduceEqDiff, Nat.reduceAdd, Nat.reduceMul, Nat.reduceBEq, Option.getD_none, Int.reduceToNat, Nat.reduceSub, Nat.reduceLT, Nat.reduceLeDiff, Int.reduceLE, Int.reduceLT, reduceCtorEq]
  refine R_loop (α := Nat) (fun k s' M' => k ≤ x.length ∧ s' 5 = aI k ∧ s' 1 = aI (n + k) ∧ M'.m 0 = some (.arr 0 true 1 (ovr ((mkIntS n x).map Ii) (x.map Ii) k))) (fun k => x.length - k) 0
    ⟨by omega, by simp only [go_sem, ↓reduceIte, Nat.reduceEqDiff, Nat.reduceAdd, Nat.reduceMul, Nat.reduceBEq, Option.getD_none, Int.reduceToNat, Nat.reduceSub, Nat.reduceLT, Nat.reduceLeDiff, Int.reduceLE, Int.reduceLT, reduceCtorEq]; rfl, by simp only [go_sem, ↓reduceIte, Nat.reduceEqDiff, Nat.reduceAdd, Nat.reduceMul, Nat.reduceBEq, Option.getD_none, Int.reduceToNat, Nat.reduceSub, Nat.reduceLT, Nat.reduceLeDiff, Int.reduceLE, Int.reduceLT, reduceCtorEq]; simp, by simp only [go_sem, ↓reduceIte, Nat.reduceEqDiff, Nat.reduceAdd, Nat.reduceMul, Nat.reduceBEq, Option.getD_none, Int.reduceToNat, Nat.reduceSub, Nat.reduceLT, Nat.reduceLeDiff, Int.reduceLE, Int.reduceLT, reduceCtorEq]; simp [ovr_zero]⟩ ?_
  rintro k s' M' ⟨hk, h5, h1, hm⟩ ho
  unfold laws_markIntS.b0
  have k0 : s' 0 = .sl 0 0 0 x.length 1 := by rw [ho 0 rfl]; simp only [go_sem, ↓reduceIte, Nat.reduceEqDiff, Nat.reduceAdd, Nat.reduceMul, Nat.reduceBEq, Option.getD_none, Int.reduceToNat, Nat.reduceSub, Nat.reduceLT, Nat.reduceLeDiff, Int.reduceLE, Int.reduceLT, reduceCtorEq]
  clear ho
  by_cases hlt : k < x.length
  · have hi' : (k : Int) < x.length := by omega
    have ga : x[k]? = some x[k] := List.getElem?_eq_getElem hlt
    have hw : IntKind.i64.wrap (k + 1) = ((k + 1 : Nat) : Int) := wrap_k hlt (by omega)
    have hw1 : IntKind.i64.wrap (n + k + 1) = n + (k + 1 : Nat) := by rw [wrap_in (by omega) (by omega)]; try omega
    have hmk : (mkIntS n x)[k]? = some (n + k) := upFrom_get hlt
    have hg : (ovr ((mkIntS n x).map Ii) (x.map Ii) k)[k]? = some (Ii x[k]) := by rw [ovr_get hL (by simpa using hlt)]; simp [hlt]
    have hkl : k < (ovr ((mkIntS n x).map Ii) (x.map Ii) k).length := by rw [ovr_len hL (by simp; omega)]; simpa using hlt
    have hg2 : ∀ d, ((ovr ((mkIntS n x).map Ii) (x.map Ii) k).set k d)[k]? = some d := fun d => by rw [List.getElem?_set, if_pos rfl, if_pos hkl]
    have hs : (ovr ((mkIntS n x).map Ii) (x.map Ii) k).set k (.int .i64 (n + k)) = ovr ((mkIntS n x).map Ii) (x.map Ii) (k + 1) := ovr_set hL (by simpa using hlt) (by rw [List.getElem?_map, hmk]; rfl)
    simp only [go_sem, ↓reduceIte, Nat.reduceEqDiff, Nat.reduceAdd, Nat.reduceMul, Nat.reduceBEq, Option.getD_none, Int.reduceToNat, Nat.reduceSub, Nat.reduceLT, Nat.reduceLeDiff, Int.reduceLE, Int.reduceLT, reduceCtorEq, hi', hw, hw1, hg, hg2, List.set_set, hs, k0, h1, h5, hm]
    exact ⟨k + 1, by dsimp only; omega, by omega, by simp only [go_sem, ↓reduceIte, Nat.reduceEqDiff, Nat.reduceAdd, Nat.reduceMul, Nat.reduceBEq, Option.getD_none, Int.reduceToNat, Nat.reduceSub, Nat.reduceLT, Nat.reduceLeDiff, Int.reduceLE, Int.reduceLT, reduceCtorEq, k0, h1, h5, hm], by simp only [go_sem, ↓reduceIte, Nat.reduceEqDiff, Nat.reduceAdd, Nat.reduceMul, Nat.reduceBEq, Option.getD_none, Int.reduceToNat, Nat.reduceSub, Nat.reduceLT, Nat.reduceLeDiff, Int.reduceLE, Int.reduceLT, reduceCtorEq, k0, h1, h5, hm], by simp only [go_sem, ↓reduceIte, Nat.reduceEqDiff, Nat.reduceAdd, Nat.reduceMul, Nat.reduceBEq, Option.getD_none, Int.reduceToNat, Nat.reduceSub, Nat.reduceLT, Nat.reduceLeDiff, Int.reduceLE, Int.reduceLT, reduceCtorEq, k0, h1, h5, hm]⟩
  · have hi' : ¬ (k : Int) < x.length := by omega
    obtain rfl : k = x.length := by omega
    have hall : ovr ((mkIntS n x).map Ii) (x.map Ii) x.length = (mkIntS n x).map Ii := by have := ovr_all hL; simpa using this
    have htk : ((mkIntS n x).map Ii).take x.length = (mkIntS n x).map Ii := List.take_of_length_le (by simp [mkIntS_len])
    have hce : ((x.length : Nat) : Int) = x.length := by omega
    simp only [go_sem, ↓reduceIte, Nat.reduceEqDiff, Nat.reduceAdd, Nat.reduceMul, Nat.reduceBEq, Option.getD_none, Int.reduceToNat, Nat.reduceSub, Nat.reduceLT, Nat.reduceLeDiff, Int.reduceLE, Int.reduceLT, reduceCtorEq, hi', hall, mkIntS_len, htk, hce, k0, h1, h5, hm]
    try rfl
theorem laws_heldIntS.fcu (x : List Int) (n : Int) (h : x.length ≤ 1048576) (hc : x.length ≤ 16777216) (hn : 0 ≤ n ∧ n + (x.length : Nat) ≤ 576460752303423488) :
    FCt prog F_laws_heldIntS [.ro, .ro] [ints (mkIntS n x), Ii n] (Ii (n + (x.length : Nat))) [] := by
  refine fct_run laws_heldIntS.ok rfl ?_
  simp only [go_sem, ↓reduceIte, Nat.reduceEqDiff, Nat.reduceAdd, Nat.reduceMul, Nat.reduceBEq, Option.getD_none, Int.reduceToNat, Nat.reduceSub, Nat.reduceLT, Nat.reduceLeDiff, Int.reduceLE, Int.reduceLT, reduceCtorEq]
  refine R_loop (α := Nat) (fun k s' M' => k ≤ x.length ∧ s' 5 = aI k ∧ s' 1 = aI (n + k)) (fun k => x.length - k) 0 ⟨by omega, by simp only [go_sem, ↓reduceIte, Nat.reduceEqDiff, Nat.reduceAdd, Nat.reduceMul, Nat.reduceBEq, Option.getD_none, Int.reduceToNat, Nat.reduceSub, Nat.reduceLT, Nat.reduceLeDiff, Int.reduceLE, Int.reduceLT, reduceCtorEq]; rfl, by simp only [go_sem, ↓reduceIte, Nat.reduceEqDiff, Nat.reduceAdd, Nat.reduceMul, Nat.reduceBEq, Option.getD_none, Int.reduceToNat, Nat.reduceSub, Nat.reduceLT, Nat.reduceLeDiff, Int.reduceLE, Int.reduceLT, reduceCtorEq]; simp⟩ ?_
  rintro k s' M' ⟨hk, h5, h1⟩ ho
  unfold laws_heldIntS.b0
  have k0 : s' 0 = .dat none (ints (mkIntS n x)) := by rw [ho 0 rfl]; simp only [go_sem, ↓reduceIte, Nat.reduceEqDiff, Nat.reduceAdd, Nat.reduceMul, Nat.reduceBEq, Option.getD_none, Int.reduceToNat, Nat.reduceSub, Nat.reduceLT, Nat.reduceLeDiff, Int.reduceLE, Int.reduceLT, reduceCtorEq]
  clear ho
  by_cases hlt : k < x.length
  · have hi' : (k : Int) < x.length := by omega
    have hw : IntKind.i64.wrap (k + 1) = ((k + 1 : Nat) : Int) := wrap_k hlt (by omega)
    have hw1 : IntKind.i64.wrap (n + k + 1) = n + (k + 1 : Nat) := by rw [wrap_in (by omega) (by omega)]; try omega
    have hmk : (mkIntS n x)[k]? = some (n + k) := upFrom_get hlt
    simp only [go_sem, ↓reduceIte, Nat.reduceEqDiff, Nat.reduceAdd, Nat.reduceMul, Nat.reduceBEq, Option.getD_none, Int.reduceToNat, Nat.reduceSub, Nat.reduceLT, Nat.reduceLeDiff, Int.reduceLE, Int.reduceLT, reduceCtorEq, hi', hw, hw1, hmk, k0, h1, h5, mkIntS_len]
    exact ⟨k + 1, by dsimp only; omega, by omega, by simp only [go_sem, ↓reduceIte, Nat.reduceEqDiff, Nat.reduceAdd, Nat.reduceMul, Nat.reduceBEq, Option.getD_none, Int.reduceToNat, Nat.reduceSub, Nat.reduceLT, Nat.reduceLeDiff, Int.reduceLE, Int.reduceLT, reduceCtorEq, k0, h1, h5, mkIntS_len], by simp only [go_sem, ↓reduceIte, Nat.reduceEqDiff, Nat.reduceAdd, Nat.reduceMul, Nat.reduceBEq, Option.getD_none, Int.reduceToNat, Nat.reduceSub, Nat.reduceLT, Nat.reduceLeDiff, Int.reduceLE, Int.reduceLT, reduceCtorEq, k0, h1, h5, mkIntS_len]⟩
  · have hi' : ¬ (k : Int) < x.length := by omega
    obtain rfl : k = x.length := by omega
    have hce : ((x.length : Nat) : Int) = x.length := by omega
    simp only [go_sem, ↓reduceIte, Nat.reduceEqDiff, Nat.reduceAdd, Nat.reduceMul, Nat.reduceBEq, Option.getD_none, Int.reduceToNat, Nat.reduceSub, Nat.reduceLT, Nat.reduceLeDiff, Int.reduceLE, Int.reduceLT, reduceCtorEq, hi', hce, k0, h1, h5, mkIntS_len]

end Go.Vm.Ytedcnkglldmkbaa
/- Walks: the laws' own helpers, in one form: rules, rows of rows. -/
namespace Go.Vm.Ytedcnkglldmkbaa
open Go Go.Vm
set_option maxRecDepth 10000
set_option linter.unusedSimpArgs false
set_option linter.unusedVariables false

abbrev TyArc : Ty := .st [(.int .i64), (.int .i64)]
theorem hasArc {d : D} (h : HasTy TyArc d) : ∃ x : (Int × Int), d = arcD x ∧ True := by
  simp only [HasTy] at h
  obtain ⟨ys, rfl, h⟩ := h
  simp only [HasTys] at h
  obtain ⟨d0, s0, rfl, h0, d1, s1, rfl, h1, rfl⟩ := h
  obtain ⟨x0, rfl, _⟩ := hasInt h0
  obtain ⟨x1, rfl, _⟩ := hasInt h1
  exact ⟨⟨x0, x1⟩, rfl, trivial⟩
theorem laws_toArc.fcu (x : (Int × Int)) :
    FCt prog F_laws_toArc [.ro] [arcD x] (arcD x) [] := by
  refine fct_run laws_toArc.ok rfl ?_
  simp only [go_sem, ↓reduceIte, Nat.reduceEqDiff, Nat.reduceAdd, Nat.reduceMul, Nat.reduceBEq, Option.getD_none, Int.reduceToNat, Nat.reduceSub, Nat.reduceLT, Nat.reduceLeDiff, Int.reduceLE, Int.reduceLT, reduceCtorEq]
theorem laws_eqArc.fcu (x : (Int × Int)) :
    FCt prog F_laws_eqArc [.ro, .ro] [arcD x, arcD x] (Bb true) [] := by
  refine fct_run laws_eqArc.ok rfl ?_
  simp only [go_sem, ↓reduceIte, Nat.reduceEqDiff, Nat.reduceAdd, Nat.reduceMul, Nat.reduceBEq, Option.getD_none, Int.reduceToNat, Nat.reduceSub, Nat.reduceLT, Nat.reduceLeDiff, Int.reduceLE, Int.reduceLT, reduceCtorEq]
def mkArcS (n : Int) (l : List (Int × Int)) : List (Int × Int) := (List.range l.length).map fun (i : Nat) => ⟨n + 2 * (i : Int), n + 2 * (i : Int) + 1⟩
theorem mkArcS_len {n : Int} {l : List (Int × Int)} : (mkArcS n l).length = l.length := by simp [mkArcS]
theorem mkArcS_take {n : Int} {l : List (Int × Int)} : ((mkArcS n l).map arcD).take l.length = (mkArcS n l).map arcD := List.take_of_length_le (by simp [mkArcS_len])
theorem hasArcS {d : D} (h : HasTy (.sl TyArc) d) : ∃ l : List (Int × Int), d = arcs l ∧ l.length ≤ 9223372036854775807 := by
  obtain ⟨l, rfl, hl, hp⟩ := hasSl (f := arcD) (p := fun x => True) (fun x h => hasArc h) h
  exact ⟨l, rfl, hl⟩
theorem laws_toArcS.fcu (x : List (Int × Int)) (h : x.length ≤ 1048576) :
    FCt prog F_laws_toArcS [.ro] [arcs x] (arcs x) [] := by
  refine fct_run laws_toArcS.ok rfl ?_
  have h0 := h
  have c1 : (x.length : Int) * (16 : Nat) ≤ 70368744177664 := by omega
  simp only [go_sem, ↓reduceIte, Nat.reduceEqDiff, Nat.reduceAdd, Nat.reduceMul, Nat.reduceBEq, Option.getD_none, Int.reduceToNat, Nat.reduceSub, Nat.reduceLT, Nat.reduceLeDiff, Int.reduceLE, Int.reduceLT, reduceCtorEq, Int.le_refl, c1]
  refine R_loop (α := Nat) (fun k s' M' => k ≤ x.length ∧ s' 4 = aI k ∧ ∃ v, s' 3 = .sl 256 v 0 x.length 2 ∧ M'.m 256 = some (.arr v true 2 (fill arcD (.agg [Ii 0, Ii 0]) x k))) (fun k => x.length - k) 0
    ⟨by omega, by simp only [go_sem, ↓reduceIte, Nat.reduceEqDiff, Nat.reduceAdd, Nat.reduceMul, Nat.reduceBEq, Option.getD_none, Int.reduceToNat, Nat.reduceSub, Nat.reduceLT, Nat.reduceLeDiff, Int.reduceLE, Int.reduceLT, reduceCtorEq]; rfl, _, by simp only [go_sem, ↓reduceIte, Nat.reduceEqDiff, Nat.reduceAdd, Nat.reduceMul, Nat.reduceBEq, Option.getD_none, Int.reduceToNat, Nat.reduceSub, Nat.reduceLT, Nat.reduceLeDiff, Int.reduceLE, Int.reduceLT, reduceCtorEq]; rfl, by simp only [go_sem, ↓reduceIte, Nat.reduceEqDiff, Nat.reduceAdd, Nat.reduceMul, Nat.reduceBEq, Option.getD_none, Int.reduceToNat, Nat.reduceSub, Nat.reduceLT, Nat.reduceLeDiff, Int.reduceLE, Int.reduceLT, reduceCtorEq]; rw [fill_zero]⟩ ?_
  rintro k s' M' ⟨hk, h4, v, h3, hm⟩ ho
  unfold laws_toArcS.b0
  have k0 : s' 0 = .dat none (arcs x) := by rw [ho 0 rfl]; simp only [go_sem, ↓reduceIte, Nat.reduceEqDiff, Nat.reduceAdd, Nat.reduceMul, Nat.reduceBEq, Option.getD_none, Int.reduceToNat, Nat.reduceSub, Nat.reduceLT, Nat.reduceLeDiff, Int.reduceLE, Int.reduceLT, reduceCtorEq]
  clear ho
  by_cases hlt : k < x.length
  · have hi' : (k : Int) < x.length := by omega
    have ga : x[k]? = some x[k] := List.getElem?_eq_getElem hlt
    have hw : IntKind.i64.wrap (k + 1) = ((k + 1 : Nat) : Int) := wrap_k hlt (by omega)
    have hf := fill_get (f := arcD) (z := (.agg [Ii 0, Ii 0])) hlt
    simp only [go_sem, ↓reduceIte, Nat.reduceEqDiff, Nat.reduceAdd, Nat.reduceMul, Nat.reduceBEq, Option.getD_none, Int.reduceToNat, Nat.reduceSub, Nat.reduceLT, Nat.reduceLeDiff, Int.reduceLE, Int.reduceLT, reduceCtorEq, h4, h3, hi', ga, hw, hm, hf, k0]
    refine fcW_bd (laws_toArc.fcu _) rfl ?_
    simp only [go_sem, ↓reduceIte, Nat.reduceEqDiff, Nat.reduceAdd, Nat.reduceMul, Nat.reduceBEq, Option.getD_none, Int.reduceToNat, Nat.reduceSub, Nat.reduceLT, Nat.reduceLeDiff, Int.reduceLE, Int.reduceLT, reduceCtorEq, h4, h3, hi', ga, hw, hm, hf, take_map_len, k0]
    refine ⟨k + 1, by dsimp only; omega, by omega, by simp only [go_sem, ↓reduceIte, Nat.reduceEqDiff, Nat.reduceAdd, Nat.reduceMul, Nat.reduceBEq, Option.getD_none, Int.reduceToNat, Nat.reduceSub, Nat.reduceLT, Nat.reduceLeDiff, Int.reduceLE, Int.reduceLT, reduceCtorEq, k0], v, by simp only [go_sem, ↓reduceIte, Nat.reduceEqDiff, Nat.reduceAdd, Nat.reduceMul, Nat.reduceBEq, Option.getD_none, Int.reduceToNat, Nat.reduceSub, Nat.reduceLT, Nat.reduceLeDiff, Int.reduceLE, Int.reduceLT, reduceCtorEq, h3, k0], by simp only [go_sem, ↓reduceIte, Nat.reduceEqDiff, Nat.reduceAdd, Nat.reduceMul, Nat.reduceBEq, Option.getD_none, Int.reduceToNat, Nat.reduceSub, Nat.reduceLT, Nat.reduceLeDiff, Int.reduceLE, Int.reduceLT, reduceCtorEq, k0]; rw [← fill_set hlt]⟩
  · have hi' : ¬ (k : Int) < x.length := by omega
    obtain rfl : k = x.length := by omega
    have hlen := fill_len (f := arcD) (z := (.agg [Ii 0, Ii 0])) (Nat.le_refl x.length)
    simp only [go_sem, ↓reduceIte, Nat.reduceEqDiff, Nat.reduceAdd, Nat.reduceMul, Nat.reduceBEq, Option.getD_none, Int.reduceToNat, Nat.reduceSub, Nat.reduceLT, Nat.reduceLeDiff, Int.reduceLE, Int.reduceLT, reduceCtorEq, h4, h3, hi', hm, hlen, k0]
    simp only [fill_all, mkR_one, take_map_len]
theorem laws_eqArcS.fcu (x : List (Int × Int)) (h : x.length ≤ 1048576) :
    FCt prog F_laws_eqArcS [.ro, .ro] [arcs x, arcs x] (Bb true) [] := by
  refine fct_run laws_eqArcS.ok rfl ?_
  have h0 := h
  simp only [go_sem, ↓reduceIte, Nat.reduceEqDiff, Nat.reduceAdd, Nat.reduceMul, Nat.reduceBEq, Option.getD_none, Int.reduceToNat, Nat.reduceSub, Nat.reduceLT, Nat.reduceLeDiff, Int.reduceLE, Int.reduceLT, reduceCtorEq]
  refine R_loop (α := Nat) (fun k s' M' => k ≤ x.length ∧ s' 5 = aI k) (fun k => x.length - k) 0 ⟨by omega, by simp only [go_sem, ↓reduceIte, Nat.reduceEqDiff, Nat.reduceAdd, Nat.reduceMul, Nat.reduceBEq, Option.getD_none, Int.reduceToNat, Nat.reduceSub, Nat.reduceLT, Nat.reduceLeDiff, Int.reduceLE, Int.reduceLT, reduceCtorEq]; rfl⟩ ?_
  rintro k s' M' ⟨hk, h5⟩ ho
  unfold laws_eqArcS.b0
  have k0 : s' 0 = .dat none (arcs x) := by rw [ho 0 rfl]; simp only [go_sem, ↓reduceIte, Nat.reduceEqDiff, Nat.reduceAdd, Nat.reduceMul, Nat.reduceBEq, Option.getD_none, Int.reduceToNat, Nat.reduceSub, Nat.reduceLT, Nat.reduceLeDiff, Int.reduceLE, Int.reduceLT, reduceCtorEq]
  have k1 : s' 1 = .dat none (arcs x) := by rw [ho 1 rfl]; simp only [go_sem, ↓reduceIte, Nat.reduceEqDiff, Nat.reduceAdd, Nat.reduceMul, Nat.reduceBEq, Option.getD_none, Int.reduceToNat, Nat.reduceSub, Nat.reduceLT, Nat.reduceLeDiff, Int.reduceLE, Int.reduceLT, reduceCtorEq]
  clear ho
  by_cases hlt : k < x.length
  · have hi' : (k : Int) < x.length := by omega
    have ga : x[k]? = some x[k] := List.getElem?_eq_getElem hlt
    have hw : IntKind.i64.wrap (k + 1) = ((k + 1 : Nat) : Int) := wrap_k hlt (by omega)
    simp only [go_sem, ↓reduceIte, Nat.reduceEqDiff, Nat.reduceAdd, Nat.reduceMul, Nat.reduceBEq, Option.getD_none, Int.reduceToNat, Nat.reduceSub, Nat.reduceLT, Nat.reduceLeDiff, Int.reduceLE, Int.reduceLT, reduceCtorEq, h5, hi', ga, hw, k0, k1]
    refine fcW_bool (laws_eqArc.fcu _) ?_
    simp only [go_sem, ↓reduceIte, Nat.reduceEqDiff, Nat.reduceAdd, Nat.reduceMul, Nat.reduceBEq, Option.getD_none, Int.reduceToNat, Nat.reduceSub, Nat.reduceLT, Nat.reduceLeDiff, Int.reduceLE, Int.reduceLT, reduceCtorEq, h5, hw, k0, k1]
    exact ⟨k + 1, by dsimp only; omega, by omega, by simp only [go_sem, ↓reduceIte, Nat.reduceEqDiff, Nat.reduceAdd, Nat.reduceMul, Nat.reduceBEq, Option.getD_none, Int.reduceToNat, Nat.reduceSub, Nat.reduceLT, Nat.reduceLeDiff, Int.reduceLE, Int.reduceLT, reduceCtorEq, k0, k1]⟩
  · have hi' : ¬ (k : Int) < x.length := by omega
    obtain rfl : k = x.length := by omega
    simp only [go_sem, ↓reduceIte, Nat.reduceEqDiff, Nat.reduceAdd, Nat.reduceMul, Nat.reduceBEq, Option.getD_none, Int.reduceToNat, Nat.reduceSub, Nat.reduceLT, Nat.reduceLeDiff, Int.reduceLE, Int.reduceLT, reduceCtorEq, h5, hi', k0, k1]
theorem laws_szArcS.fcu (x : List (Int × Int)) (n : Int) (hn : 0 ≤ n ∧ n ≤ 1048576) (hw : x.length ≤ 9223372036854775807) :
    FCt prog F_laws_szArcS [.ro, .ro] [arcs x, Ii n] (Ii (if n < (x.length : Nat) then -1 else n - (x.length : Nat))) [] := by
  refine fct_run laws_szArcS.ok rfl ?_
  have hx : IntKind.i64.wrap (n - x.length) = n - x.length := wrap_in (by omega) (by omega)
  by_cases h : n < (x.length : Nat)
  · have h' : n - x.length < 0 := by omega
    simp only [go_sem, ↓reduceIte, Nat.reduceEqDiff, Nat.reduceAdd, Nat.reduceMul, Nat.reduceBEq, Option.getD_none, Int.reduceToNat, Nat.reduceSub, Nat.reduceLT, Nat.reduceLeDiff, Int.reduceLE, Int.reduceLT, reduceCtorEq, hx, h, h']
  · have h' : ¬ n - x.length < 0 := by omega
    simp only [go_sem, ↓reduceIte, Nat.reduceEqDiff, Nat.reduceAdd, Nat.reduceMul, Nat.reduceBEq, Option.getD_none, Int.reduceToNat, Nat.reduceSub, Nat.reduceLT, Nat.reduceLeDiff, Int.reduceLE, Int.reduceLT, reduceCtorEq, hx, h, h']
theorem laws_markArcS.fcu (x : List (Int × Int)) (n : Int) (h : x.length ≤ 1048576) (hc : (2 * x.length) ≤ 16777216) (hn : 0 ≤ n ∧ n + ((2 * x.length) : Nat) ≤ 576460752303423488) :
    FCt prog F_laws_markArcS [.io, .ro] [arcs x, Ii n] (Ii (n + ((2 * x.length) : Nat))) [arcs (mkArcS n x)] := by
  refine fct_run laws_markArcS.ok rfl ?_
  have hL : ((mkArcS n x).map arcD).length = (x.map arcD).length := by simp [mkArcS_len]
  simp only [go_sem, ↓reduceIte, Nat.reduceEqDiff, Nat.reduceAdd, Nat.reduceMul, Nat.reduceBEq, Option.getD_none, Int.reduceToNat, Nat.reduceSub, Nat.reduceLT, Nat.reduceLeDiff, Int.reduceLE, Int.reduceLT, reduceCtorEq]
  refine R_loop (α := Nat) (fun k s' M' => k ≤ x.length ∧ s' 5 = aI k ∧ s' 1 = aI (n + 2 * k) ∧ M'.m 0 = some (.arr 0 true 2 (ovr ((mkArcS n x).map arcD) (x.map arcD) k))) (fun k => x.length - k) 0
    ⟨by omega, by simp only [go_sem, ↓reduceIte, Nat.reduceEqDiff, Nat.reduceAdd, Nat.reduceMul, Nat.reduceBEq, Option.getD_none, Int.reduceToNat, Nat.reduceSub, Nat.reduceLT, Nat.reduceLeDiff, Int.reduceLE, Int.reduceLT, reduceCtorEq]; rfl, by simp only [go_sem, ↓reduceIte, Nat.reduceEqDiff, Nat.reduceAdd, Nat.reduceMul, Nat.reduceBEq, Option.getD_none, Int.reduceToNat, Nat.reduceSub, Nat.reduceLT, Nat.reduceLeDiff, Int.reduceLE, Int.reduceLT, reduceCtorEq]; simp, by simp only [go_sem, ↓reduceIte, Nat.reduceEqDiff, Nat.reduceAdd, Nat.reduceMul, Nat.reduceBEq, Option.getD_none, Int.reduceToNat, Nat.reduceSub, Nat.reduceLT, Nat.reduceLeDiff, Int.reduceLE, Int.reduceLT, reduceCtorEq]; simp [ovr_zero]⟩ ?_
  rintro k s' M' ⟨hk, h5, h1, hm⟩ ho
  unfold laws_markArcS.b0
  have k0 : s' 0 = .sl 0 0 0 x.length 2 := by rw [ho 0 rfl]; simp only [go_sem, ↓reduceIte, Nat.reduceEqDiff, Nat.reduceAdd, Nat.reduceMul, Nat.reduceBEq, Option.getD_none, Int.reduceToNat, Nat.reduceSub, Nat.reduceLT, Nat.reduceLeDiff, Int.reduceLE, Int.reduceLT, reduceCtorEq]
  clear ho
  by_cases hlt : k < x.length
  · have hi' : (k : Int) < x.length := by omega
    have ga : x[k]? = some x[k] := List.getElem?_eq_getElem hlt
    have hw : IntKind.i64.wrap (k + 1) = ((k + 1 : Nat) : Int) := wrap_k hlt (by omega)
    have hw1 : IntKind.i64.wrap (n + 2 * k + 1) = n + 2 * k + 1 := by rw [wrap_in (by omega) (by omega)]; try omega
    have hw2 : IntKind.i64.wrap (n + 2 * k + 1 + 1) = n + 2 * (k + 1 : Nat) := by rw [wrap_in (by omega) (by omega)]; try omega
    have hmk : (mkArcS n x)[k]? = some (⟨n + 2 * (k : Int), n + 2 * (k : Int) + 1⟩) := by simp [mkArcS, hlt]
    have hg : (ovr ((mkArcS n x).map arcD) (x.map arcD) k)[k]? = some (arcD x[k]) := by rw [ovr_get hL (by simpa using hlt)]; simp [hlt]
    have hkl : k < (ovr ((mkArcS n x).map arcD) (x.map arcD) k).length := by rw [ovr_len hL (by simp; omega)]; simpa using hlt
    have hg2 : ∀ d, ((ovr ((mkArcS n x).map arcD) (x.map arcD) k).set k d)[k]? = some d := fun d => by rw [List.getElem?_set, if_pos rfl, if_pos hkl]
    have hs : (ovr ((mkArcS n x).map arcD) (x.map arcD) k).set k (.agg [.int .i64 (n + 2 * k), .int .i64 (n + 2 * k + 1)]) = ovr ((mkArcS n x).map arcD) (x.map arcD) (k + 1) := ovr_set hL (by simpa using hlt) (by rw [List.getElem?_map, hmk]; rfl)
    simp only [go_sem, ↓reduceIte, Nat.reduceEqDiff, Nat.reduceAdd, Nat.reduceMul, Nat.reduceBEq, Option.getD_none, Int.reduceToNat, Nat.reduceSub, Nat.reduceLT, Nat.reduceLeDiff, Int.reduceLE, Int.reduceLT, reduceCtorEq, hi', hw, hw1, hw2, hg, hg2, List.set_set, hs, k0, h1, h5, hm]
    exact ⟨k + 1, by dsimp only; omega, by omega, by simp only [go_sem, ↓reduceIte, Nat.reduceEqDiff, Nat.reduceAdd, Nat.reduceMul, Nat.reduceBEq, Option.getD_none, Int.reduceToNat, Nat.reduceSub, Nat.reduceLT, Nat.reduceLeDiff, Int.reduceLE, Int.reduceLT, reduceCtorEq, k0, h1, h5, hm], by simp only [go_sem, ↓reduceIte, Nat.reduceEqDiff, Nat.reduceAdd, Nat.reduceMul, Nat.reduceBEq, Option.getD_none, Int.reduceToNat, Nat.reduceSub, Nat.reduceLT, Nat.reduceLeDiff, Int.reduceLE, Int.reduceLT, reduceCtorEq, k0, h1, h5, hm], by simp only [go_sem, ↓reduceIte, Nat.reduceEqDiff, Nat.reduceAdd, Nat.reduceMul, Nat.reduceBEq, Option.getD_none, Int.reduceToNat, Nat.reduceSub, Nat.reduceLT, Nat.reduceLeDiff, Int.reduceLE, Int.reduceLT, reduceCtorEq, k0, h1, h5, hm]⟩
  · have hi' : ¬ (k : Int) < x.length := by omega
    obtain rfl : k = x.length := by omega
    have hall : ovr ((mkArcS n x).map arcD) (x.map arcD) x.length = (mkArcS n x).map arcD := by have := ovr_all hL; simpa using this
    have htk : ((mkArcS n x).map arcD).take x.length = (mkArcS n x).map arcD := List.take_of_length_le (by simp [mkArcS_len])
    have hce : (((2 * x.length) : Nat) : Int) = 2 * x.length := by omega
    simp only [go_sem, ↓reduceIte, Nat.reduceEqDiff, Nat.reduceAdd, Nat.reduceMul, Nat.reduceBEq, Option.getD_none, Int.reduceToNat, Nat.reduceSub, Nat.reduceLT, Nat.reduceLeDiff, Int.reduceLE, Int.reduceLT, reduceCtorEq, hi', hall, mkArcS_len, htk, hce, k0, h1, h5, hm]
    try rfl

end Go.Vm.Ytedcnkglldmkbaa
