/- What the functions that the law reaches return: part 1 (the conditions stand at each). -/
import Derived.Test.YtdebllkmblakkaaIr
/- Words for data: whole numbers, rows of them. -/
namespace Go.Vm
open Go
set_option linter.unusedSimpArgs false
set_option linter.unusedVariables false

abbrev Ii (n : Int) : D := .int .i64 n
abbrev Bb (b : Bool) : D := .bool b
abbrev ints (l : List Int) : D := .sl 1 (l.map Ii)
abbrev aI (n : Int) : AV := .dat none (.int .i64 n)
abbrev aB (b : Bool) : AV := .dat none (.bool b)
/-- a whole number of 64 bits -/
def i64 (n : Int) : Prop := -9223372036854775808 ≤ n ∧ n ≤ 9223372036854775807
theorem wrap_k {k m : Nat} (h : k < m) (hm : m ≤ 9223372036854775807) : IntKind.i64.wrap ((k : Int) + 1) = ((k + 1 : Nat) : Int) := by
  rw [wrap_in (by omega) (by omega)]; rfl
theorem take_succ' {α : Type} {l : List α} {k : Nat} (h : k < l.length) : l.take (k + 1) = l.take k ++ [l[k]] := by
  rw [List.take_succ_eq_append_getElem h]
theorem all_take {α : Type} {p : α → Bool} {l : List α} {k : Nat} (h : k < l.length) (h1 : (l.take k).all p = true) (h2 : p l[k] = true) : (l.take (k + 1)).all p = true := by
  rw [take_succ' h, List.all_append, h1]; simpa using h2
theorem not_all {α : Type} {p : α → Bool} {l : List α} {k : Nat} (h : k < l.length) (h2 : p l[k] = false) : l.all p = false := by
  rw [← Bool.not_eq_true, List.all_eq_true]
  intro hh
  have := hh _ (List.getElem_mem h)
  rw [h2] at this; cases this
section
variable {α : Type} {f : α → D} {z : D} {l : List α} {k : Nat}
theorem take_map_len : (l.map f).take l.length = l.map f := by rw [List.take_of_length_le (by simp)]
end
section
variable {α : Type} {A B : List α} {k : Nat}
end
/-- a row that grows: nil at first, then under one name -/
def RowAt (x : AV) (M : Mem) (nm sz : Nat) (ds : List D) : Prop := (ds = [] ∧ x = .nil sz) ∨ ∃ v, x = .sl nm v 0 ds.length sz ∧ M.m nm = some (.arr v true sz ds)
theorem RowAt.nil {M : Mem} {nm sz : Nat} : RowAt (.nil sz) M nm sz [] := .inl ⟨rfl, rfl⟩
theorem RowAt.sl {x : AV} {M : Mem} {nm sz v n : Nat} {ds : List D} (hx : x = .sl nm v 0 n sz) (hn : n = ds.length) (hm : M.m nm = some (.arr v true sz ds)) : RowAt x M nm sz ds := .inr ⟨v, by rw [hx, hn], hm⟩
section
variable {α : Type} {f : Int → α → α} {c : α → Nat}
end
theorem noRsL_all : ∀ {ds : List D}, (∀ d ∈ ds, noRs d = true) → noRsL ds = true
  | [], _ => rfl
  | d :: ds, h => by simp only [noRsL, Bool.and_eq_true]; exact ⟨h d List.mem_cons_self, noRsL_all fun x hx => h x (List.mem_cons_of_mem _ hx)⟩
theorem noRs_sl {sz : Nat} {ds : List D} (h : ∀ d ∈ ds, noRs d = true) : noRs (.sl sz ds) = true := by simp only [noRs]; exact noRsL_all h
theorem noRs_ints {l : List Int} : noRs (ints l) = true := noRs_sl (by simp [noRs])

/-! ### function values -/
section
variable {P : Program} {s : Nat → AV} {M : Mem} {nb ib : Nat}
theorem frzR_caps : ∀ (caps : List D), frzR s M ((caps.map bindC).map X.k) = some caps
  | [] => rfl
  | c :: caps => by simp only [List.map_cons, frzR, ev_k, frz_bindC, frzR_caps caps]
theorem frzR_app : ∀ (xs ys : List X), frzR s M (xs ++ ys) = match frzR s M xs, frzR s M ys with | some a, some b => some (a ++ b) | _, _ => none
  | [], ys => by simp only [List.nil_append, frzR]; cases frzR s M ys <;> rfl
  | x :: xs, ys => by
    simp only [List.cons_append, frzR, frzR_app xs ys]
    cases frz M 8 (x.ev s) <;> cases frzR s M xs <;> cases frzR s M ys <;> rfl
/-- a function value is called -/
theorem ccl_ro {f : FuncId} {caps : List D} {args : List X} {ds : List D} {K : AV → Mem → (Nat → Bool) → Prop} (ha : frzR s M args = some ds)
    (h : @fcW P f (args.map (fun _ => Md.ro) ++ caps.map fun _ => Md.ro) (ds ++ caps) false ((args ++ (caps.map bindC).map X.k).all fun x => coldA (x.ev s)) nb ib M ⟨K⟩) : @cW P (.clo f (caps.map bindC)) s M nb ib false args ⟨K⟩ := by
  rw [cW_clo, CR_ro, frzR_app, ha, frzR_caps]
  have e : ((args ++ (caps.map bindC).map X.k).map fun _ => Md.ro) = (args.map (fun _ => Md.ro) ++ caps.map fun _ => Md.ro) := by simp [List.map_map, Function.comp_def]
  rw [e]
  exact h
end
/-- the first place at which 'p' holds; -1: nowhere -/
def idxB {α : Type} (p : α → Bool) (l : List α) : Int := match l.findIdx? p with
  | some i => i
  | none => -1
theorem idxB_none {α : Type} {p : α → Bool} {l : List α} (h : l.all (fun x => !p x) = true) : idxB p l = -1 := by
  unfold idxB
  rw [List.findIdx?_eq_none_iff.2 (fun x hx => by simpa using List.all_eq_true.1 h x hx)]
theorem idxB_some {α : Type} {p : α → Bool} {l : List α} {k : Nat} (hk : k < l.length) (h : (l.take k).all (fun x => !p x) = true) (hp : p l[k] = true) : idxB p l = k := by
  unfold idxB
  rw [List.findIdx?_eq_some_iff_getElem.2 ⟨hk, hp, fun j hj => by
    have := List.all_eq_true.1 h l[j] (by rw [List.mem_take_iff_getElem]; exact ⟨j, by omega, rfl⟩)
    simpa using this⟩]
theorem idxB_any {α : Type} {p : α → Bool} {l : List α} : decide (0 ≤ idxB p l) = l.any p := by
  unfold idxB
  cases h : l.findIdx? p with
  | none =>
    rw [List.findIdx?_eq_none_iff] at h
    rw [List.any_eq_false.2 (fun x hx => by simp [h x hx])]; rfl
  | some i =>
    rw [List.findIdx?_eq_some_iff_getElem] at h
    obtain ⟨hi, hp, _⟩ := h
    rw [List.any_eq_true.2 ⟨l[i], List.getElem_mem hi, hp⟩]
    simp
end Go.Vm
/- Walks: small functions. -/
namespace Go.Vm.Ytdebllkmblakkaa
open Go Go.Vm
set_option maxRecDepth 10000
set_option maxHeartbeats 4000000
set_option linter.unusedSimpArgs false
set_option linter.unusedVariables false

def inB (n lo hi : Int) : Bool := decide (lo ≤ n) && decide (n ≤ hi)
theorem impl_in.fc (n lo hi : Int) : FCt prog F_impl_in [.ro, .ro, .ro] [Ii n, Ii lo, Ii hi] (Bb (inB n lo hi)) [] := by
  refine fct_run impl_in.ok rfl ?_
  unfold inB
  by_cases h : lo ≤ n
  · simp only [go_sem, ↓reduceIte, Nat.reduceEqDiff, Nat.reduceAdd, Nat.reduceMul, Nat.reduceBEq, Option.getD_none, Int.reduceToNat, Nat.reduceSub, Nat.reduceLT, Nat.reduceLeDiff, Int.reduceLE, Int.reduceLT, reduceCtorEq, ge_iff_le, h]
  · simp only [go_sem, ↓reduceIte, Nat.reduceEqDiff, Nat.reduceAdd, Nat.reduceMul, Nat.reduceBEq, Option.getD_none, Int.reduceToNat, Nat.reduceSub, Nat.reduceLT, Nat.reduceLeDiff, Int.reduceLE, Int.reduceLT, reduceCtorEq, ge_iff_le, h]
theorem spec_l1In.fc (n lo hi : Int) : FCt prog F_spec_l1In [.ro, .ro, .ro] [Ii n, Ii lo, Ii hi] (Bb (inB n lo hi)) [] := by
  refine fct_run spec_l1In.ok rfl ?_
  unfold inB
  by_cases h : lo ≤ n
  · simp only [go_sem, ↓reduceIte, Nat.reduceEqDiff, Nat.reduceAdd, Nat.reduceMul, Nat.reduceBEq, Option.getD_none, Int.reduceToNat, Nat.reduceSub, Nat.reduceLT, Nat.reduceLeDiff, Int.reduceLE, Int.reduceLT, reduceCtorEq, ge_iff_le, h]
  · simp only [go_sem, ↓reduceIte, Nat.reduceEqDiff, Nat.reduceAdd, Nat.reduceMul, Nat.reduceBEq, Option.getD_none, Int.reduceToNat, Nat.reduceSub, Nat.reduceLT, Nat.reduceLeDiff, Int.reduceLE, Int.reduceLT, reduceCtorEq, ge_iff_le, h]

end Go.Vm.Ytdebllkmblakkaa
/- Walks: rules are copied and weighed. -/
namespace Go.Vm.Ytdebllkmblakkaa
open Go Go.Vm
set_option maxRecDepth 10000
set_option maxHeartbeats 4000000
set_option linter.unusedSimpArgs false
set_option linter.unusedVariables false

/-- a rule -/
structure RuleD where
  ifs : List Int
  thn : Int
  deriving DecidableEq
abbrev RuleD.d (r : RuleD) : D := .agg [ints r.ifs, Ii r.thn]
abbrev rules (l : List RuleD) : D := .sl 2 (l.map RuleD.d)
end Go.Vm.Ytdebllkmblakkaa
/- Walks: rules are looked at. -/
namespace Go.Vm.Ytdebllkmblakkaa
open Go Go.Vm
set_option maxRecDepth 10000
set_option maxHeartbeats 4000000
set_option linter.unusedSimpArgs false
set_option linter.unusedVariables false

end Go.Vm.Ytdebllkmblakkaa
/- Walks: rules are looked at, by the program and by the reference. -/
namespace Go.Vm.Ytdebllkmblakkaa
open Go Go.Vm
set_option maxRecDepth 10000
set_option maxHeartbeats 4000000
set_option linter.unusedSimpArgs false
set_option linter.unusedVariables false

end Go.Vm.Ytdebllkmblakkaa
/- Walks: valid rules; rules are compared. -/
namespace Go.Vm.Ytdebllkmblakkaa
open Go Go.Vm
set_option maxRecDepth 10000
set_option maxHeartbeats 4000000
set_option linter.unusedSimpArgs false
set_option linter.unusedVariables false

end Go.Vm.Ytdebllkmblakkaa
/- Walks: results are marked and read again. -/
namespace Go.Vm.Ytdebllkmblakkaa
open Go Go.Vm
set_option maxRecDepth 10000
set_option maxHeartbeats 4000000
set_option linter.unusedSimpArgs false
set_option linter.unusedVariables false

end Go.Vm.Ytdebllkmblakkaa
/- Walks: intervals and known bits, reduced by each other. -/
namespace Go.Vm.Ytdebllkmblakkaa
open Go Go.Vm
set_option maxRecDepth 10000
set_option maxHeartbeats 4000000
set_option linter.unusedSimpArgs false
set_option linter.unusedVariables false

abbrev pr (a b : Int) : D := .agg [Ii a, Ii b]
end Go.Vm.Ytdebllkmblakkaa
/- Walks: arcs. -/
namespace Go.Vm.Ytdebllkmblakkaa
open Go Go.Vm
set_option maxRecDepth 10000
set_option maxHeartbeats 4000000
set_option linter.unusedSimpArgs false
set_option linter.unusedVariables false

abbrev arcD (a : Int × Int) : D := pr a.1 a.2
abbrev arcs (l : List (Int × Int)) : D := .sl 2 (l.map arcD)
theorem noRs_arc {a : Int × Int} : noRs (arcD a) = true := rfl
theorem noRs_arcs {l : List (Int × Int)} : noRs (arcs l) = true := noRs_sl (by
  intro d hd
  obtain ⟨r, _, rfl⟩ := List.mem_map.1 hd
  exact noRs_arc)
end Go.Vm.Ytdebllkmblakkaa
/- Walks: valid arcs. -/
namespace Go.Vm.Ytdebllkmblakkaa
open Go Go.Vm
set_option maxRecDepth 10000
set_option maxHeartbeats 4000000
set_option linter.unusedSimpArgs false
set_option linter.unusedVariables false

def prevBad (p a : Int × Int) : Bool := decide (p.1 > a.1) || (p.1 == a.1 && decide (p.2 ≥ a.2))
def arcAt (m : Int) (l : List (Int × Int)) (i : Nat) : Bool :=
  inB (l.getD i (0, 0)).1 0 m && inB (l.getD i (0, 0)).2 0 m && !(decide (0 < i) && prevBad (l.getD (i - 1) (0, 0)) (l.getD i (0, 0)))
def goodA (n : Int) (l : List (Int × Int)) : Bool := (List.range l.length).all (arcAt (IntKind.i64.wrap (n - 1)) l) && (inB n 1 6 && decide (l.length ≤ 30))
theorem arc_step {m : Int} {l : List (Int × Int)} {k : Nat} (h : (List.range k).all (arcAt m l) = true) (h2 : arcAt m l k = true) : (List.range (k + 1)).all (arcAt m l) = true := by
  rw [List.range_succ, List.all_append, h]; simpa using h2
theorem arc_not {n : Int} {l : List (Int × Int)} {k : Nat} (hk : k < l.length) (h2 : arcAt (IntKind.i64.wrap (n - 1)) l k = false) : goodA n l = false := by
  unfold goodA
  rw [Bool.and_eq_false_iff]
  refine .inl ?_
  rw [← Bool.not_eq_true, List.all_eq_true]
  intro h
  have := h k (by simpa using hk)
  rw [h2] at this; cases this
theorem impl_isSpots.fc (n : Int) : FCt prog F_impl_isSpots [.ro] [Ii n] (Bb (inB n 1 6)) [] := by
  refine fct_run impl_isSpots.ok rfl ?_
  simp only [go_sem, ↓reduceIte, Nat.reduceEqDiff, Nat.reduceAdd, Nat.reduceMul, Nat.reduceBEq, Option.getD_none, Int.reduceToNat, Nat.reduceSub, Nat.reduceLT, Nat.reduceLeDiff, Int.reduceLE, Int.reduceLT, reduceCtorEq]
  refine fcW_bool (impl_in.fc ..) ?_
  simp only [go_sem, ↓reduceIte, Nat.reduceEqDiff, Nat.reduceAdd, Nat.reduceMul, Nat.reduceBEq, Option.getD_none, Int.reduceToNat, Nat.reduceSub, Nat.reduceLT, Nat.reduceLeDiff, Int.reduceLE, Int.reduceLT, reduceCtorEq]
theorem spec_GoodArcs.fc (n : Int) (l : List (Int × Int)) (hl : l.length ≤ 4294967296) : FCt prog F_spec_GoodArcs [.ro, .ro] [Ii n, arcs l] (Bb (goodA n l)) [] := by
  refine fct_run spec_GoodArcs.ok rfl ?_
  simp only [go_sem, ↓reduceIte, Nat.reduceEqDiff, Nat.reduceAdd, Nat.reduceMul, Nat.reduceBEq, Option.getD_none, Int.reduceToNat, Nat.reduceSub, Nat.reduceLT, Nat.reduceLeDiff, Int.reduceLE, Int.reduceLT, reduceCtorEq]
  refine R_loop (α := Nat) (fun k s' M' => k ≤ l.length ∧ s' 9 = aI k ∧ (List.range k).all (arcAt (IntKind.i64.wrap (n - 1)) l) = true) (fun k => l.length - k) 0 ⟨by omega, by simp only [go_sem, ↓reduceIte, Nat.reduceEqDiff, Nat.reduceAdd, Nat.reduceMul, Nat.reduceBEq, Option.getD_none, Int.reduceToNat, Nat.reduceSub, Nat.reduceLT, Nat.reduceLeDiff, Int.reduceLE, Int.reduceLT, reduceCtorEq]; rfl, by simp⟩ ?_
  rintro k s' M' ⟨hk, h9, hr⟩ ho
  have h0 : s' 0 = aI n := by rw [ho 0 rfl]; simp only [go_sem, ↓reduceIte, Nat.reduceEqDiff, Nat.reduceAdd, Nat.reduceMul, Nat.reduceBEq, Option.getD_none, Int.reduceToNat, Nat.reduceSub, Nat.reduceLT, Nat.reduceLeDiff, Int.reduceLE, Int.reduceLT, reduceCtorEq]
  have h1 : s' 1 = .dat none (arcs l) := by rw [ho 1 rfl]; simp only [go_sem, ↓reduceIte, Nat.reduceEqDiff, Nat.reduceAdd, Nat.reduceMul, Nat.reduceBEq, Option.getD_none, Int.reduceToNat, Nat.reduceSub, Nat.reduceLT, Nat.reduceLeDiff, Int.reduceLE, Int.reduceLT, reduceCtorEq]
  have h7 : s' 7 = .dat none (arcs l) := by rw [ho 7 rfl]; simp only [go_sem, ↓reduceIte, Nat.reduceEqDiff, Nat.reduceAdd, Nat.reduceMul, Nat.reduceBEq, Option.getD_none, Int.reduceToNat, Nat.reduceSub, Nat.reduceLT, Nat.reduceLeDiff, Int.reduceLE, Int.reduceLT, reduceCtorEq]
  have h8 : s' 8 = aI l.length := by rw [ho 8 rfl]; simp only [go_sem, ↓reduceIte, Nat.reduceEqDiff, Nat.reduceAdd, Nat.reduceMul, Nat.reduceBEq, Option.getD_none, Int.reduceToNat, Nat.reduceSub, Nat.reduceLT, Nat.reduceLeDiff, Int.reduceLE, Int.reduceLT, reduceCtorEq]
  clear ho
  unfold spec_GoodArcs.b0
  by_cases hlt : k < l.length
  · have hi' : (k : Int) < l.length := by omega
    have ga : l[k]? = some l[k] := List.getElem?_eq_getElem hlt
    have hw : IntKind.i64.wrap (k + 1) = ((k + 1 : Nat) : Int) := wrap_k hlt (by omega)
    have gd : l.getD k (0, 0) = l[k] := by rw [List.getD_eq_getElem?_getD, ga]; rfl
    simp only [go_sem, ↓reduceIte, Nat.reduceEqDiff, Nat.reduceAdd, Nat.reduceMul, Nat.reduceBEq, Option.getD_none, Int.reduceToNat, Nat.reduceSub, Nat.reduceLT, Nat.reduceLeDiff, Int.reduceLE, Int.reduceLT, reduceCtorEq, hi', ga, h0, h1, h7, h8, h9]
    refine fcW_bool (spec_l1In.fc ..) ?_
    cases ha : inB l[k].1 0 (IntKind.i64.wrap (n - 1)) with
    | false =>
      have hf := arc_not hlt (n := n) (by simp only [arcAt, gd, ha, Bool.false_and])
      simp only [go_sem, ↓reduceIte, Nat.reduceEqDiff, Nat.reduceAdd, Nat.reduceMul, Nat.reduceBEq, Option.getD_none, Int.reduceToNat, Nat.reduceSub, Nat.reduceLT, Nat.reduceLeDiff, Int.reduceLE, Int.reduceLT, reduceCtorEq, hf, h0, h1, h7, h8, h9]
    | true =>
      simp only [go_sem, ↓reduceIte, Nat.reduceEqDiff, Nat.reduceAdd, Nat.reduceMul, Nat.reduceBEq, Option.getD_none, Int.reduceToNat, Nat.reduceSub, Nat.reduceLT, Nat.reduceLeDiff, Int.reduceLE, Int.reduceLT, reduceCtorEq, h0, h1, h7, h8, h9]
      refine fcW_bool (spec_l1In.fc ..) ?_
      cases hb : inB l[k].2 0 (IntKind.i64.wrap (n - 1)) with
      | false =>
        have hf := arc_not hlt (n := n) (by simp only [arcAt, gd, ha, hb, Bool.false_and, Bool.and_false])
        simp only [go_sem, ↓reduceIte, Nat.reduceEqDiff, Nat.reduceAdd, Nat.reduceMul, Nat.reduceBEq, Option.getD_none, Int.reduceToNat, Nat.reduceSub, Nat.reduceLT, Nat.reduceLeDiff, Int.reduceLE, Int.reduceLT, reduceCtorEq, hf, h0, h1, h7, h8, h9]
      | true =>
        by_cases hk0 : 0 < k
        · have hk0' : (k : Int) > 0 := by omega
          have gb : l[k - 1]? = some l[k - 1] := List.getElem?_eq_getElem (by omega)
          have gd1 : l.getD (k - 1) (0, 0) = l[k - 1] := by rw [List.getD_eq_getElem?_getD, gb]; rfl
          have hw1 : IntKind.i64.wrap (k - 1) = ((k - 1 : Nat) : Int) := by rw [wrap_in (by omega) (by omega)]; omega
          have hi1 : ((k - 1 : Nat) : Int) < l.length := by omega
          have hat : arcAt (IntKind.i64.wrap (n - 1)) l k = !prevBad l[k - 1] l[k] := by simp only [arcAt, gd, gd1, ha, hb, hk0, decide_true, Bool.true_and]
          by_cases c1 : l[k - 1].1 > l[k].1
          · have hf := arc_not hlt (n := n) (by rw [hat]; simp [prevBad, c1])
            simp only [go_sem, ↓reduceIte, Nat.reduceEqDiff, Nat.reduceAdd, Nat.reduceMul, Nat.reduceBEq, Option.getD_none, Int.reduceToNat, Nat.reduceSub, Nat.reduceLT, Nat.reduceLeDiff, Int.reduceLE, Int.reduceLT, reduceCtorEq, c1, hf, h0, h1, h7, h8, h9, hk0', gb, hw1, hi1]
          · by_cases c2 : l[k - 1].1 = l[k].1
            · have c2' : (l[k - 1].1 == l[k].1) = true := by simpa using c2
              by_cases c3 : l[k - 1].2 ≥ l[k].2
              · have hf := arc_not hlt (n := n) (by rw [hat]; simp [prevBad, c2, c3])
                simp only [go_sem, ↓reduceIte, Nat.reduceEqDiff, Nat.reduceAdd, Nat.reduceMul, Nat.reduceBEq, Option.getD_none, Int.reduceToNat, Nat.reduceSub, Nat.reduceLT, Nat.reduceLeDiff, Int.reduceLE, Int.reduceLT, reduceCtorEq, c1, c2', c3, hf, h0, h1, h7, h8, h9, hk0', gb, hw1, hi1]
              · simp only [go_sem, ↓reduceIte, Nat.reduceEqDiff, Nat.reduceAdd, Nat.reduceMul, Nat.reduceBEq, Option.getD_none, Int.reduceToNat, Nat.reduceSub, Nat.reduceLT, Nat.reduceLeDiff, Int.reduceLE, Int.reduceLT, reduceCtorEq, c1, c2', c3, hw, h0, h1, h7, h8, h9, hk0', gb, hw1, hi1]
                exact ⟨k + 1, by dsimp only; omega, by omega, by simp only [go_sem, ↓reduceIte, Nat.reduceEqDiff, Nat.reduceAdd, Nat.reduceMul, Nat.reduceBEq, Option.getD_none, Int.reduceToNat, Nat.reduceSub, Nat.reduceLT, Nat.reduceLeDiff, Int.reduceLE, Int.reduceLT, reduceCtorEq, h0, h1, h7, h8, h9, hk0', gb, hw1, hi1], arc_step hr (by rw [hat]; simp [prevBad, c1, c3])⟩
            · have c2' : (l[k - 1].1 == l[k].1) = false := by simpa using c2
              simp only [go_sem, ↓reduceIte, Nat.reduceEqDiff, Nat.reduceAdd, Nat.reduceMul, Nat.reduceBEq, Option.getD_none, Int.reduceToNat, Nat.reduceSub, Nat.reduceLT, Nat.reduceLeDiff, Int.reduceLE, Int.reduceLT, reduceCtorEq, c1, c2', hw, h0, h1, h7, h8, h9, hk0', gb, hw1, hi1]
              exact ⟨k + 1, by dsimp only; omega, by omega, by simp only [go_sem, ↓reduceIte, Nat.reduceEqDiff, Nat.reduceAdd, Nat.reduceMul, Nat.reduceBEq, Option.getD_none, Int.reduceToNat, Nat.reduceSub, Nat.reduceLT, Nat.reduceLeDiff, Int.reduceLE, Int.reduceLT, reduceCtorEq, h0, h1, h7, h8, h9, hk0', gb, hw1, hi1], arc_step hr (by rw [hat]; simp [prevBad, c1, c2])⟩
        · have hk0' : ¬ (k : Int) > 0 := by omega
          simp only [go_sem, ↓reduceIte, Nat.reduceEqDiff, Nat.reduceAdd, Nat.reduceMul, Nat.reduceBEq, Option.getD_none, Int.reduceToNat, Nat.reduceSub, Nat.reduceLT, Nat.reduceLeDiff, Int.reduceLE, Int.reduceLT, reduceCtorEq, hk0', hw, h0, h1, h7, h8, h9]
          exact ⟨k + 1, by dsimp only; omega, by omega, by simp only [go_sem, ↓reduceIte, Nat.reduceEqDiff, Nat.reduceAdd, Nat.reduceMul, Nat.reduceBEq, Option.getD_none, Int.reduceToNat, Nat.reduceSub, Nat.reduceLT, Nat.reduceLeDiff, Int.reduceLE, Int.reduceLT, reduceCtorEq, h0, h1, h7, h8, h9], arc_step hr (by simp only [arcAt, gd, ha, hb, hk0, decide_false, Bool.false_and]; rfl)⟩
  · have hi' : ¬ (k : Int) < l.length := by omega
    have hkl : k = l.length := by omega
    subst hkl
    have hf : goodA n l = (inB n 1 6 && decide ((l.length : Int) ≤ 30)) := by
      simp only [goodA, hr, Bool.true_and]
      rw [show decide (l.length ≤ 30) = decide ((l.length : Int) ≤ 30) from decide_eq_decide.2 (by omega)]
    simp only [go_sem, ↓reduceIte, Nat.reduceEqDiff, Nat.reduceAdd, Nat.reduceMul, Nat.reduceBEq, Option.getD_none, Int.reduceToNat, Nat.reduceSub, Nat.reduceLT, Nat.reduceLeDiff, Int.reduceLE, Int.reduceLT, reduceCtorEq, hi', h0, h1, h7, h8, h9]
    refine fcW_bool (spec_l1In.fc ..) ?_
    cases hin : inB n 1 6
    · simp only [go_sem, ↓reduceIte, Nat.reduceEqDiff, Nat.reduceAdd, Nat.reduceMul, Nat.reduceBEq, Option.getD_none, Int.reduceToNat, Nat.reduceSub, Nat.reduceLT, Nat.reduceLeDiff, Int.reduceLE, Int.reduceLT, reduceCtorEq, hf, hin, h0, h1, h7, h8, h9]
    · simp only [go_sem, ↓reduceIte, Nat.reduceEqDiff, Nat.reduceAdd, Nat.reduceMul, Nat.reduceBEq, Option.getD_none, Int.reduceToNat, Nat.reduceSub, Nat.reduceLT, Nat.reduceLeDiff, Int.reduceLE, Int.reduceLT, reduceCtorEq, hf, hin, h0, h1, h7, h8, h9]
theorem impl_GoodArcs.fc (n : Int) (l : List (Int × Int)) (hl : l.length ≤ 4294967296) : FCt prog F_impl_GoodArcs [.ro, .ro] [Ii n, arcs l] (Bb (goodA n l)) [] := by
  refine fct_run impl_GoodArcs.ok rfl ?_
  simp only [go_sem, ↓reduceIte, Nat.reduceEqDiff, Nat.reduceAdd, Nat.reduceMul, Nat.reduceBEq, Option.getD_none, Int.reduceToNat, Nat.reduceSub, Nat.reduceLT, Nat.reduceLeDiff, Int.reduceLE, Int.reduceLT, reduceCtorEq]
  refine R_loop (α := Nat) (fun k s' M' => k ≤ l.length ∧ s' 10 = aI k ∧ (List.range k).all (arcAt (IntKind.i64.wrap (n - 1)) l) = true) (fun k => l.length - k) 0 ⟨by omega, by simp only [go_sem, ↓reduceIte, Nat.reduceEqDiff, Nat.reduceAdd, Nat.reduceMul, Nat.reduceBEq, Option.getD_none, Int.reduceToNat, Nat.reduceSub, Nat.reduceLT, Nat.reduceLeDiff, Int.reduceLE, Int.reduceLT, reduceCtorEq]; rfl, by simp⟩ ?_
  rintro k s' M' ⟨hk, h10, hr⟩ ho
  have h0 : s' 0 = aI n := by rw [ho 0 rfl]; simp only [go_sem, ↓reduceIte, Nat.reduceEqDiff, Nat.reduceAdd, Nat.reduceMul, Nat.reduceBEq, Option.getD_none, Int.reduceToNat, Nat.reduceSub, Nat.reduceLT, Nat.reduceLeDiff, Int.reduceLE, Int.reduceLT, reduceCtorEq]
  have h1 : s' 1 = .dat none (arcs l) := by rw [ho 1 rfl]; simp only [go_sem, ↓reduceIte, Nat.reduceEqDiff, Nat.reduceAdd, Nat.reduceMul, Nat.reduceBEq, Option.getD_none, Int.reduceToNat, Nat.reduceSub, Nat.reduceLT, Nat.reduceLeDiff, Int.reduceLE, Int.reduceLT, reduceCtorEq]
  have h7 : s' 8 = .dat none (arcs l) := by rw [ho 8 rfl]; simp only [go_sem, ↓reduceIte, Nat.reduceEqDiff, Nat.reduceAdd, Nat.reduceMul, Nat.reduceBEq, Option.getD_none, Int.reduceToNat, Nat.reduceSub, Nat.reduceLT, Nat.reduceLeDiff, Int.reduceLE, Int.reduceLT, reduceCtorEq]
  have h99 : s' 9 = aI l.length := by rw [ho 9 rfl]; simp only [go_sem, ↓reduceIte, Nat.reduceEqDiff, Nat.reduceAdd, Nat.reduceMul, Nat.reduceBEq, Option.getD_none, Int.reduceToNat, Nat.reduceSub, Nat.reduceLT, Nat.reduceLeDiff, Int.reduceLE, Int.reduceLT, reduceCtorEq]
  clear ho
  unfold impl_GoodArcs.b0
  by_cases hlt : k < l.length
  · have hi' : (k : Int) < l.length := by omega
    have ga : l[k]? = some l[k] := List.getElem?_eq_getElem hlt
    have hw : IntKind.i64.wrap (k + 1) = ((k + 1 : Nat) : Int) := wrap_k hlt (by omega)
    have gd : l.getD k (0, 0) = l[k] := by rw [List.getD_eq_getElem?_getD, ga]; rfl
    simp only [go_sem, ↓reduceIte, Nat.reduceEqDiff, Nat.reduceAdd, Nat.reduceMul, Nat.reduceBEq, Option.getD_none, Int.reduceToNat, Nat.reduceSub, Nat.reduceLT, Nat.reduceLeDiff, Int.reduceLE, Int.reduceLT, reduceCtorEq, hi', ga, h0, h1, h7, h99, h10]
    refine fcW_bool (impl_in.fc ..) ?_
    cases ha : inB l[k].1 0 (IntKind.i64.wrap (n - 1)) with
    | false =>
      have hf := arc_not hlt (n := n) (by simp only [arcAt, gd, ha, Bool.false_and])
      simp only [go_sem, ↓reduceIte, Nat.reduceEqDiff, Nat.reduceAdd, Nat.reduceMul, Nat.reduceBEq, Option.getD_none, Int.reduceToNat, Nat.reduceSub, Nat.reduceLT, Nat.reduceLeDiff, Int.reduceLE, Int.reduceLT, reduceCtorEq, hf, h0, h1, h7, h99, h10]
    | true =>
      simp only [go_sem, ↓reduceIte, Nat.reduceEqDiff, Nat.reduceAdd, Nat.reduceMul, Nat.reduceBEq, Option.getD_none, Int.reduceToNat, Nat.reduceSub, Nat.reduceLT, Nat.reduceLeDiff, Int.reduceLE, Int.reduceLT, reduceCtorEq, h0, h1, h7, h99, h10]
      refine fcW_bool (impl_in.fc ..) ?_
      cases hb : inB l[k].2 0 (IntKind.i64.wrap (n - 1)) with
      | false =>
        have hf := arc_not hlt (n := n) (by simp only [arcAt, gd, ha, hb, Bool.false_and, Bool.and_false])
        simp only [go_sem, ↓reduceIte, Nat.reduceEqDiff, Nat.reduceAdd, Nat.reduceMul, Nat.reduceBEq, Option.getD_none, Int.reduceToNat, Nat.reduceSub, Nat.reduceLT, Nat.reduceLeDiff, Int.reduceLE, Int.reduceLT, reduceCtorEq, hf, h0, h1, h7, h99, h10]
      | true =>
        by_cases hk0 : 0 < k
        · have hk0' : (k : Int) > 0 := by omega
          have gb : l[k - 1]? = some l[k - 1] := List.getElem?_eq_getElem (by omega)
          have gd1 : l.getD (k - 1) (0, 0) = l[k - 1] := by rw [List.getD_eq_getElem?_getD, gb]; rfl
          have hw1 : IntKind.i64.wrap (k - 1) = ((k - 1 : Nat) : Int) := by rw [wrap_in (by omega) (by omega)]; omega
          have hi1 : ((k - 1 : Nat) : Int) < l.length := by omega
          have hmx : (if ((k - 1 : Nat) : Int) > 0 then ((k - 1 : Nat) : Int) else 0) = ((k - 1 : Nat) : Int) := by split <;> omega
          have hat : arcAt (IntKind.i64.wrap (n - 1)) l k = !prevBad l[k - 1] l[k] := by simp only [arcAt, gd, gd1, ha, hb, hk0, decide_true, Bool.true_and]
          by_cases c1 : l[k - 1].1 > l[k].1
          · have hf := arc_not hlt (n := n) (by rw [hat]; simp [prevBad, c1])
            simp only [go_sem, ↓reduceIte, Nat.reduceEqDiff, Nat.reduceAdd, Nat.reduceMul, Nat.reduceBEq, Option.getD_none, Int.reduceToNat, Nat.reduceSub, Nat.reduceLT, Nat.reduceLeDiff, Int.reduceLE, Int.reduceLT, reduceCtorEq, c1, hf, h0, h1, h7, h99, h10, hk0', gb, hw1, hi1, hmx]
          · by_cases c2 : l[k - 1].1 = l[k].1
            · have c2' : (l[k - 1].1 == l[k].1) = true := by simpa using c2
              by_cases c3 : l[k - 1].2 ≥ l[k].2
              · have hf := arc_not hlt (n := n) (by rw [hat]; simp [prevBad, c2, c3])
                simp only [go_sem, ↓reduceIte, Nat.reduceEqDiff, Nat.reduceAdd, Nat.reduceMul, Nat.reduceBEq, Option.getD_none, Int.reduceToNat, Nat.reduceSub, Nat.reduceLT, Nat.reduceLeDiff, Int.reduceLE, Int.reduceLT, reduceCtorEq, c1, c2', c3, hf, h0, h1, h7, h99, h10, hk0', gb, hw1, hi1, hmx]
              · simp only [go_sem, ↓reduceIte, Nat.reduceEqDiff, Nat.reduceAdd, Nat.reduceMul, Nat.reduceBEq, Option.getD_none, Int.reduceToNat, Nat.reduceSub, Nat.reduceLT, Nat.reduceLeDiff, Int.reduceLE, Int.reduceLT, reduceCtorEq, c1, c2', c3, hw, h0, h1, h7, h99, h10, hk0', gb, hw1, hi1, hmx]
                exact ⟨k + 1, by dsimp only; omega, by omega, by simp only [go_sem, ↓reduceIte, Nat.reduceEqDiff, Nat.reduceAdd, Nat.reduceMul, Nat.reduceBEq, Option.getD_none, Int.reduceToNat, Nat.reduceSub, Nat.reduceLT, Nat.reduceLeDiff, Int.reduceLE, Int.reduceLT, reduceCtorEq, h0, h1, h7, h99, h10, hk0', gb, hw1, hi1, hmx], arc_step hr (by rw [hat]; simp [prevBad, c1, c3])⟩
            · have c2' : (l[k - 1].1 == l[k].1) = false := by simpa using c2
              simp only [go_sem, ↓reduceIte, Nat.reduceEqDiff, Nat.reduceAdd, Nat.reduceMul, Nat.reduceBEq, Option.getD_none, Int.reduceToNat, Nat.reduceSub, Nat.reduceLT, Nat.reduceLeDiff, Int.reduceLE, Int.reduceLT, reduceCtorEq, c1, c2', hw, h0, h1, h7, h99, h10, hk0', gb, hw1, hi1, hmx]
              exact ⟨k + 1, by dsimp only; omega, by omega, by simp only [go_sem, ↓reduceIte, Nat.reduceEqDiff, Nat.reduceAdd, Nat.reduceMul, Nat.reduceBEq, Option.getD_none, Int.reduceToNat, Nat.reduceSub, Nat.reduceLT, Nat.reduceLeDiff, Int.reduceLE, Int.reduceLT, reduceCtorEq, h0, h1, h7, h99, h10, hk0', gb, hw1, hi1, hmx], arc_step hr (by rw [hat]; simp [prevBad, c1, c2])⟩
        · have hk0' : ¬ (k : Int) > 0 := by omega
          obtain rfl : k = 0 := by omega
          have hm1 : IntKind.i64.wrap (((0 : Nat) : Int) - 1) = -1 := rfl
          have hm2 : (if (-1 : Int) > 0 then (-1 : Int) else 0) = 0 := rfl
          have hl0 : (0 : Int) < l.length := by omega
          have ga0 : l[0]? = some l[0] := List.getElem?_eq_getElem hlt
          simp only [go_sem, ↓reduceIte, Nat.reduceEqDiff, Nat.reduceAdd, Nat.reduceMul, Nat.reduceBEq, Option.getD_none, Int.reduceToNat, Nat.reduceSub, Nat.reduceLT, Nat.reduceLeDiff, Int.reduceLE, Int.reduceLT, reduceCtorEq, hk0', hw, hm1, hm2, hl0, ga0, Int.le_refl, h0, h1, h7, h99, h10]
          exact ⟨0 + 1, by dsimp only; omega, by omega, by simp only [go_sem, ↓reduceIte, Nat.reduceEqDiff, Nat.reduceAdd, Nat.reduceMul, Nat.reduceBEq, Option.getD_none, Int.reduceToNat, Nat.reduceSub, Nat.reduceLT, Nat.reduceLeDiff, Int.reduceLE, Int.reduceLT, reduceCtorEq, h0, h1, h7, h99, h10], arc_step hr (by simp only [arcAt, gd, ha, hb, hk0, decide_false, Bool.false_and]; rfl)⟩
  · have hi' : ¬ (k : Int) < l.length := by omega
    have hkl : k = l.length := by omega
    subst hkl
    have hf : goodA n l = (inB n 1 6 && decide ((l.length : Int) ≤ 30)) := by
      simp only [goodA, hr, Bool.true_and]
      rw [show decide (l.length ≤ 30) = decide ((l.length : Int) ≤ 30) from decide_eq_decide.2 (by omega)]
    simp only [go_sem, ↓reduceIte, Nat.reduceEqDiff, Nat.reduceAdd, Nat.reduceMul, Nat.reduceBEq, Option.getD_none, Int.reduceToNat, Nat.reduceSub, Nat.reduceLT, Nat.reduceLeDiff, Int.reduceLE, Int.reduceLT, reduceCtorEq, hi', h0, h1, h7, h99, h10]
    refine fcW_bool (impl_isSpots.fc ..) ?_
    cases hin : inB n 1 6
    · simp only [go_sem, ↓reduceIte, Nat.reduceEqDiff, Nat.reduceAdd, Nat.reduceMul, Nat.reduceBEq, Option.getD_none, Int.reduceToNat, Nat.reduceSub, Nat.reduceLT, Nat.reduceLeDiff, Int.reduceLE, Int.reduceLT, reduceCtorEq, hf, hin, h0, h1, h7, h99, h10]
    · simp only [go_sem, ↓reduceIte, Nat.reduceEqDiff, Nat.reduceAdd, Nat.reduceMul, Nat.reduceBEq, Option.getD_none, Int.reduceToNat, Nat.reduceSub, Nat.reduceLT, Nat.reduceLeDiff, Int.reduceLE, Int.reduceLT, reduceCtorEq, hf, hin, h0, h1, h7, h99, h10]
end Go.Vm.Ytdebllkmblakkaa
/- Walks: rows of rows; clauses. -/
namespace Go.Vm.Ytdebllkmblakkaa
open Go Go.Vm
set_option maxRecDepth 10000
set_option maxHeartbeats 4000000
set_option linter.unusedSimpArgs false
set_option linter.unusedVariables false

theorem slices_IndexFunc__sint_int.fc (l : List Int) (f : FuncId) (caps : List D) (p : Int → Bool) (hl : l.length ≤ 4294967296)
    (h : ∀ x ∈ l, FCt prog f (.ro :: caps.map fun _ => .ro) (Ii x :: caps) (Bb (p x)) []) : FCt prog F_slices_IndexFunc__sint_int [.ro, .ro] [ints l, .clo f caps] (Ii (idxB p l)) [] := by
  refine fct_run slices_IndexFunc__sint_int.ok rfl ?_
  simp only [go_sem, ↓reduceIte, Nat.reduceEqDiff, Nat.reduceAdd, Nat.reduceMul, Nat.reduceBEq, Option.getD_none, Int.reduceToNat, Nat.reduceSub, Nat.reduceLT, Nat.reduceLeDiff, Int.reduceLE, Int.reduceLT, reduceCtorEq]
  refine R_loop (α := Nat) (fun k s' M' => k ≤ l.length ∧ s' 8 = aI k ∧ (l.take k).all (fun x => !p x) = true) (fun k => l.length - k) 0 ⟨by omega, by simp only [go_sem, ↓reduceIte, Nat.reduceEqDiff, Nat.reduceAdd, Nat.reduceMul, Nat.reduceBEq, Option.getD_none, Int.reduceToNat, Nat.reduceSub, Nat.reduceLT, Nat.reduceLeDiff, Int.reduceLE, Int.reduceLT, reduceCtorEq]; rfl, by simp⟩ ?_
  rintro k s' M' ⟨hk, h8, hr⟩ ho
  have h0 : s' 0 = .dat none (ints l) := by rw [ho 0 rfl]; simp only [go_sem, ↓reduceIte, Nat.reduceEqDiff, Nat.reduceAdd, Nat.reduceMul, Nat.reduceBEq, Option.getD_none, Int.reduceToNat, Nat.reduceSub, Nat.reduceLT, Nat.reduceLeDiff, Int.reduceLE, Int.reduceLT, reduceCtorEq]
  have h1 : s' 1 = .clo f (caps.map bindC) := by rw [ho 1 rfl]; simp only [go_sem, ↓reduceIte, Nat.reduceEqDiff, Nat.reduceAdd, Nat.reduceMul, Nat.reduceBEq, Option.getD_none, Int.reduceToNat, Nat.reduceSub, Nat.reduceLT, Nat.reduceLeDiff, Int.reduceLE, Int.reduceLT, reduceCtorEq]
  have h7 : s' 7 = aI l.length := by rw [ho 7 rfl]; simp only [go_sem, ↓reduceIte, Nat.reduceEqDiff, Nat.reduceAdd, Nat.reduceMul, Nat.reduceBEq, Option.getD_none, Int.reduceToNat, Nat.reduceSub, Nat.reduceLT, Nat.reduceLeDiff, Int.reduceLE, Int.reduceLT, reduceCtorEq]
  clear ho
  unfold slices_IndexFunc__sint_int.b0
  by_cases hlt : k < l.length
  · have hi' : (k : Int) < l.length := by omega
    have ga : l[k]? = some l[k] := List.getElem?_eq_getElem hlt
    have hw : IntKind.i64.wrap (k + 1) = ((k + 1 : Nat) : Int) := wrap_k hlt (by omega)
    simp only [go_sem, ↓reduceIte, Nat.reduceEqDiff, Nat.reduceAdd, Nat.reduceMul, Nat.reduceBEq, Option.getD_none, Int.reduceToNat, Nat.reduceSub, Nat.reduceLT, Nat.reduceLeDiff, Int.reduceLE, Int.reduceLT, reduceCtorEq, h0, h1, h7, h8, hi', ga]
    refine ccl_ro (ds := [Ii l[k]]) (by simp only [go_sem, ↓reduceIte, Nat.reduceEqDiff, Nat.reduceAdd, Nat.reduceMul, Nat.reduceBEq, Option.getD_none, Int.reduceToNat, Nat.reduceSub, Nat.reduceLT, Nat.reduceLeDiff, Int.reduceLE, Int.reduceLT, reduceCtorEq]) ?_
    refine fcW_bool (h _ (List.getElem_mem hlt)) ?_
    cases hp : p l[k] with
    | true => simp only [go_sem, ↓reduceIte, Nat.reduceEqDiff, Nat.reduceAdd, Nat.reduceMul, Nat.reduceBEq, Option.getD_none, Int.reduceToNat, Nat.reduceSub, Nat.reduceLT, Nat.reduceLeDiff, Int.reduceLE, Int.reduceLT, reduceCtorEq, idxB_some hlt hr hp]
    | false =>
      simp only [go_sem, ↓reduceIte, Nat.reduceEqDiff, Nat.reduceAdd, Nat.reduceMul, Nat.reduceBEq, Option.getD_none, Int.reduceToNat, Nat.reduceSub, Nat.reduceLT, Nat.reduceLeDiff, Int.reduceLE, Int.reduceLT, reduceCtorEq, h8, hw]
      exact ⟨k + 1, by dsimp only; omega, by omega, by simp only [go_sem, ↓reduceIte, Nat.reduceEqDiff, Nat.reduceAdd, Nat.reduceMul, Nat.reduceBEq, Option.getD_none, Int.reduceToNat, Nat.reduceSub, Nat.reduceLT, Nat.reduceLeDiff, Int.reduceLE, Int.reduceLT, reduceCtorEq], all_take hlt hr (by simp [hp])⟩
  · have hi' : ¬ (k : Int) < l.length := by omega
    rw [List.take_of_length_le (by omega)] at hr
    simp only [go_sem, ↓reduceIte, Nat.reduceEqDiff, Nat.reduceAdd, Nat.reduceMul, Nat.reduceBEq, Option.getD_none, Int.reduceToNat, Nat.reduceSub, Nat.reduceLT, Nat.reduceLeDiff, Int.reduceLE, Int.reduceLT, reduceCtorEq, h0, h1, h7, h8, hi', idxB_none hr]
theorem slices_ContainsFunc__sint_int.fc (l : List Int) (f : FuncId) (caps : List D) (p : Int → Bool) (hl : l.length ≤ 4294967296)
    (h : ∀ x ∈ l, FCt prog f (.ro :: caps.map fun _ => .ro) (Ii x :: caps) (Bb (p x)) []) : FCt prog F_slices_ContainsFunc__sint_int [.ro, .ro] [ints l, .clo f caps] (Bb (l.any p)) [] := by
  refine fct_run slices_ContainsFunc__sint_int.ok rfl ?_
  simp only [go_sem, ↓reduceIte, Nat.reduceEqDiff, Nat.reduceAdd, Nat.reduceMul, Nat.reduceBEq, Option.getD_none, Int.reduceToNat, Nat.reduceSub, Nat.reduceLT, Nat.reduceLeDiff, Int.reduceLE, Int.reduceLT, reduceCtorEq]
  refine fcW_int (slices_IndexFunc__sint_int.fc l f caps p hl h) ?_
  simp only [go_sem, ↓reduceIte, Nat.reduceEqDiff, Nat.reduceAdd, Nat.reduceMul, Nat.reduceBEq, Option.getD_none, Int.reduceToNat, Nat.reduceSub, Nat.reduceLT, Nat.reduceLeDiff, Int.reduceLE, Int.reduceLT, reduceCtorEq, ge_iff_le, idxB_any]

theorem spec_l1Has.fc (l : List Int) (n : Int) (hl : l.length ≤ 4294967296) : FCt prog F_spec_l1Has [.ro, .ro] [ints l, Ii n] (Bb (l.any (· == n))) [] := by
  refine fct_run spec_l1Has.ok rfl ?_
  simp only [go_sem, ↓reduceIte, Nat.reduceEqDiff, Nat.reduceAdd, Nat.reduceMul, Nat.reduceBEq, Option.getD_none, Int.reduceToNat, Nat.reduceSub, Nat.reduceLT, Nat.reduceLeDiff, Int.reduceLE, Int.reduceLT, reduceCtorEq]
  refine R_loop (α := Nat) (fun k s' M' => k ≤ l.length ∧ s' 9 = aI k ∧ (l.take k).all (fun x => !(x == n)) = true) (fun k => l.length - k) 0 ⟨by omega, by simp only [go_sem, ↓reduceIte, Nat.reduceEqDiff, Nat.reduceAdd, Nat.reduceMul, Nat.reduceBEq, Option.getD_none, Int.reduceToNat, Nat.reduceSub, Nat.reduceLT, Nat.reduceLeDiff, Int.reduceLE, Int.reduceLT, reduceCtorEq]; rfl, by simp⟩ ?_
  rintro k s' M' ⟨hk, h9, hr⟩ ho
  have h1 : s' 1 = aI n := by rw [ho 1 rfl]; simp only [go_sem, ↓reduceIte, Nat.reduceEqDiff, Nat.reduceAdd, Nat.reduceMul, Nat.reduceBEq, Option.getD_none, Int.reduceToNat, Nat.reduceSub, Nat.reduceLT, Nat.reduceLeDiff, Int.reduceLE, Int.reduceLT, reduceCtorEq]
  have h7 : s' 7 = .dat none (ints l) := by rw [ho 7 rfl]; simp only [go_sem, ↓reduceIte, Nat.reduceEqDiff, Nat.reduceAdd, Nat.reduceMul, Nat.reduceBEq, Option.getD_none, Int.reduceToNat, Nat.reduceSub, Nat.reduceLT, Nat.reduceLeDiff, Int.reduceLE, Int.reduceLT, reduceCtorEq]
  have h8 : s' 8 = aI l.length := by rw [ho 8 rfl]; simp only [go_sem, ↓reduceIte, Nat.reduceEqDiff, Nat.reduceAdd, Nat.reduceMul, Nat.reduceBEq, Option.getD_none, Int.reduceToNat, Nat.reduceSub, Nat.reduceLT, Nat.reduceLeDiff, Int.reduceLE, Int.reduceLT, reduceCtorEq]
  clear ho
  unfold spec_l1Has.b0
  by_cases hlt : k < l.length
  · have hi' : (k : Int) < l.length := by omega
    have ga : l[k]? = some l[k] := List.getElem?_eq_getElem hlt
    have hw : IntKind.i64.wrap (k + 1) = ((k + 1 : Nat) : Int) := wrap_k hlt (by omega)
    simp only [go_sem, ↓reduceIte, Nat.reduceEqDiff, Nat.reduceAdd, Nat.reduceMul, Nat.reduceBEq, Option.getD_none, Int.reduceToNat, Nat.reduceSub, Nat.reduceLT, Nat.reduceLeDiff, Int.reduceLE, Int.reduceLT, reduceCtorEq, h1, h7, h8, h9, hi', ga]
    refine cdW_any (fun e => ?_) (fun e => ?_)
    · have : l.any (· == n) = true := List.any_eq_true.2 ⟨l[k], List.getElem_mem hlt, e⟩
      simp only [go_sem, ↓reduceIte, Nat.reduceEqDiff, Nat.reduceAdd, Nat.reduceMul, Nat.reduceBEq, Option.getD_none, Int.reduceToNat, Nat.reduceSub, Nat.reduceLT, Nat.reduceLeDiff, Int.reduceLE, Int.reduceLT, reduceCtorEq, this]
    · simp only [go_sem, ↓reduceIte, Nat.reduceEqDiff, Nat.reduceAdd, Nat.reduceMul, Nat.reduceBEq, Option.getD_none, Int.reduceToNat, Nat.reduceSub, Nat.reduceLT, Nat.reduceLeDiff, Int.reduceLE, Int.reduceLT, reduceCtorEq, h9, hw]
      exact ⟨k + 1, by dsimp only; omega, by omega, by simp only [go_sem, ↓reduceIte, Nat.reduceEqDiff, Nat.reduceAdd, Nat.reduceMul, Nat.reduceBEq, Option.getD_none, Int.reduceToNat, Nat.reduceSub, Nat.reduceLT, Nat.reduceLeDiff, Int.reduceLE, Int.reduceLT, reduceCtorEq], all_take hlt hr (by simp [e])⟩
  · have hi' : ¬ (k : Int) < l.length := by omega
    rw [List.take_of_length_le (by omega)] at hr
    have : l.any (· == n) = false := by
      rw [List.any_eq_false]; intro x hx; have := List.all_eq_true.1 hr x hx; simpa using this
    simp only [go_sem, ↓reduceIte, Nat.reduceEqDiff, Nat.reduceAdd, Nat.reduceMul, Nat.reduceBEq, Option.getD_none, Int.reduceToNat, Nat.reduceSub, Nat.reduceLT, Nat.reduceLeDiff, Int.reduceLE, Int.reduceLT, reduceCtorEq, h1, h7, h8, h9, hi', this]
end Go.Vm.Ytdebllkmblakkaa
/- Walks: sorted rows. -/
namespace Go.Vm.Ytdebllkmblakkaa
open Go Go.Vm
set_option maxRecDepth 10000
set_option maxHeartbeats 4000000
set_option linter.unusedSimpArgs false
set_option linter.unusedVariables false

abbrev rsI (l : List Int) : D := .rs 1 (l.map Ii)
/-- where x belongs -/
def putK (l : List Int) (x : Int) : Nat := l.findIdx (fun y => !decide (y < x))
def putI (l : List Int) (x : Int) : List Int := if l[putK l x]? = some x then l else l.take (putK l x) ++ x :: l.drop (putK l x)
theorem putK_at {l : List Int} {x : Int} {k : Nat} (hk : k < l.length) (h : (l.take k).all (fun y => decide (y < x)) = true) (h2 : ¬ l[k] < x) : putK l x = k := by
  unfold putK
  rw [List.findIdx_eq hk]
  refine ⟨by simp [h2], fun j hj => ?_⟩
  have := List.all_eq_true.1 h l[j] (by rw [List.mem_take_iff_getElem]; exact ⟨j, by omega, rfl⟩)
  simpa using this
theorem putK_end {l : List Int} {x : Int} (h : l.all (fun y => decide (y < x)) = true) : putK l x = l.length := by
  unfold putK
  rw [List.findIdx_eq_length]
  intro y hy
  have := List.all_eq_true.1 h y hy
  simpa using this
theorem allSc {l : List Int} : (l.map Ii).all isSc = true := by
  rw [List.all_eq_true]; intro d hd; obtain ⟨x, _, rfl⟩ := List.mem_map.1 hd; rfl
theorem putL_len {l : List Int} {k : Nat} (hk : k ≤ l.length) : (l.take k).length = k := by rw [List.length_take]; omega
theorem spec_l1Put.fc (l : List Int) (x : Int) (hl : l.length ≤ 4294967296) : FCt prog F_spec_l1Put [.ro, .ro] [ints l, Ii x] (rsI (putI l x)) [] := by
  refine fct_run spec_l1Put.ok rfl ?_
  simp only [go_sem, ↓reduceIte, Nat.reduceEqDiff, Nat.reduceAdd, Nat.reduceMul, Nat.reduceBEq, Option.getD_none, Int.reduceToNat, Nat.reduceSub, Nat.reduceLT, Nat.reduceLeDiff, Int.reduceLE, Int.reduceLT, reduceCtorEq]
  refine R_cut (fun e s' M' => e = .ex 0 ∧ s' 5 = aI (putK l x) ∧ putK l x ≤ l.length) ?_ ?_
  · refine R_loop (α := Nat) (fun k s' M' => k ≤ l.length ∧ s' 5 = aI k ∧ (l.take k).all (fun y => decide (y < x)) = true) (fun k => l.length - k) 0 ⟨by omega, by simp only [go_sem, ↓reduceIte, Nat.reduceEqDiff, Nat.reduceAdd, Nat.reduceMul, Nat.reduceBEq, Option.getD_none, Int.reduceToNat, Nat.reduceSub, Nat.reduceLT, Nat.reduceLeDiff, Int.reduceLE, Int.reduceLT, reduceCtorEq]; rfl, by simp⟩ ?_
    rintro k s' M' ⟨hk, h5, hr⟩ ho
    have h0 : s' 0 = .dat none (ints l) := by rw [ho 0 rfl]; simp only [go_sem, ↓reduceIte, Nat.reduceEqDiff, Nat.reduceAdd, Nat.reduceMul, Nat.reduceBEq, Option.getD_none, Int.reduceToNat, Nat.reduceSub, Nat.reduceLT, Nat.reduceLeDiff, Int.reduceLE, Int.reduceLT, reduceCtorEq]
    have h1 : s' 1 = aI x := by rw [ho 1 rfl]; simp only [go_sem, ↓reduceIte, Nat.reduceEqDiff, Nat.reduceAdd, Nat.reduceMul, Nat.reduceBEq, Option.getD_none, Int.reduceToNat, Nat.reduceSub, Nat.reduceLT, Nat.reduceLeDiff, Int.reduceLE, Int.reduceLT, reduceCtorEq]
    clear ho
    unfold spec_l1Put.b0
    by_cases hlt : k < l.length
    · have hi' : (k : Int) < l.length := by omega
      have ga : l[k]? = some l[k] := List.getElem?_eq_getElem hlt
      have hw : IntKind.i64.wrap (k + 1) = ((k + 1 : Nat) : Int) := wrap_k hlt (by omega)
      by_cases hc : l[k] < x
      · simp only [go_sem, ↓reduceIte, Nat.reduceEqDiff, Nat.reduceAdd, Nat.reduceMul, Nat.reduceBEq, Option.getD_none, Int.reduceToNat, Nat.reduceSub, Nat.reduceLT, Nat.reduceLeDiff, Int.reduceLE, Int.reduceLT, reduceCtorEq, hi', ga, hc, hw, h0, h1, h5]
        exact ⟨k + 1, by dsimp only; omega, by omega, by simp only [go_sem, ↓reduceIte, Nat.reduceEqDiff, Nat.reduceAdd, Nat.reduceMul, Nat.reduceBEq, Option.getD_none, Int.reduceToNat, Nat.reduceSub, Nat.reduceLT, Nat.reduceLeDiff, Int.reduceLE, Int.reduceLT, reduceCtorEq, h0, h1, h5], all_take hlt hr (by simpa using hc)⟩
      · have hp := putK_at hlt hr hc
        simp only [go_sem, ↓reduceIte, Nat.reduceEqDiff, Nat.reduceAdd, Nat.reduceMul, Nat.reduceBEq, Option.getD_none, Int.reduceToNat, Nat.reduceSub, Nat.reduceLT, Nat.reduceLeDiff, Int.reduceLE, Int.reduceLT, reduceCtorEq, hi', ga, hc, hp, h0, h1, h5]
        exact hk
    · have hi' : ¬ (k : Int) < l.length := by omega
      rw [List.take_of_length_le (by omega)] at hr
      have hp := putK_end hr
      obtain rfl : k = l.length := by omega
      simp only [go_sem, ↓reduceIte, Nat.reduceEqDiff, Nat.reduceAdd, Nat.reduceMul, Nat.reduceBEq, Option.getD_none, Int.reduceToNat, Nat.reduceSub, Nat.reduceLT, Nat.reduceLeDiff, Int.reduceLE, Int.reduceLT, reduceCtorEq, hi', hp, h0, h1, h5]
  · rintro e s' M' ⟨rfl, h5, hk⟩ ho
    have h0 : s' 0 = .dat none (ints l) := by rw [ho 0 rfl]; simp only [go_sem, ↓reduceIte, Nat.reduceEqDiff, Nat.reduceAdd, Nat.reduceMul, Nat.reduceBEq, Option.getD_none, Int.reduceToNat, Nat.reduceSub, Nat.reduceLT, Nat.reduceLeDiff, Int.reduceLE, Int.reduceLT, reduceCtorEq]
    have h1 : s' 1 = aI x := by rw [ho 1 rfl]; simp only [go_sem, ↓reduceIte, Nat.reduceEqDiff, Nat.reduceAdd, Nat.reduceMul, Nat.reduceBEq, Option.getD_none, Int.reduceToNat, Nat.reduceSub, Nat.reduceLT, Nat.reduceLeDiff, Int.reduceLE, Int.reduceLT, reduceCtorEq]
    have hle : (putK l x : Int) ≤ l.length := by omega
    have hlt2 := putL_len hk
    have hb1 : putK l x * 8 ≤ 70368744177664 := by omega
    have hb2 : (putK l x + 1) * 8 ≤ 70368744177664 := by omega
    have hb3 : (putK l x + 1 + (l.length - putK l x)) * 8 ≤ 70368744177664 := by omega
    have ht1 : (l.take (putK l x)).take (putK l x) = l.take (putK l x) := by rw [List.take_take, Nat.min_self]
    have hl1 : ((l.take (putK l x)).map Ii ++ [D.int IntKind.i64 x]).length = putK l x + 1 := by rw [List.length_append, List.length_map, hlt2]; rfl
    have ht2 : ((l.take (putK l x)).map Ii ++ [D.int IntKind.i64 x]).take (putK l x + 1) = (l.take (putK l x)).map Ii ++ [D.int IntKind.i64 x] := List.take_of_length_le (by omega)
    have hl2 : ((l.take (putK l x)).map Ii ++ [D.int IntKind.i64 x] ++ (l.drop (putK l x)).map Ii).length = putK l x + 1 + (l.length - putK l x) := by rw [List.length_append, hl1, List.length_map, List.length_drop]
    have ht3 : ((l.take (putK l x)).map Ii ++ [D.int IntKind.i64 x] ++ (l.drop (putK l x)).map Ii).take (putK l x + 1 + (l.length - putK l x)) = (l.take (putK l x)).map Ii ++ [D.int IntKind.i64 x] ++ (l.drop (putK l x)).map Ii := List.take_of_length_le (by omega)
    by_cases hlt : putK l x < l.length
    · have hi' : (putK l x : Int) < l.length := by omega
      have ga : l[putK l x]? = some l[putK l x] := List.getElem?_eq_getElem hlt
      simp only [go_sem, ↓reduceIte, Nat.reduceEqDiff, Nat.reduceAdd, Nat.reduceMul, Nat.reduceBEq, Option.getD_none, Int.reduceToNat, Nat.reduceSub, Nat.reduceLT, Nat.reduceLeDiff, Int.reduceLE, Int.reduceLT, reduceCtorEq, hi', ga, h0, h1, h5, hle, hlt2, hb1, hb2, hb3, ht1, hl1, ht2, hl2, ht3]
      cases hc : (l[putK l x] == x) with
      | true =>
        have e : putI l x = l := by unfold putI; rw [ga, if_pos (by simpa using hc)]
        simp only [go_sem, ↓reduceIte, Nat.reduceEqDiff, Nat.reduceAdd, Nat.reduceMul, Nat.reduceBEq, Option.getD_none, Int.reduceToNat, Nat.reduceSub, Nat.reduceLT, Nat.reduceLeDiff, Int.reduceLE, Int.reduceLT, reduceCtorEq, e, h0, h1, h5, hle, hlt2, hb1, hb2, hb3, ht1, hl1, ht2, hl2, ht3]
      | false =>
        have e : putI l x = l.take (putK l x) ++ x :: l.drop (putK l x) := by unfold putI; rw [ga, if_neg (by simpa using hc)]
        simp only [go_sem, ↓reduceIte, Nat.reduceEqDiff, Nat.reduceAdd, Nat.reduceMul, Nat.reduceBEq, Option.getD_none, Int.reduceToNat, Nat.reduceSub, Nat.reduceLT, Nat.reduceLeDiff, Int.reduceLE, Int.reduceLT, reduceCtorEq, ← List.map_take, ← List.map_drop, allSc, Nat.zero_le, List.take_length, List.length_drop, Int.le_refl, h0, h1, h5, hle, hlt2, hb1, hb2, hb3, ht1, hl1, ht2, hl2, ht3]
        rw [e]
        simp
    · have hi' : ¬ (putK l x : Int) < l.length := by omega
      have e : putI l x = l.take (putK l x) ++ x :: l.drop (putK l x) := by
        unfold putI
        rw [List.getElem?_eq_none (by omega), if_neg (by simp)]
      simp only [go_sem, ↓reduceIte, Nat.reduceEqDiff, Nat.reduceAdd, Nat.reduceMul, Nat.reduceBEq, Option.getD_none, Int.reduceToNat, Nat.reduceSub, Nat.reduceLT, Nat.reduceLeDiff, Int.reduceLE, Int.reduceLT, reduceCtorEq, hi', ← List.map_take, ← List.map_drop, allSc, Nat.zero_le, List.take_length, List.length_drop, Int.le_refl, h0, h1, h5, hle, hlt2, hb1, hb2, hb3, ht1, hl1, ht2, hl2, ht3]
      rw [e]
      simp
end Go.Vm.Ytdebllkmblakkaa
/- Walks: what is reached. -/
namespace Go.Vm.Ytdebllkmblakkaa
open Go Go.Vm
set_option maxRecDepth 10000
set_option maxHeartbeats 4000000
set_option linter.unusedSimpArgs false
set_option linter.unusedVariables false

def stepI (l : List (Int × Int)) (out : List Int) : List Int := l.foldl (fun nx a => if out.any (· == a.1) then putI nx a.2 else nx) out
def reachI (l : List (Int × Int)) : Nat → List Int → List Int
  | 0, out => out
  | n + 1, out => reachI l n (stepI l out)
theorem putI_len (l : List Int) (x : Int) : (putI l x).length ≤ l.length + 1 := by
  unfold putI
  split
  · omega
  · simp; omega
theorem spec_l12Reach.fc (l : List (Int × Int)) (from' : Int) (most : Nat) (hl : l.length ≤ 65536) (hm : most ≤ 32768) :
    FCt prog F_spec_l12Reach [.ro, .ro, .ro] [arcs l, Ii from', Ii most] (rsI (reachI l most [from'])) [] := by
  refine fct_run spec_l12Reach.ok rfl ?_
  simp only [go_sem, ↓reduceIte, Nat.reduceEqDiff, Nat.reduceAdd, Nat.reduceMul, Nat.reduceBEq, Option.getD_none, Int.reduceToNat, Nat.reduceSub, Nat.reduceLT, Nat.reduceLeDiff, Int.reduceLE, Int.reduceLT, reduceCtorEq]
  refine R_loop (α := Nat × List Int) (fun a s' M' => a.1 ≤ most ∧ s' 2 = aI a.1 ∧ s' 7 = .dat none (ints a.2) ∧ a.2.length ≤ 1 + (most - a.1) * l.length ∧ reachI l a.1 a.2 = reachI l most [from']) (fun a => a.1) (most, [from'])
    ⟨by dsimp only; omega, by simp only [go_sem, ↓reduceIte, Nat.reduceEqDiff, Nat.reduceAdd, Nat.reduceMul, Nat.reduceBEq, Option.getD_none, Int.reduceToNat, Nat.reduceSub, Nat.reduceLT, Nat.reduceLeDiff, Int.reduceLE, Int.reduceLT, reduceCtorEq], by simp only [go_sem, ↓reduceIte, Nat.reduceEqDiff, Nat.reduceAdd, Nat.reduceMul, Nat.reduceBEq, Option.getD_none, Int.reduceToNat, Nat.reduceSub, Nat.reduceLT, Nat.reduceLeDiff, Int.reduceLE, Int.reduceLT, reduceCtorEq]; rfl, by simp, rfl⟩ ?_
  rintro ⟨j, out⟩ s' M' ⟨hj, h2, h7, hlen, hre⟩ ho
  have h0 : s' 0 = .dat none (arcs l) := by rw [ho 0 rfl]; simp only [go_sem, ↓reduceIte, Nat.reduceEqDiff, Nat.reduceAdd, Nat.reduceMul, Nat.reduceBEq, Option.getD_none, Int.reduceToNat, Nat.reduceSub, Nat.reduceLT, Nat.reduceLeDiff, Int.reduceLE, Int.reduceLT, reduceCtorEq]
  clear ho
  dsimp only at hj h2 h7 hlen hre
  unfold spec_l12Reach.b1
  cases j with
  | zero =>
    have hz : ¬ ((0 : Nat) : Int) > 0 := by omega
    simp only [go_sem, ↓reduceIte, Nat.reduceEqDiff, Nat.reduceAdd, Nat.reduceMul, Nat.reduceBEq, Option.getD_none, Int.reduceToNat, Nat.reduceSub, Nat.reduceLT, Nat.reduceLeDiff, Int.reduceLE, Int.reduceLT, reduceCtorEq, hz, h0, h2, h7]
    simp only [reachI] at hre
    rw [hre]
  | succ j =>
    have hz : ((j + 1 : Nat) : Int) > 0 := by omega
    simp only [go_sem, ↓reduceIte, Nat.reduceEqDiff, Nat.reduceAdd, Nat.reduceMul, Nat.reduceBEq, Option.getD_none, Int.reduceToNat, Nat.reduceSub, Nat.reduceLT, Nat.reduceLeDiff, Int.reduceLE, Int.reduceLT, reduceCtorEq, hz, h0, h2, h7]
    have hsz : out.length + l.length ≤ 4294967296 := by
      have : (most - (j + 1)) * l.length ≤ 32768 * 65536 := Nat.mul_le_mul (by omega) hl
      omega
    refine R_cut (fun e s' M' => e = .ex 2 ∧ s' 8 = .dat none (ints (stepI l out)) ∧ (stepI l out).length ≤ out.length + l.length) ?_ ?_
    · refine R_loop (α := Nat × List Int) (fun a s' M' => a.1 ≤ l.length ∧ s' 20 = aI a.1 ∧ s' 8 = .dat none (ints a.2) ∧ a.2 = (l.take a.1).foldl (fun nx a => if out.any (· == a.1) then putI nx a.2 else nx) out ∧ a.2.length ≤ out.length + a.1) (fun a => l.length - a.1) (0, out)
        ⟨by simp, by simp only [go_sem, ↓reduceIte, Nat.reduceEqDiff, Nat.reduceAdd, Nat.reduceMul, Nat.reduceBEq, Option.getD_none, Int.reduceToNat, Nat.reduceSub, Nat.reduceLT, Nat.reduceLeDiff, Int.reduceLE, Int.reduceLT, reduceCtorEq, h0, h2, h7]; rfl, by simp only [go_sem, ↓reduceIte, Nat.reduceEqDiff, Nat.reduceAdd, Nat.reduceMul, Nat.reduceBEq, Option.getD_none, Int.reduceToNat, Nat.reduceSub, Nat.reduceLT, Nat.reduceLeDiff, Int.reduceLE, Int.reduceLT, reduceCtorEq, h0, h2, h7], by simp, by simp⟩ ?_
      rintro ⟨k, nx⟩ s2 M2 ⟨hk, h20, h8, hnx, hnl⟩ ho
      have g7 : s2 7 = .dat none (ints out) := by rw [ho 7 rfl]; simp only [go_sem, ↓reduceIte, Nat.reduceEqDiff, Nat.reduceAdd, Nat.reduceMul, Nat.reduceBEq, Option.getD_none, Int.reduceToNat, Nat.reduceSub, Nat.reduceLT, Nat.reduceLeDiff, Int.reduceLE, Int.reduceLT, reduceCtorEq, h0, h2, h7]
      have g18 : s2 18 = .dat none (arcs l) := by rw [ho 18 rfl]; simp only [go_sem, ↓reduceIte, Nat.reduceEqDiff, Nat.reduceAdd, Nat.reduceMul, Nat.reduceBEq, Option.getD_none, Int.reduceToNat, Nat.reduceSub, Nat.reduceLT, Nat.reduceLeDiff, Int.reduceLE, Int.reduceLT, reduceCtorEq, h0, h2, h7]
      have g19 : s2 19 = aI l.length := by rw [ho 19 rfl]; simp only [go_sem, ↓reduceIte, Nat.reduceEqDiff, Nat.reduceAdd, Nat.reduceMul, Nat.reduceBEq, Option.getD_none, Int.reduceToNat, Nat.reduceSub, Nat.reduceLT, Nat.reduceLeDiff, Int.reduceLE, Int.reduceLT, reduceCtorEq, h0, h2, h7]
      clear ho
      dsimp only at hk h20 h8 hnx hnl
      unfold spec_l12Reach.b0
      by_cases hlt : k < l.length
      · have hi' : (k : Int) < l.length := by omega
        have ga : l[k]? = some l[k] := List.getElem?_eq_getElem hlt
        have hw : IntKind.i64.wrap (k + 1) = ((k + 1 : Nat) : Int) := wrap_k hlt (by omega)
        simp only [go_sem, ↓reduceIte, Nat.reduceEqDiff, Nat.reduceAdd, Nat.reduceMul, Nat.reduceBEq, Option.getD_none, Int.reduceToNat, Nat.reduceSub, Nat.reduceLT, Nat.reduceLeDiff, Int.reduceLE, Int.reduceLT, reduceCtorEq, hi', ga, h0, h2, h7, g7, g18, g19, h20, h8]
        refine fcW_bool (spec_l1Has.fc out _ (by omega)) ?_
        cases hc : out.any (· == l[k].1) with
        | true =>
          simp only [go_sem, ↓reduceIte, Nat.reduceEqDiff, Nat.reduceAdd, Nat.reduceMul, Nat.reduceBEq, Option.getD_none, Int.reduceToNat, Nat.reduceSub, Nat.reduceLT, Nat.reduceLeDiff, Int.reduceLE, Int.reduceLT, reduceCtorEq, h0, h2, h7, g7, g18, g19, h20, h8]
          refine fcW_bdc (spec_l1Put.fc nx _ (by omega)) ?_
          simp only [go_sem, ↓reduceIte, Nat.reduceEqDiff, Nat.reduceAdd, Nat.reduceMul, Nat.reduceBEq, Option.getD_none, Int.reduceToNat, Nat.reduceSub, Nat.reduceLT, Nat.reduceLeDiff, Int.reduceLE, Int.reduceLT, reduceCtorEq, hw, h0, h2, h7, g7, g18, g19, h20, h8]
          refine ⟨(k + 1, putI nx l[k].2), by dsimp only; omega, by dsimp only; omega, by simp only [go_sem, ↓reduceIte, Nat.reduceEqDiff, Nat.reduceAdd, Nat.reduceMul, Nat.reduceBEq, Option.getD_none, Int.reduceToNat, Nat.reduceSub, Nat.reduceLT, Nat.reduceLeDiff, Int.reduceLE, Int.reduceLT, reduceCtorEq, h0, h2, h7, g7, g18, g19, h20, h8], by simp only [go_sem, ↓reduceIte, Nat.reduceEqDiff, Nat.reduceAdd, Nat.reduceMul, Nat.reduceBEq, Option.getD_none, Int.reduceToNat, Nat.reduceSub, Nat.reduceLT, Nat.reduceLeDiff, Int.reduceLE, Int.reduceLT, reduceCtorEq, h0, h2, h7, g7, g18, g19, h20, h8], ?_, ?_⟩
          · dsimp only; rw [take_succ' hlt, List.foldl_append, ← hnx]; simp only [List.foldl_cons, List.foldl_nil, hc]; rfl
          · dsimp only; have := putI_len nx l[k].2; omega
        | false =>
          simp only [go_sem, ↓reduceIte, Nat.reduceEqDiff, Nat.reduceAdd, Nat.reduceMul, Nat.reduceBEq, Option.getD_none, Int.reduceToNat, Nat.reduceSub, Nat.reduceLT, Nat.reduceLeDiff, Int.reduceLE, Int.reduceLT, reduceCtorEq, hw, h0, h2, h7, g7, g18, g19, h20, h8]
          refine ⟨(k + 1, nx), by dsimp only; omega, by dsimp only; omega, by simp only [go_sem, ↓reduceIte, Nat.reduceEqDiff, Nat.reduceAdd, Nat.reduceMul, Nat.reduceBEq, Option.getD_none, Int.reduceToNat, Nat.reduceSub, Nat.reduceLT, Nat.reduceLeDiff, Int.reduceLE, Int.reduceLT, reduceCtorEq, h0, h2, h7, g7, g18, g19, h20, h8], by simp only [go_sem, ↓reduceIte, Nat.reduceEqDiff, Nat.reduceAdd, Nat.reduceMul, Nat.reduceBEq, Option.getD_none, Int.reduceToNat, Nat.reduceSub, Nat.reduceLT, Nat.reduceLeDiff, Int.reduceLE, Int.reduceLT, reduceCtorEq, h0, h2, h7, g7, g18, g19, h20, h8], ?_, by dsimp only; omega⟩
          dsimp only; rw [take_succ' hlt, List.foldl_append, ← hnx]; simp only [List.foldl_cons, List.foldl_nil, hc]; rfl
      · have hi' : ¬ (k : Int) < l.length := by omega
        obtain rfl : k = l.length := by omega
        rw [List.take_length] at hnx
        simp only [go_sem, ↓reduceIte, Nat.reduceEqDiff, Nat.reduceAdd, Nat.reduceMul, Nat.reduceBEq, Option.getD_none, Int.reduceToNat, Nat.reduceSub, Nat.reduceLT, Nat.reduceLeDiff, Int.reduceLE, Int.reduceLT, reduceCtorEq, hi', h0, h2, h7, g7, g18, g19, h20, h8]
        subst hnx
        exact ⟨rfl, hnl⟩
    · rintro e s2 M2 ⟨rfl, h8, hsl⟩ ho
      have g2 : s2 2 = aI (j + 1 : Nat) := by rw [ho 2 rfl]; simp only [go_sem, ↓reduceIte, Nat.reduceEqDiff, Nat.reduceAdd, Nat.reduceMul, Nat.reduceBEq, Option.getD_none, Int.reduceToNat, Nat.reduceSub, Nat.reduceLT, Nat.reduceLeDiff, Int.reduceLE, Int.reduceLT, reduceCtorEq, h0, h2, h7]
      have hw : IntKind.i64.wrap (((j + 1 : Nat) : Int) - 1) = (j : Int) := by rw [wrap_in (by omega) (by omega)]; omega
      simp only [go_sem, ↓reduceIte, Nat.reduceEqDiff, Nat.reduceAdd, Nat.reduceMul, Nat.reduceBEq, Option.getD_none, Int.reduceToNat, Nat.reduceSub, Nat.reduceLT, Nat.reduceLeDiff, Int.reduceLE, Int.reduceLT, reduceCtorEq, h8, g2, hw, h0, h2, h7]
      refine ⟨(j, stepI l out), by dsimp only; omega, by dsimp only; omega, by simp only [go_sem, ↓reduceIte, Nat.reduceEqDiff, Nat.reduceAdd, Nat.reduceMul, Nat.reduceBEq, Option.getD_none, Int.reduceToNat, Nat.reduceSub, Nat.reduceLT, Nat.reduceLeDiff, Int.reduceLE, Int.reduceLT, reduceCtorEq, h0, h2, h7], by simp only [go_sem, ↓reduceIte, Nat.reduceEqDiff, Nat.reduceAdd, Nat.reduceMul, Nat.reduceBEq, Option.getD_none, Int.reduceToNat, Nat.reduceSub, Nat.reduceLT, Nat.reduceLeDiff, Int.reduceLE, Int.reduceLT, reduceCtorEq, h0, h2, h7], ?_, by dsimp only; rw [← hre]; rfl⟩
      dsimp only
      have e1 : most - j = (most - (j + 1)) + 1 := by omega
      rw [e1, Nat.add_mul]
      omega
end Go.Vm.Ytdebllkmblakkaa
/- Walks: facts and rules that hold. -/
namespace Go.Vm.Ytdebllkmblakkaa
open Go Go.Vm
set_option maxRecDepth 10000
set_option maxHeartbeats 4000000
set_option linter.unusedSimpArgs false
set_option linter.unusedVariables false

abbrev bools (l : List Bool) : D := .sl 1 (l.map Bb)
def hasI (so : List Int) (x : Int) : Bool := so.any (· == x)
end Go.Vm.Ytdebllkmblakkaa
/- Walks: lists of the places where a condition holds. -/
namespace Go.Vm.Ytdebllkmblakkaa
open Go Go.Vm
set_option maxRecDepth 10000
set_option maxHeartbeats 4000000
set_option linter.unusedSimpArgs false
set_option linter.unusedVariables false

/-- the numbers below n for which p holds -/
def listI (n : Nat) (p : Nat → Bool) : List Int := ((List.range n).filter p).map fun (i : Nat) => (i : Int)
theorem listI_step {n : Nat} {p : Nat → Bool} : listI (n + 1) p = listI n p ++ (if p n then [(n : Int)] else []) := by
  simp only [listI, List.range_succ, List.filter_append, List.map_append]
  cases h : p n <;> simp [h]
theorem listI_len (n : Nat) (p : Nat → Bool) : (listI n p).length ≤ n := by
  simp only [listI, List.length_map]
  exact Nat.le_trans (List.length_filter_le _ _) (by simp)
theorem impl_list.fc (n : Nat) (f : FuncId) (caps : List D) (p : Nat → Bool) (hn : n ≤ 4294967296)
    (h : ∀ i, i < n → FCt prog f (.ro :: caps.map fun _ => .ro) (Ii i :: caps) (Bb (p i)) []) : FCt prog F_impl_list [.ro, .ro] [Ii n, .clo f caps] (ints (listI n p)) [] := by
  refine fct_run impl_list.ok rfl ?_
  simp only [go_sem, ↓reduceIte, Nat.reduceEqDiff, Nat.reduceAdd, Nat.reduceMul, Nat.reduceBEq, Option.getD_none, Int.reduceToNat, Nat.reduceSub, Nat.reduceLT, Nat.reduceLeDiff, Int.reduceLE, Int.reduceLT, reduceCtorEq]
  refine R_loop (α := Nat) (fun k s' M' => k ≤ n ∧ s' 8 = aI k ∧ ∃ v, s' 5 = .sl 896 v 0 (listI k p).length 1 ∧ M'.m 896 = some (.arr v true 1 ((listI k p).map Ii))) (fun k => n - k) 0
    ⟨by omega, by simp only [go_sem, ↓reduceIte, Nat.reduceEqDiff, Nat.reduceAdd, Nat.reduceMul, Nat.reduceBEq, Option.getD_none, Int.reduceToNat, Nat.reduceSub, Nat.reduceLT, Nat.reduceLeDiff, Int.reduceLE, Int.reduceLT, reduceCtorEq]; rfl, _, by simp only [go_sem, ↓reduceIte, Nat.reduceEqDiff, Nat.reduceAdd, Nat.reduceMul, Nat.reduceBEq, Option.getD_none, Int.reduceToNat, Nat.reduceSub, Nat.reduceLT, Nat.reduceLeDiff, Int.reduceLE, Int.reduceLT, reduceCtorEq]; rfl, by simp only [go_sem, ↓reduceIte, Nat.reduceEqDiff, Nat.reduceAdd, Nat.reduceMul, Nat.reduceBEq, Option.getD_none, Int.reduceToNat, Nat.reduceSub, Nat.reduceLT, Nat.reduceLeDiff, Int.reduceLE, Int.reduceLT, reduceCtorEq]; rfl⟩ ?_
  rintro k s' M' ⟨hk, h8, v, h5, hm⟩ ho
  have h1 : s' 1 = .clo f (caps.map bindC) := by rw [ho 1 rfl]; simp only [go_sem, ↓reduceIte, Nat.reduceEqDiff, Nat.reduceAdd, Nat.reduceMul, Nat.reduceBEq, Option.getD_none, Int.reduceToNat, Nat.reduceSub, Nat.reduceLT, Nat.reduceLeDiff, Int.reduceLE, Int.reduceLT, reduceCtorEq]
  have h7 : s' 7 = aI n := by rw [ho 7 rfl]; simp only [go_sem, ↓reduceIte, Nat.reduceEqDiff, Nat.reduceAdd, Nat.reduceMul, Nat.reduceBEq, Option.getD_none, Int.reduceToNat, Nat.reduceSub, Nat.reduceLT, Nat.reduceLeDiff, Int.reduceLE, Int.reduceLT, reduceCtorEq]
  clear ho
  unfold impl_list.b0
  by_cases hlt : k < n
  · have hi' : (k : Int) < n := by omega
    have hw : IntKind.i64.wrap (k + 1) = ((k + 1 : Nat) : Int) := wrap_k hlt (by omega)
    simp only [go_sem, ↓reduceIte, Nat.reduceEqDiff, Nat.reduceAdd, Nat.reduceMul, Nat.reduceBEq, Option.getD_none, Int.reduceToNat, Nat.reduceSub, Nat.reduceLT, Nat.reduceLeDiff, Int.reduceLE, Int.reduceLT, reduceCtorEq, hi', h1, h7, h8, h5, hm]
    refine ccl_ro (ds := [Ii k]) (by simp only [go_sem, ↓reduceIte, Nat.reduceEqDiff, Nat.reduceAdd, Nat.reduceMul, Nat.reduceBEq, Option.getD_none, Int.reduceToNat, Nat.reduceSub, Nat.reduceLT, Nat.reduceLeDiff, Int.reduceLE, Int.reduceLT, reduceCtorEq, h1, h7, h8, h5, hm]) ?_
    refine fcW_bool (h k hlt) ?_
    have hll := listI_len k p
    cases hp : p k with
    | false =>
      simp only [go_sem, ↓reduceIte, Nat.reduceEqDiff, Nat.reduceAdd, Nat.reduceMul, Nat.reduceBEq, Option.getD_none, Int.reduceToNat, Nat.reduceSub, Nat.reduceLT, Nat.reduceLeDiff, Int.reduceLE, Int.reduceLT, reduceCtorEq, hw, h1, h7, h8, h5, hm]
      refine ⟨k + 1, by dsimp only; omega, by omega, by simp only [go_sem, ↓reduceIte, Nat.reduceEqDiff, Nat.reduceAdd, Nat.reduceMul, Nat.reduceBEq, Option.getD_none, Int.reduceToNat, Nat.reduceSub, Nat.reduceLT, Nat.reduceLeDiff, Int.reduceLE, Int.reduceLT, reduceCtorEq, h1, h7, h8, h5, hm], v, by simp only [go_sem, ↓reduceIte, Nat.reduceEqDiff, Nat.reduceAdd, Nat.reduceMul, Nat.reduceBEq, Option.getD_none, Int.reduceToNat, Nat.reduceSub, Nat.reduceLT, Nat.reduceLeDiff, Int.reduceLE, Int.reduceLT, reduceCtorEq, h1, h7, h8, h5, hm]; rw [listI_step, hp]; simp, by simp only [go_sem, ↓reduceIte, Nat.reduceEqDiff, Nat.reduceAdd, Nat.reduceMul, Nat.reduceBEq, Option.getD_none, Int.reduceToNat, Nat.reduceSub, Nat.reduceLT, Nat.reduceLeDiff, Int.reduceLE, Int.reduceLT, reduceCtorEq, h1, h7, h8, h5, hm]; rw [listI_step, hp]; simp⟩
    | true =>
      have hb : ((listI k p).length + 1) * 8 ≤ 70368744177664 := by omega
      simp only [go_sem, ↓reduceIte, Nat.reduceEqDiff, Nat.reduceAdd, Nat.reduceMul, Nat.reduceBEq, Option.getD_none, Int.reduceToNat, Nat.reduceSub, Nat.reduceLT, Nat.reduceLeDiff, Int.reduceLE, Int.reduceLT, reduceCtorEq, hw, hb, take_map_len, h1, h7, h8, h5, hm]
      refine ⟨k + 1, by dsimp only; omega, by omega, by simp only [go_sem, ↓reduceIte, Nat.reduceEqDiff, Nat.reduceAdd, Nat.reduceMul, Nat.reduceBEq, Option.getD_none, Int.reduceToNat, Nat.reduceSub, Nat.reduceLT, Nat.reduceLeDiff, Int.reduceLE, Int.reduceLT, reduceCtorEq, h1, h7, h8, h5, hm], _, by simp only [go_sem, ↓reduceIte, Nat.reduceEqDiff, Nat.reduceAdd, Nat.reduceMul, Nat.reduceBEq, Option.getD_none, Int.reduceToNat, Nat.reduceSub, Nat.reduceLT, Nat.reduceLeDiff, Int.reduceLE, Int.reduceLT, reduceCtorEq, h1, h7, h8, h5, hm]; rw [listI_step, hp]; simp; rfl, by simp only [go_sem, ↓reduceIte, Nat.reduceEqDiff, Nat.reduceAdd, Nat.reduceMul, Nat.reduceBEq, Option.getD_none, Int.reduceToNat, Nat.reduceSub, Nat.reduceLT, Nat.reduceLeDiff, Int.reduceLE, Int.reduceLT, reduceCtorEq, h1, h7, h8, h5, hm]; rw [listI_step, hp]; simp⟩
  · have hi' : ¬ (k : Int) < n := by omega
    obtain rfl : k = n := by omega
    simp only [go_sem, ↓reduceIte, Nat.reduceEqDiff, Nat.reduceAdd, Nat.reduceMul, Nat.reduceBEq, Option.getD_none, Int.reduceToNat, Nat.reduceSub, Nat.reduceLT, Nat.reduceLeDiff, Int.reduceLE, Int.reduceLT, reduceCtorEq, hi', take_map_len, h1, h7, h8, h5, hm]
theorem noRs_bools {l : List Bool} : noRs (bools l) = true := noRs_sl (by
  intro d hd; obtain ⟨x, _, rfl⟩ := List.mem_map.1 hd; rfl)
theorem allScB {l : List Bool} : (l.map Bb).all isSc = true := by
  rw [List.all_eq_true]; intro d hd; obtain ⟨x, _, rfl⟩ := List.mem_map.1 hd; rfl
theorem slices_Clone__sbool_bool.fc (b : Bool) (l : List Bool) (hl : l.length ≤ 4294967296) : FCt prog F_slices_Clone__sbool_bool [.ro] [bools (b :: l)] (bools (b :: l)) [] := by
  refine fct_run slices_Clone__sbool_bool.ok rfl ?_
  have hb : (l.length + 1) * 1 ≤ 70368744177664 := by omega
  have htk : (l.map Bb).take l.length = l.map Bb := List.take_of_length_le (by simp)
  simp only [go_sem, ↓reduceIte, Nat.reduceEqDiff, Nat.reduceAdd, Nat.reduceMul, Nat.reduceBEq, Option.getD_none, Int.reduceToNat, Nat.reduceSub, Nat.reduceLT, Nat.reduceLeDiff, Int.reduceLE, Int.reduceLT, reduceCtorEq, allScB, hb, Nat.zero_le, htk]
  rfl
/-- one round over the arcs: 'now' is what was reached before -/
def roundB (l : List (Int × Int)) (now out : List Bool) : List Bool := l.foldl (fun o a => if now.getD a.1.toNat false then o.set a.2.toNat true else o) out
def withinB (l : List (Int × Int)) : Nat → List Bool → List Bool
  | 0, out => out
  | n + 1, out => withinB l n (roundB l out out)
theorem roundB_len {l : List (Int × Int)} {now : List Bool} : ∀ {out : List Bool}, (roundB l now out).length = out.length := by
  induction l with
  | nil => intro out; rfl
  | cons a l ih =>
    intro out
    simp only [roundB, List.foldl_cons]
    have := ih (out := if now.getD a.1.toNat false then out.set a.2.toNat true else out)
    simp only [roundB] at this
    rw [this]
    split <;> simp
end Go.Vm.Ytdebllkmblakkaa
/- Walks: what is reached, by rows of marks. -/
namespace Go.Vm.Ytdebllkmblakkaa
open Go Go.Vm
set_option maxRecDepth 10000
set_option maxHeartbeats 4000000
set_option linter.unusedSimpArgs false
set_option linter.unusedVariables false

theorem slices_Clone__sbool_bool.fc1 (l : List Bool) (h : 0 < l.length) (hl : l.length ≤ 4294967296) : FCt prog F_slices_Clone__sbool_bool [.ro] [bools l] (bools l) [] := by
  cases l with
  | nil => simp at h
  | cons b l => exact slices_Clone__sbool_bool.fc b l (by simpa using Nat.le_of_succ_le hl)
theorem map_setB {l : List Bool} {i : Nat} : (l.map Bb).set i (.bool true) = (l.set i true).map Bb := by rw [List.map_set]
theorem impl_within.fc (n : Nat) (l : List (Int × Int)) (from' : Int) (most : Nat) (hn : n ≤ 65536) (hl : l.length ≤ 65536) (hm : most ≤ 32768) (hf : 0 ≤ from' ∧ from' < n) (ha : ∀ a ∈ l, (0 ≤ a.1 ∧ a.1 < n) ∧ 0 ≤ a.2 ∧ a.2 < n) :
    FCt prog F_impl_within [.ro, .ro, .ro, .ro] [Ii n, arcs l, Ii from', Ii most] (bools (withinB l most ((List.replicate n false).set from'.toNat true))) [] := by
  refine fct_run impl_within.ok rfl ?_
  have hb : (n : Int) * (1 : Nat) ≤ 70368744177664 := by omega
  have hrep : List.replicate n (D.bool false) = (List.replicate n false).map Bb := by simp
  have hg : ((List.replicate n false).map Bb)[from'.toNat]? = some (Bb false) := by
    have h1 : from'.toNat < n := by omega
    simp [h1]
  simp only [go_sem, ↓reduceIte, Nat.reduceEqDiff, Nat.reduceAdd, Nat.reduceMul, Nat.reduceBEq, Option.getD_none, Int.reduceToNat, Nat.reduceSub, Nat.reduceLT, Nat.reduceLeDiff, Int.reduceLE, Int.reduceLT, reduceCtorEq, Int.le_refl, hb, hrep, hf.1, hf.2, hg, map_setB]
  generalize hst : (List.replicate n false).set from'.toNat true = start
  have hsl : start.length = n := by rw [← hst]; simp
  refine R_loop (α := Nat × List Bool) (fun a s' M' => a.1 ≤ most ∧ s' 19 = aI a.1 ∧ a.2.length = n ∧ (∃ v, s' 9 = .sl 192 v 0 n 1 ∧ M'.m 192 = some (.arr v true 1 (a.2.map Bb))) ∧ withinB l (most - a.1) a.2 = withinB l most start) (fun a => most - a.1) (0, start)
    ⟨by dsimp only; omega, by simp only [go_sem, ↓reduceIte, Nat.reduceEqDiff, Nat.reduceAdd, Nat.reduceMul, Nat.reduceBEq, Option.getD_none, Int.reduceToNat, Nat.reduceSub, Nat.reduceLT, Nat.reduceLeDiff, Int.reduceLE, Int.reduceLT, reduceCtorEq]; rfl, hsl, ⟨_, by simp only [go_sem, ↓reduceIte, Nat.reduceEqDiff, Nat.reduceAdd, Nat.reduceMul, Nat.reduceBEq, Option.getD_none, Int.reduceToNat, Nat.reduceSub, Nat.reduceLT, Nat.reduceLeDiff, Int.reduceLE, Int.reduceLT, reduceCtorEq]; rfl, by simp only [go_sem, ↓reduceIte, Nat.reduceEqDiff, Nat.reduceAdd, Nat.reduceMul, Nat.reduceBEq, Option.getD_none, Int.reduceToNat, Nat.reduceSub, Nat.reduceLT, Nat.reduceLeDiff, Int.reduceLE, Int.reduceLT, reduceCtorEq, hst]⟩, rfl⟩ ?_
  rintro ⟨k, cur⟩ s' M' ⟨hk, h19, hcl, ⟨v, h9, hmr⟩, hre⟩ ho
  have h1 : s' 1 = .dat none (arcs l) := by rw [ho 1 rfl]; simp only [go_sem, ↓reduceIte, Nat.reduceEqDiff, Nat.reduceAdd, Nat.reduceMul, Nat.reduceBEq, Option.getD_none, Int.reduceToNat, Nat.reduceSub, Nat.reduceLT, Nat.reduceLeDiff, Int.reduceLE, Int.reduceLT, reduceCtorEq]
  have h18 : s' 18 = aI most := by rw [ho 18 rfl]; simp only [go_sem, ↓reduceIte, Nat.reduceEqDiff, Nat.reduceAdd, Nat.reduceMul, Nat.reduceBEq, Option.getD_none, Int.reduceToNat, Nat.reduceSub, Nat.reduceLT, Nat.reduceLeDiff, Int.reduceLE, Int.reduceLT, reduceCtorEq]
  clear ho
  dsimp only at hk h19 hcl hmr hre
  unfold impl_within.b1
  by_cases hlt : k < most
  · have hi' : (k : Int) < most := by omega
    have hw : IntKind.i64.wrap (k + 1) = ((k + 1 : Nat) : Int) := wrap_k hlt (by omega)
    have hcm : (cur.map Bb).length = n := by simpa using hcl
    have htk : (cur.map Bb).take n = cur.map Bb := List.take_of_length_le (by omega)
    simp only [go_sem, ↓reduceIte, Nat.reduceEqDiff, Nat.reduceAdd, Nat.reduceMul, Nat.reduceBEq, Option.getD_none, Int.reduceToNat, Nat.reduceSub, Nat.reduceLT, Nat.reduceLeDiff, Int.reduceLE, Int.reduceLT, reduceCtorEq, hi', hcm, hcl, htk, Nat.zero_le, Nat.le_refl, h1, h18, h19, h9, hmr]
    refine fcW_bd (slices_Clone__sbool_bool.fc1 cur (by omega) (by omega)) noRs_bools ?_
    simp only [go_sem, ↓reduceIte, Nat.reduceEqDiff, Nat.reduceAdd, Nat.reduceMul, Nat.reduceBEq, Option.getD_none, Int.reduceToNat, Nat.reduceSub, Nat.reduceLT, Nat.reduceLeDiff, Int.reduceLE, Int.reduceLT, reduceCtorEq, h1, h18, h19, h9, hmr]
    refine R_cut (fun e s' M' => e = .ex 2 ∧ ∃ v, s' 9 = .sl 192 v 0 n 1 ∧ M'.m 192 = some (.arr v true 1 ((roundB l cur cur).map Bb))) ?_ ?_
    · refine R_loop (α := Nat) (fun i s' M' => i ≤ l.length ∧ s' 25 = aI i ∧ (∃ w, s' 10 = .sl 832 w 0 cur.length 1 ∧ M'.m 832 = some (.arr w true 1 (cur.map Bb))) ∧ ∃ v, s' 9 = .sl 192 v 0 n 1 ∧ M'.m 192 = some (.arr v true 1 ((roundB (l.take i) cur cur).map Bb))) (fun i => l.length - i) 0
        ⟨by omega, by simp only [go_sem, ↓reduceIte, Nat.reduceEqDiff, Nat.reduceAdd, Nat.reduceMul, Nat.reduceBEq, Option.getD_none, Int.reduceToNat, Nat.reduceSub, Nat.reduceLT, Nat.reduceLeDiff, Int.reduceLE, Int.reduceLT, reduceCtorEq, h1, h18, h19, h9, hmr]; rfl, ⟨_, by simp only [go_sem, ↓reduceIte, Nat.reduceEqDiff, Nat.reduceAdd, Nat.reduceMul, Nat.reduceBEq, Option.getD_none, Int.reduceToNat, Nat.reduceSub, Nat.reduceLT, Nat.reduceLeDiff, Int.reduceLE, Int.reduceLT, reduceCtorEq, h1, h18, h19, h9, hmr]; rfl, by simp only [go_sem, ↓reduceIte, Nat.reduceEqDiff, Nat.reduceAdd, Nat.reduceMul, Nat.reduceBEq, Option.getD_none, Int.reduceToNat, Nat.reduceSub, Nat.reduceLT, Nat.reduceLeDiff, Int.reduceLE, Int.reduceLT, reduceCtorEq, h1, h18, h19, h9, hmr]⟩, _, by simp only [go_sem, ↓reduceIte, Nat.reduceEqDiff, Nat.reduceAdd, Nat.reduceMul, Nat.reduceBEq, Option.getD_none, Int.reduceToNat, Nat.reduceSub, Nat.reduceLT, Nat.reduceLeDiff, Int.reduceLE, Int.reduceLT, reduceCtorEq, h1, h18, h19, h9, hmr]; rfl, by simp only [go_sem, ↓reduceIte, Nat.reduceEqDiff, Nat.reduceAdd, Nat.reduceMul, Nat.reduceBEq, Option.getD_none, Int.reduceToNat, Nat.reduceSub, Nat.reduceLT, Nat.reduceLeDiff, Int.reduceLE, Int.reduceLT, reduceCtorEq, h1, h18, h19, h9, hmr]; rfl⟩ ?_
      rintro i s2 M2 ⟨hi, h25, ⟨w, h10, hmw⟩, v2, g9, hm2⟩ ho
      have g23 : s2 23 = .dat none (arcs l) := by rw [ho 23 rfl]; simp only [go_sem, ↓reduceIte, Nat.reduceEqDiff, Nat.reduceAdd, Nat.reduceMul, Nat.reduceBEq, Option.getD_none, Int.reduceToNat, Nat.reduceSub, Nat.reduceLT, Nat.reduceLeDiff, Int.reduceLE, Int.reduceLT, reduceCtorEq, h1, h18, h19, h9, hmr]
      have g24 : s2 24 = aI l.length := by rw [ho 24 rfl]; simp only [go_sem, ↓reduceIte, Nat.reduceEqDiff, Nat.reduceAdd, Nat.reduceMul, Nat.reduceBEq, Option.getD_none, Int.reduceToNat, Nat.reduceSub, Nat.reduceLT, Nat.reduceLeDiff, Int.reduceLE, Int.reduceLT, reduceCtorEq, h1, h18, h19, h9, hmr]
      clear ho
      unfold impl_within.b0
      by_cases hlt2 : i < l.length
      · have hi2 : (i : Int) < l.length := by omega
        have ga : l[i]? = some l[i] := List.getElem?_eq_getElem hlt2
        have hw2 : IntKind.i64.wrap (i + 1) = ((i + 1 : Nat) : Int) := wrap_k hlt2 (by omega)
        obtain ⟨⟨a1, a2⟩, b1, b2⟩ := ha _ (List.getElem_mem hlt2)
        have a2' : l[i].1 < (cur.length : Int) := by omega
        have hg1 : (cur.map Bb)[l[i].1.toNat]? = some (Bb (cur.getD l[i].1.toNat false)) := by
          have : l[i].1.toNat < cur.length := by omega
          simp [this]
        have hro : (roundB (l.take i) cur cur).length = n := by rw [roundB_len]; exact hcl
        have hg2 : ((roundB (l.take i) cur cur).map Bb)[l[i].2.toNat]? = some (Bb ((roundB (l.take i) cur cur).getD l[i].2.toNat false)) := by
          have : l[i].2.toNat < (roundB (l.take i) cur cur).length := by omega
          simp [this]
        have hst2 : roundB (l.take (i + 1)) cur cur = if cur.getD l[i].1.toNat false then (roundB (l.take i) cur cur).set l[i].2.toNat true else roundB (l.take i) cur cur := by
          simp only [roundB]; rw [take_succ' hlt2, List.foldl_append]; rfl
        simp only [go_sem, ↓reduceIte, Nat.reduceEqDiff, Nat.reduceAdd, Nat.reduceMul, Nat.reduceBEq, Option.getD_none, Int.reduceToNat, Nat.reduceSub, Nat.reduceLT, Nat.reduceLeDiff, Int.reduceLE, Int.reduceLT, reduceCtorEq, hi2, ga, a1, a2', hg1, h1, h18, h19, h9, hmr, g23, g24, h25, h10, hmw, g9, hm2]
        cases hc : cur.getD l[i].1.toNat false with
        | true =>
          rw [hc, if_pos rfl] at hst2
          simp only [go_sem, ↓reduceIte, Nat.reduceEqDiff, Nat.reduceAdd, Nat.reduceMul, Nat.reduceBEq, Option.getD_none, Int.reduceToNat, Nat.reduceSub, Nat.reduceLT, Nat.reduceLeDiff, Int.reduceLE, Int.reduceLT, reduceCtorEq, b1, b2, hg2, hw2, map_setB, h1, h18, h19, h9, hmr, g23, g24, h25, h10, hmw, g9, hm2]
          exact ⟨i + 1, by dsimp only; omega, by omega, by simp only [go_sem, ↓reduceIte, Nat.reduceEqDiff, Nat.reduceAdd, Nat.reduceMul, Nat.reduceBEq, Option.getD_none, Int.reduceToNat, Nat.reduceSub, Nat.reduceLT, Nat.reduceLeDiff, Int.reduceLE, Int.reduceLT, reduceCtorEq, h1, h18, h19, h9, hmr, g23, g24, h25, h10, hmw, g9, hm2], ⟨w, by simp only [go_sem, ↓reduceIte, Nat.reduceEqDiff, Nat.reduceAdd, Nat.reduceMul, Nat.reduceBEq, Option.getD_none, Int.reduceToNat, Nat.reduceSub, Nat.reduceLT, Nat.reduceLeDiff, Int.reduceLE, Int.reduceLT, reduceCtorEq, h1, h18, h19, h9, hmr, g23, g24, h25, h10, hmw, g9, hm2], by simp only [go_sem, ↓reduceIte, Nat.reduceEqDiff, Nat.reduceAdd, Nat.reduceMul, Nat.reduceBEq, Option.getD_none, Int.reduceToNat, Nat.reduceSub, Nat.reduceLT, Nat.reduceLeDiff, Int.reduceLE, Int.reduceLT, reduceCtorEq, h1, h18, h19, h9, hmr, g23, g24, h25, h10, hmw, g9, hm2]⟩, v2, by simp only [go_sem, ↓reduceIte, Nat.reduceEqDiff, Nat.reduceAdd, Nat.reduceMul, Nat.reduceBEq, Option.getD_none, Int.reduceToNat, Nat.reduceSub, Nat.reduceLT, Nat.reduceLeDiff, Int.reduceLE, Int.reduceLT, reduceCtorEq, h1, h18, h19, h9, hmr, g23, g24, h25, h10, hmw, g9, hm2], by simp only [go_sem, ↓reduceIte, Nat.reduceEqDiff, Nat.reduceAdd, Nat.reduceMul, Nat.reduceBEq, Option.getD_none, Int.reduceToNat, Nat.reduceSub, Nat.reduceLT, Nat.reduceLeDiff, Int.reduceLE, Int.reduceLT, reduceCtorEq, h1, h18, h19, h9, hmr, g23, g24, h25, h10, hmw, g9, hm2]; rw [hst2]⟩
        | false =>
          rw [hc, if_neg (by simp)] at hst2
          simp only [go_sem, ↓reduceIte, Nat.reduceEqDiff, Nat.reduceAdd, Nat.reduceMul, Nat.reduceBEq, Option.getD_none, Int.reduceToNat, Nat.reduceSub, Nat.reduceLT, Nat.reduceLeDiff, Int.reduceLE, Int.reduceLT, reduceCtorEq, hw2, h1, h18, h19, h9, hmr, g23, g24, h25, h10, hmw, g9, hm2]
          exact ⟨i + 1, by dsimp only; omega, by omega, by simp only [go_sem, ↓reduceIte, Nat.reduceEqDiff, Nat.reduceAdd, Nat.reduceMul, Nat.reduceBEq, Option.getD_none, Int.reduceToNat, Nat.reduceSub, Nat.reduceLT, Nat.reduceLeDiff, Int.reduceLE, Int.reduceLT, reduceCtorEq, h1, h18, h19, h9, hmr, g23, g24, h25, h10, hmw, g9, hm2], ⟨w, by simp only [go_sem, ↓reduceIte, Nat.reduceEqDiff, Nat.reduceAdd, Nat.reduceMul, Nat.reduceBEq, Option.getD_none, Int.reduceToNat, Nat.reduceSub, Nat.reduceLT, Nat.reduceLeDiff, Int.reduceLE, Int.reduceLT, reduceCtorEq, h1, h18, h19, h9, hmr, g23, g24, h25, h10, hmw, g9, hm2], by simp only [go_sem, ↓reduceIte, Nat.reduceEqDiff, Nat.reduceAdd, Nat.reduceMul, Nat.reduceBEq, Option.getD_none, Int.reduceToNat, Nat.reduceSub, Nat.reduceLT, Nat.reduceLeDiff, Int.reduceLE, Int.reduceLT, reduceCtorEq, h1, h18, h19, h9, hmr, g23, g24, h25, h10, hmw, g9, hm2]⟩, v2, by simp only [go_sem, ↓reduceIte, Nat.reduceEqDiff, Nat.reduceAdd, Nat.reduceMul, Nat.reduceBEq, Option.getD_none, Int.reduceToNat, Nat.reduceSub, Nat.reduceLT, Nat.reduceLeDiff, Int.reduceLE, Int.reduceLT, reduceCtorEq, h1, h18, h19, h9, hmr, g23, g24, h25, h10, hmw, g9, hm2], by simp only [go_sem, ↓reduceIte, Nat.reduceEqDiff, Nat.reduceAdd, Nat.reduceMul, Nat.reduceBEq, Option.getD_none, Int.reduceToNat, Nat.reduceSub, Nat.reduceLT, Nat.reduceLeDiff, Int.reduceLE, Int.reduceLT, reduceCtorEq, h1, h18, h19, h9, hmr, g23, g24, h25, h10, hmw, g9, hm2]; rw [hst2]⟩
      · have hi2 : ¬ (i : Int) < l.length := by omega
        obtain rfl : i = l.length := by omega
        rw [List.take_length] at hm2
        simp only [go_sem, ↓reduceIte, Nat.reduceEqDiff, Nat.reduceAdd, Nat.reduceMul, Nat.reduceBEq, Option.getD_none, Int.reduceToNat, Nat.reduceSub, Nat.reduceLT, Nat.reduceLeDiff, Int.reduceLE, Int.reduceLT, reduceCtorEq, hi2, h1, h18, h19, h9, hmr, g23, g24, h25, h10, hmw, g9, hm2]
        exact ⟨v2, rfl, rfl⟩
    · rintro e s2 M2 ⟨rfl, v2, g9, hm2⟩ ho
      have g19 : s2 19 = aI k := by rw [ho 19 rfl]; simp only [go_sem, ↓reduceIte, Nat.reduceEqDiff, Nat.reduceAdd, Nat.reduceMul, Nat.reduceBEq, Option.getD_none, Int.reduceToNat, Nat.reduceSub, Nat.reduceLT, Nat.reduceLeDiff, Int.reduceLE, Int.reduceLT, reduceCtorEq, h1, h18, h19, h9, hmr]
      simp only [go_sem, ↓reduceIte, Nat.reduceEqDiff, Nat.reduceAdd, Nat.reduceMul, Nat.reduceBEq, Option.getD_none, Int.reduceToNat, Nat.reduceSub, Nat.reduceLT, Nat.reduceLeDiff, Int.reduceLE, Int.reduceLT, reduceCtorEq, g19, hw, h1, h18, h19, h9, hmr]
      refine ⟨(k + 1, roundB l cur cur), by dsimp only; omega, by dsimp only; omega, by simp only [go_sem, ↓reduceIte, Nat.reduceEqDiff, Nat.reduceAdd, Nat.reduceMul, Nat.reduceBEq, Option.getD_none, Int.reduceToNat, Nat.reduceSub, Nat.reduceLT, Nat.reduceLeDiff, Int.reduceLE, Int.reduceLT, reduceCtorEq, h1, h18, h19, h9, hmr], by dsimp only; rw [roundB_len]; exact hcl, ⟨v2, by simp only [go_sem, ↓reduceIte, Nat.reduceEqDiff, Nat.reduceAdd, Nat.reduceMul, Nat.reduceBEq, Option.getD_none, Int.reduceToNat, Nat.reduceSub, Nat.reduceLT, Nat.reduceLeDiff, Int.reduceLE, Int.reduceLT, reduceCtorEq, g9, h1, h18, h19, h9, hmr], by simp only [go_sem, ↓reduceIte, Nat.reduceEqDiff, Nat.reduceAdd, Nat.reduceMul, Nat.reduceBEq, Option.getD_none, Int.reduceToNat, Nat.reduceSub, Nat.reduceLT, Nat.reduceLeDiff, Int.reduceLE, Int.reduceLT, reduceCtorEq, hm2, h1, h18, h19, h9, hmr]⟩, ?_⟩
      dsimp only
      rw [← hre, show most - k = (most - (k + 1)) + 1 by omega]
      rfl
  · have hi' : ¬ (k : Int) < most := by omega
    obtain rfl : k = most := by omega
    rw [Nat.sub_self] at hre
    simp only [withinB] at hre
    have htk : (cur.map Bb).take n = cur.map Bb := List.take_of_length_le (by simp; omega)
    simp only [go_sem, ↓reduceIte, Nat.reduceEqDiff, Nat.reduceAdd, Nat.reduceMul, Nat.reduceBEq, Option.getD_none, Int.reduceToNat, Nat.reduceSub, Nat.reduceLT, Nat.reduceLeDiff, Int.reduceLE, Int.reduceLT, reduceCtorEq, hi', htk, hcl, h1, h18, h19, h9, hmr]
    rw [hre]
end Go.Vm.Ytdebllkmblakkaa
/- Plain law: rows of marks and sorted rows. -/
namespace Go.Vm.Ytdebllkmblakkaa
open Go Go.Vm
set_option maxRecDepth 10000
set_option maxHeartbeats 4000000
set_option linter.unusedSimpArgs false
set_option linter.unusedVariables false

/-- the numbers from a on, b of them, for which p holds -/
def segI (a b : Nat) (p : Nat → Bool) : List Int := ((List.range' a b).filter p).map fun (i : Nat) => (i : Int)
theorem listI_seg (n : Nat) (p : Nat → Bool) : listI n p = segI 0 n p := by simp only [listI, segI, List.range_eq_range']
theorem segI_split {a b c : Nat} {p : Nat → Bool} : segI a (b + c) p = segI a b p ++ segI (a + b) c p := by
  simp only [segI]
  rw [← List.range'_append_1, List.filter_append, List.map_append]
theorem segI_mem {a b : Nat} {p : Nat → Bool} {x : Int} (h : x ∈ segI a b p) : ∃ i : Nat, x = i ∧ a ≤ i ∧ i < a + b ∧ p i = true := by
  simp only [segI, List.mem_map, List.mem_filter, List.mem_range'_1] at h
  obtain ⟨i, ⟨hi, hp⟩, rfl⟩ := h
  exact ⟨i, rfl, hi.1, hi.2, hp⟩
theorem segI_congr {a b : Nat} {p q : Nat → Bool} (h : ∀ i, a ≤ i → i < a + b → p i = q i) : segI a b p = segI a b q := by
  simp only [segI]
  congr 1
  exact List.filter_congr fun i hi => by rw [List.mem_range'_1] at hi; exact h i hi.1 hi.2
theorem putK_app {A C : List Int} {x : Int} (hA : ∀ y ∈ A, y < x) (hC : ∀ y ∈ C, ¬ y < x) : putK (A ++ C) x = A.length := by
  unfold putK
  have h1 : A.findIdx (fun y => !decide (y < x)) = A.length := by
    rw [List.findIdx_eq_length]; intro y hy; simp [hA y hy]
  rw [List.findIdx_append, h1, if_neg (by omega)]
  cases C with
  | nil => simp
  | cons c C =>
    have := hC c List.mem_cons_self
    simp only [List.findIdx_cons, this, decide_false, Bool.not_false, cond_true, Nat.zero_add]
theorem putI_app {A C : List Int} {x : Int} (hA : ∀ y ∈ A, y < x) (hC : ∀ y ∈ C, x < y) : putI (A ++ C) x = A ++ x :: C ∧ putI (A ++ x :: C) x = A ++ x :: C := by
  constructor
  · unfold putI
    rw [putK_app hA (fun y hy => by have := hC y hy; omega)]
    have : (A ++ C)[A.length]? ≠ some x := by
      rw [List.getElem?_append_right (Nat.le_refl _), Nat.sub_self]
      cases C with
      | nil => simp
      | cons c C => have := hC c List.mem_cons_self; simp; omega
    rw [if_neg this]
    simp
  · unfold putI
    rw [putK_app hA (fun y hy => by
      rcases List.mem_cons.1 hy with rfl | hy
      · omega
      · have := hC y hy; omega)]
    simp
theorem putI_list {n : Nat} {p : Nat → Bool} {x : Nat} (hx : x < n) : putI (listI n p) x = listI n (fun i => if i = x then true else p i) := by
  obtain ⟨m, rfl⟩ : ∃ m, n = x + (1 + m) := ⟨n - x - 1, by omega⟩
  rw [listI_seg, listI_seg, segI_split (p := p), segI_split (p := p) (b := 1), segI_split (p := fun i => if i = x then true else p i), segI_split (p := fun i => if i = x then true else p i) (b := 1)]
  simp only [Nat.zero_add]
  have hA : ∀ q, ∀ y ∈ segI 0 x q, y < (x : Int) := fun q y hy => by obtain ⟨i, rfl, _, h, _⟩ := segI_mem hy; omega
  have hC : ∀ q, ∀ y ∈ segI (x + 1) m q, (x : Int) < y := fun q y hy => by obtain ⟨i, rfl, h, _, _⟩ := segI_mem hy; omega
  have e1 : segI 0 x (fun i => if i = x then true else p i) = segI 0 x p := segI_congr fun i _ h => by rw [if_neg (by omega)]
  have e2 : segI (x + 1) m (fun i => if i = x then true else p i) = segI (x + 1) m p := segI_congr fun i h _ => by rw [if_neg (by omega)]
  have e3 : segI x 1 (fun i => if i = x then true else p i) = [(x : Int)] := by simp [segI]
  rw [e1, e2, e3]
  cases hp : p x with
  | true =>
    have e4 : segI x 1 p = [(x : Int)] := by simp [segI, hp]
    rw [e4]
    exact (putI_app (hA p) (hC p)).2
  | false =>
    have e4 : segI x 1 p = [] := by simp [segI, hp]
    rw [e4, List.nil_append]
    exact (putI_app (hA p) (hC p)).1
theorem has_list {n : Nat} {p : Nat → Bool} {x : Nat} (hx : x < n) : (listI n p).any (· == (x : Int)) = p x := by
  rw [Bool.eq_iff_iff, List.any_eq_true]
  constructor
  · rintro ⟨y, hy, e⟩
    rw [listI_seg] at hy
    obtain ⟨i, rfl, _, _, h⟩ := segI_mem hy
    have e : ((i : Nat) : Int) = x := by simpa using e
    have : i = x := by omega
    rw [← this]; exact h
  · intro h
    exact ⟨x, by simp only [listI, List.mem_map, List.mem_filter, List.mem_range]; exact ⟨x, ⟨hx, h⟩, rfl⟩, by simp⟩
theorem listI_congr {n : Nat} {p q : Nat → Bool} (h : ∀ i, i < n → p i = q i) : listI n p = listI n q := by
  rw [listI_seg, listI_seg]; exact segI_congr fun i _ hi => h i (by omega)
def ofRow (b : List Bool) : List Int := listI b.length (fun i => b.getD i false)
theorem ofRow_set {b : List Bool} {x : Nat} (hx : x < b.length) : putI (ofRow b) x = ofRow (b.set x true) := by
  unfold ofRow
  rw [putI_list hx, List.length_set]
  refine listI_congr fun i hi => ?_
  simp only [List.getD_eq_getElem?_getD, List.getElem?_set]
  by_cases e : i = x
  · subst e; simp [hx]
  · rw [if_neg e, if_neg (fun h => e h.symm)]
theorem fold_row {n : Nat} (cur : List Bool) (hc : cur.length = n) : ∀ (l : List (Int × Int)) (o : List Bool), o.length = n → (∀ a ∈ l, (0 ≤ a.1 ∧ a.1 < n) ∧ 0 ≤ a.2 ∧ a.2 < n) →
    l.foldl (fun nx a => if (ofRow cur).any (· == a.1) then putI nx a.2 else nx) (ofRow o) = ofRow (roundB l cur o)
  | [], o, _, _ => rfl
  | a :: l, o, ho, h => by
    obtain ⟨⟨h1, h2⟩, h3, h4⟩ := h a List.mem_cons_self
    have e1 : ((a.1.toNat : Nat) : Int) = a.1 := by omega
    have e2 : ((a.2.toNat : Nat) : Int) = a.2 := by omega
    have hh : (ofRow cur).any (· == a.1) = cur.getD a.1.toNat false := by
      have := has_list (n := cur.length) (p := fun i => cur.getD i false) (x := a.1.toNat) (by omega)
      rw [e1] at this
      exact this
    have hp := ofRow_set (b := o) (x := a.2.toNat) (by omega)
    rw [e2] at hp
    simp only [List.foldl_cons, roundB, hh]
    cases hcc : cur.getD a.1.toNat false with
    | true =>
      simp only [if_true, hp]
      exact fold_row cur hc l (o.set a.2.toNat true) (by simpa using ho) fun x hx => h x (List.mem_cons_of_mem _ hx)
    | false =>
      simp only [Bool.false_eq_true, if_false]
      exact fold_row cur hc l o ho fun x hx => h x (List.mem_cons_of_mem _ hx)
theorem reach_row {n : Nat} {l : List (Int × Int)} (h : ∀ a ∈ l, (0 ≤ a.1 ∧ a.1 < n) ∧ 0 ≤ a.2 ∧ a.2 < n) : ∀ (m : Nat) (b : List Bool), b.length = n → reachI l m (ofRow b) = ofRow (withinB l m b)
  | 0, b, _ => rfl
  | m + 1, b, hb => by
    simp only [reachI, withinB, stepI]
    rw [fold_row b hb l b hb h]
    exact reach_row h m _ (by rw [roundB_len]; exact hb)
theorem ofRow_one {n x : Nat} (hx : x < n) : ofRow ((List.replicate n false).set x true) = [(x : Int)] := by
  rw [← ofRow_set (by simpa using hx)]
  have : ofRow (List.replicate n false) = [] := by
    unfold ofRow listI
    rw [List.filter_eq_nil_iff.2 (by intro i hi; simp at hi ⊢; simp [hi])]
    rfl
  rw [this]
  simp [putI, putK]
end Go.Vm.Ytdebllkmblakkaa
/- Walks: what is reached within so many steps. -/
namespace Go.Vm.Ytdebllkmblakkaa
open Go Go.Vm
set_option maxRecDepth 10000
set_option maxHeartbeats 4000000
set_option linter.unusedSimpArgs false
set_option linter.unusedVariables false

theorem goodA_mem {n : Int} {l : List (Int × Int)} (h : goodA n l = true) : (1 ≤ n ∧ n ≤ 6) ∧ l.length ≤ 30 ∧ ∀ a ∈ l, (0 ≤ a.1 ∧ a.1 < n) ∧ 0 ≤ a.2 ∧ a.2 < n := by
  simp only [goodA, Bool.and_eq_true, List.all_eq_true, inB, decide_eq_true_eq] at h
  obtain ⟨h1, hn, h3⟩ := h
  refine ⟨hn, h3, fun a ha => ?_⟩
  obtain ⟨i, hi, rfl⟩ := List.getElem_of_mem ha
  have := h1 i (by simpa using hi)
  have e : l.getD i (0, 0) = l[i] := by rw [List.getD_eq_getElem?_getD, List.getElem?_eq_getElem hi]; rfl
  rw [wrap_in (by omega) (by omega)] at this
  simp only [arcAt, e, inB, Bool.and_eq_true, decide_eq_true_eq] at this
  omega
end Go.Vm.Ytdebllkmblakkaa
/- Walks: arcs that lead back. -/
namespace Go.Vm.Ytdebllkmblakkaa
open Go Go.Vm
set_option maxRecDepth 10000
set_option maxHeartbeats 4000000
set_option linter.unusedSimpArgs false
set_option linter.unusedVariables false

/-- what is reached from x within n steps -/
def wFrom (n : Nat) (l : List (Int × Int)) (x : Int) : List Bool := withinB l n ((List.replicate n false).set x.toNat true)
theorem within_len {l : List (Int × Int)} : ∀ (k : Nat) (o : List Bool), (withinB l k o).length = o.length := by
  intro k
  induction k with
  | zero => intro o; rfl
  | succ k ih => intro o; simp only [withinB]; rw [ih, roundB_len]
theorem wFrom_len {n : Nat} {l : List (Int × Int)} {x : Int} : (wFrom n l x).length = n := by
  unfold wFrom; rw [within_len]; simp
def backP (n : Nat) (l : List (Int × Int)) (i : Nat) : Bool := (wFrom n l (l.getD i (0, 0)).2).getD (l.getD i (0, 0)).1.toNat false
def backI (n : Int) (l : List (Int × Int)) : D := if goodA n l then .tup [ints (listI l.length (backP n.toNat l)), Bb true] else .tup [.sl 1 [], Bb false]
theorem impl_BackArcs_c1.fc (n : Nat) (l : List (Int × Int)) (i : Nat) (hi : i < l.length) (hn : n ≤ 6) (hl : l.length ≤ 65536) (ha : ∀ a ∈ l, (0 ≤ a.1 ∧ a.1 < n) ∧ 0 ≤ a.2 ∧ a.2 < n) :
    FCt prog F_impl_BackArcs_c1 [.ro, .ro, .ro] [Ii i, .ptr (Ii n), .ptr (arcs l)] (Bb (backP n l i)) [] := by
  refine fct_run impl_BackArcs_c1.ok rfl ?_
  have hi' : (i : Int) < l.length := by omega
  have ga : l[i]? = some l[i] := List.getElem?_eq_getElem hi
  have gd : l.getD i (0, 0) = l[i] := by rw [List.getD_eq_getElem?_getD, ga]; rfl
  obtain ⟨⟨a1, a2⟩, a3, a4⟩ := ha _ (List.getElem_mem hi)
  have hb : (wFrom n l l[i].2)[l[i].1.toNat]? = some (backP n l i) := by
    unfold backP
    rw [gd, List.getD_eq_getElem?_getD, List.getElem?_eq_getElem (by rw [wFrom_len]; omega)]; rfl
  simp only [go_sem, ↓reduceIte, Nat.reduceEqDiff, Nat.reduceAdd, Nat.reduceMul, Nat.reduceBEq, Option.getD_none, Int.reduceToNat, Nat.reduceSub, Nat.reduceLT, Nat.reduceLeDiff, Int.reduceLE, Int.reduceLT, reduceCtorEq, hi', ga]
  refine fcW_bd (impl_within.fc n l l[i].2 n (by omega) (by omega) (by omega) ⟨a3, a4⟩ ha) noRs_bools ?_
  have e : withinB l n ((List.replicate n false).set l[i].2.toNat true) = wFrom n l l[i].2 := rfl
  have wl : ((wFrom n l l[i].2).length : Int) = n := by rw [wFrom_len]
  rw [e]
  simp only [go_sem, ↓reduceIte, Nat.reduceEqDiff, Nat.reduceAdd, Nat.reduceMul, Nat.reduceBEq, Option.getD_none, Int.reduceToNat, Nat.reduceSub, Nat.reduceLT, Nat.reduceLeDiff, Int.reduceLE, Int.reduceLT, reduceCtorEq, a1, a2, hb, wl, hi', ga]
theorem impl_BackArcs.fc (n : Int) (l : List (Int × Int)) (hl : l.length ≤ 4294967296) : FCt prog F_impl_BackArcs [.ro, .ro] [Ii n, arcs l] (backI n l) [] := by
  refine fct_run impl_BackArcs.ok rfl ?_
  unfold backI
  simp only [go_sem, ↓reduceIte, Nat.reduceEqDiff, Nat.reduceAdd, Nat.reduceMul, Nat.reduceBEq, Option.getD_none, Int.reduceToNat, Nat.reduceSub, Nat.reduceLT, Nat.reduceLeDiff, Int.reduceLE, Int.reduceLT, reduceCtorEq]
  refine fcW_bool (impl_GoodArcs.fc n l hl) ?_
  cases hg : goodA n l with
  | false => simp only [go_sem, ↓reduceIte, Nat.reduceEqDiff, Nat.reduceAdd, Nat.reduceMul, Nat.reduceBEq, Option.getD_none, Int.reduceToNat, Nat.reduceSub, Nat.reduceLT, Nat.reduceLeDiff, Int.reduceLE, Int.reduceLT, reduceCtorEq]
  | true =>
    obtain ⟨hn, hl2, hmem⟩ := goodA_mem hg
    obtain ⟨N, rfl⟩ : ∃ N : Nat, n = N := ⟨n.toNat, by omega⟩
    simp only [go_sem, ↓reduceIte, Nat.reduceEqDiff, Nat.reduceAdd, Nat.reduceMul, Nat.reduceBEq, Option.getD_none, Int.reduceToNat, Nat.reduceSub, Nat.reduceLT, Nat.reduceLeDiff, Int.reduceLE, Int.reduceLT, reduceCtorEq]
    refine fcW_bd (impl_list.fc l.length F_impl_BackArcs_c1 [.ptr (Ii N), .ptr (arcs l)] (backP N l) (by omega) (fun i hi => impl_BackArcs_c1.fc N l i hi (by omega) (by omega) hmem)) noRs_ints ?_
    simp only [go_sem, ↓reduceIte, Nat.reduceEqDiff, Nat.reduceAdd, Nat.reduceMul, Nat.reduceBEq, Option.getD_none, Int.reduceToNat, Nat.reduceSub, Nat.reduceLT, Nat.reduceLeDiff, Int.reduceLE, Int.reduceLT, reduceCtorEq, take_map_len]
theorem spec_BackArcs.fc (n : Int) (l : List (Int × Int)) (hl : l.length ≤ 4294967296) : FCt prog F_spec_BackArcs [.ro, .ro] [Ii n, arcs l] (backI n l) [] := by
  refine fct_run spec_BackArcs.ok rfl ?_
  unfold backI
  simp only [go_sem, ↓reduceIte, Nat.reduceEqDiff, Nat.reduceAdd, Nat.reduceMul, Nat.reduceBEq, Option.getD_none, Int.reduceToNat, Nat.reduceSub, Nat.reduceLT, Nat.reduceLeDiff, Int.reduceLE, Int.reduceLT, reduceCtorEq]
  refine fcW_bool (spec_GoodArcs.fc n l hl) ?_
  cases hg : goodA n l with
  | false => simp only [go_sem, ↓reduceIte, Nat.reduceEqDiff, Nat.reduceAdd, Nat.reduceMul, Nat.reduceBEq, Option.getD_none, Int.reduceToNat, Nat.reduceSub, Nat.reduceLT, Nat.reduceLeDiff, Int.reduceLE, Int.reduceLT, reduceCtorEq]
  | true =>
    obtain ⟨hn, hl2, hmem⟩ := goodA_mem hg
    obtain ⟨N, rfl⟩ : ∃ N : Nat, n = N := ⟨n.toNat, by omega⟩
    simp only [go_sem, ↓reduceIte, Nat.reduceEqDiff, Nat.reduceAdd, Nat.reduceMul, Nat.reduceBEq, Option.getD_none, Int.reduceToNat, Nat.reduceSub, Nat.reduceLT, Nat.reduceLeDiff, Int.reduceLE, Int.reduceLT, reduceCtorEq]
    refine R_loop (α := Nat) (fun k s' M' => k ≤ l.length ∧ s' 15 = aI k ∧ ∃ v, s' 6 = .sl 1984 v 0 (listI k (backP N l)).length 1 ∧ M'.m 1984 = some (.arr v true 1 ((listI k (backP N l)).map Ii))) (fun k => l.length - k) 0
      ⟨by omega, by simp only [go_sem, ↓reduceIte, Nat.reduceEqDiff, Nat.reduceAdd, Nat.reduceMul, Nat.reduceBEq, Option.getD_none, Int.reduceToNat, Nat.reduceSub, Nat.reduceLT, Nat.reduceLeDiff, Int.reduceLE, Int.reduceLT, reduceCtorEq]; rfl, _, by simp only [go_sem, ↓reduceIte, Nat.reduceEqDiff, Nat.reduceAdd, Nat.reduceMul, Nat.reduceBEq, Option.getD_none, Int.reduceToNat, Nat.reduceSub, Nat.reduceLT, Nat.reduceLeDiff, Int.reduceLE, Int.reduceLT, reduceCtorEq]; rfl, by simp only [go_sem, ↓reduceIte, Nat.reduceEqDiff, Nat.reduceAdd, Nat.reduceMul, Nat.reduceBEq, Option.getD_none, Int.reduceToNat, Nat.reduceSub, Nat.reduceLT, Nat.reduceLeDiff, Int.reduceLE, Int.reduceLT, reduceCtorEq]; rfl⟩ ?_
    rintro k s' M' ⟨hk, h15, v, h6, hm⟩ ho
    unfold spec_BackArcs.b0
    have k0 : s' 0 = aI N := by rw [ho 0 rfl]; simp only [go_sem, ↓reduceIte, Nat.reduceEqDiff, Nat.reduceAdd, Nat.reduceMul, Nat.reduceBEq, Option.getD_none, Int.reduceToNat, Nat.reduceSub, Nat.reduceLT, Nat.reduceLeDiff, Int.reduceLE, Int.reduceLT, reduceCtorEq]
    have k1 : s' 1 = .dat none (arcs l) := by rw [ho 1 rfl]; simp only [go_sem, ↓reduceIte, Nat.reduceEqDiff, Nat.reduceAdd, Nat.reduceMul, Nat.reduceBEq, Option.getD_none, Int.reduceToNat, Nat.reduceSub, Nat.reduceLT, Nat.reduceLeDiff, Int.reduceLE, Int.reduceLT, reduceCtorEq]
    have k13 : s' 13 = .dat none (arcs l) := by rw [ho 13 rfl]; simp only [go_sem, ↓reduceIte, Nat.reduceEqDiff, Nat.reduceAdd, Nat.reduceMul, Nat.reduceBEq, Option.getD_none, Int.reduceToNat, Nat.reduceSub, Nat.reduceLT, Nat.reduceLeDiff, Int.reduceLE, Int.reduceLT, reduceCtorEq]
    have k14 : s' 14 = aI l.length := by rw [ho 14 rfl]; simp only [go_sem, ↓reduceIte, Nat.reduceEqDiff, Nat.reduceAdd, Nat.reduceMul, Nat.reduceBEq, Option.getD_none, Int.reduceToNat, Nat.reduceSub, Nat.reduceLT, Nat.reduceLeDiff, Int.reduceLE, Int.reduceLT, reduceCtorEq]
    clear ho
    by_cases hlt : k < l.length
    · have hi' : (k : Int) < l.length := by omega
      have ga : l[k]? = some l[k] := List.getElem?_eq_getElem hlt
      have hw : IntKind.i64.wrap (k + 1) = ((k + 1 : Nat) : Int) := wrap_k hlt (by omega)
      have gd : l.getD k (0, 0) = l[k] := by rw [List.getD_eq_getElem?_getD, ga]; rfl
      obtain ⟨⟨a1, a2⟩, a3, a4⟩ := hmem _ (List.getElem_mem hlt)
      simp only [go_sem, ↓reduceIte, Nat.reduceEqDiff, Nat.reduceAdd, Nat.reduceMul, Nat.reduceBEq, Option.getD_none, Int.reduceToNat, Nat.reduceSub, Nat.reduceLT, Nat.reduceLeDiff, Int.reduceLE, Int.reduceLT, reduceCtorEq, hi', ga, k0, k1, k13, k14, h15, h6, hm]
      refine fcW_bdc (spec_l12Reach.fc l l[k].2 N (by omega) (by omega)) ?_
      have hrr := reach_row hmem N ((List.replicate N false).set l[k].2.toNat true) (by simp)
      rw [ofRow_one (by omega), show ((l[k].2.toNat : Nat) : Int) = l[k].2 by omega] at hrr
      rw [hrr]
      have e : withinB l N ((List.replicate N false).set l[k].2.toNat true) = wFrom N l l[k].2 := rfl
      rw [e]
      simp only [go_sem, ↓reduceIte, Nat.reduceEqDiff, Nat.reduceAdd, Nat.reduceMul, Nat.reduceBEq, Option.getD_none, Int.reduceToNat, Nat.reduceSub, Nat.reduceLT, Nat.reduceLeDiff, Int.reduceLE, Int.reduceLT, reduceCtorEq, k0, k1, k13, k14, h15, h6, hm]
      have hol : (ofRow (wFrom N l l[k].2)).length ≤ 4294967296 := by
        have := listI_len (wFrom N l l[k].2).length (fun i => (wFrom N l l[k].2).getD i false)
        rw [wFrom_len] at this
        unfold ofRow; rw [wFrom_len]; omega
      refine fcW_bool (spec_l1Has.fc _ _ hol) ?_
      have hh : (ofRow (wFrom N l l[k].2)).any (· == l[k].1) = backP N l k := by
        have := has_list (n := (wFrom N l l[k].2).length) (p := fun i => (wFrom N l l[k].2).getD i false) (x := l[k].1.toNat) (by rw [wFrom_len]; omega)
        rw [show ((l[k].1.toNat : Nat) : Int) = l[k].1 by omega] at this
        unfold backP; rw [gd]; exact this
      have hll := listI_len k (backP N l)
      rw [hh]
      cases hp : backP N l k with
      | false =>
        simp only [go_sem, ↓reduceIte, Nat.reduceEqDiff, Nat.reduceAdd, Nat.reduceMul, Nat.reduceBEq, Option.getD_none, Int.reduceToNat, Nat.reduceSub, Nat.reduceLT, Nat.reduceLeDiff, Int.reduceLE, Int.reduceLT, reduceCtorEq, hw, k0, k1, k13, k14, h15, h6, hm]
        refine ⟨k + 1, by dsimp only; omega, by omega, by simp only [go_sem, ↓reduceIte, Nat.reduceEqDiff, Nat.reduceAdd, Nat.reduceMul, Nat.reduceBEq, Option.getD_none, Int.reduceToNat, Nat.reduceSub, Nat.reduceLT, Nat.reduceLeDiff, Int.reduceLE, Int.reduceLT, reduceCtorEq, k0, k1, k13, k14, h15, h6, hm], v, by simp only [go_sem, ↓reduceIte, Nat.reduceEqDiff, Nat.reduceAdd, Nat.reduceMul, Nat.reduceBEq, Option.getD_none, Int.reduceToNat, Nat.reduceSub, Nat.reduceLT, Nat.reduceLeDiff, Int.reduceLE, Int.reduceLT, reduceCtorEq, k0, k1, k13, k14, h15, h6, hm]; rw [listI_step, hp]; simp, by simp only [go_sem, ↓reduceIte, Nat.reduceEqDiff, Nat.reduceAdd, Nat.reduceMul, Nat.reduceBEq, Option.getD_none, Int.reduceToNat, Nat.reduceSub, Nat.reduceLT, Nat.reduceLeDiff, Int.reduceLE, Int.reduceLT, reduceCtorEq, k0, k1, k13, k14, h15, h6, hm]; rw [listI_step, hp]; simp⟩
      | true =>
        have hb : ((listI k (backP N l)).length + 1) * 8 ≤ 70368744177664 := by omega
        simp only [go_sem, ↓reduceIte, Nat.reduceEqDiff, Nat.reduceAdd, Nat.reduceMul, Nat.reduceBEq, Option.getD_none, Int.reduceToNat, Nat.reduceSub, Nat.reduceLT, Nat.reduceLeDiff, Int.reduceLE, Int.reduceLT, reduceCtorEq, hw, hb, take_map_len, k0, k1, k13, k14, h15, h6, hm]
        refine ⟨k + 1, by dsimp only; omega, by omega, by simp only [go_sem, ↓reduceIte, Nat.reduceEqDiff, Nat.reduceAdd, Nat.reduceMul, Nat.reduceBEq, Option.getD_none, Int.reduceToNat, Nat.reduceSub, Nat.reduceLT, Nat.reduceLeDiff, Int.reduceLE, Int.reduceLT, reduceCtorEq, k0, k1, k13, k14, h15, h6, hm], _, by simp only [go_sem, ↓reduceIte, Nat.reduceEqDiff, Nat.reduceAdd, Nat.reduceMul, Nat.reduceBEq, Option.getD_none, Int.reduceToNat, Nat.reduceSub, Nat.reduceLT, Nat.reduceLeDiff, Int.reduceLE, Int.reduceLT, reduceCtorEq, k0, k1, k13, k14, h15, h6, hm]; rw [listI_step, hp]; simp; rfl, by simp only [go_sem, ↓reduceIte, Nat.reduceEqDiff, Nat.reduceAdd, Nat.reduceMul, Nat.reduceBEq, Option.getD_none, Int.reduceToNat, Nat.reduceSub, Nat.reduceLT, Nat.reduceLeDiff, Int.reduceLE, Int.reduceLT, reduceCtorEq, k0, k1, k13, k14, h15, h6, hm]; rw [listI_step, hp]; simp⟩
    · have hi' : ¬ (k : Int) < l.length := by omega
      obtain rfl : k = l.length := by omega
      simp only [go_sem, ↓reduceIte, Nat.reduceEqDiff, Nat.reduceAdd, Nat.reduceMul, Nat.reduceBEq, Option.getD_none, Int.reduceToNat, Nat.reduceSub, Nat.reduceLT, Nat.reduceLeDiff, Int.reduceLE, Int.reduceLT, reduceCtorEq, hi', take_map_len, k0, k1, k13, k14, h15, h6, hm]
end Go.Vm.Ytdebllkmblakkaa
/- Plain law: how many layers are enough. -/
namespace Go.Vm.Ytdebllkmblakkaa
open Go Go.Vm
set_option maxRecDepth 10000
set_option maxHeartbeats 4000000
set_option linter.unusedSimpArgs false
set_option linter.unusedVariables false

/-! ### walks -/
def addW (v : List Int) (o : List Int) (a : Int × Int) : List Int := o.set a.2.toNat (IntKind.i64.wrap (o.getD a.2.toNat 0 + v.getD a.1.toNat 0))
/-- how many ways lead to each spot over one arc more -/
def stepW (n : Nat) (l : List (Int × Int)) (v : List Int) : List Int := l.foldl (addW v) (List.replicate n 0)
def ways (n : Nat) (l : List (Int × Int)) (f : Int) : Nat → List Int
  | 0 => (List.replicate n 0).set f.toNat 1
  | k + 1 => stepW n l (ways n l f k)
/-- an arc is in a row -/
def hasA (l : List (Int × Int)) (x y : Int) : Bool := l.any (fun a => a.1 == x && a.2 == y)
theorem hasA_mem {l : List (Int × Int)} {x y : Int} : hasA l x y = true ↔ (x, y) ∈ l := by
  unfold hasA
  rw [List.any_eq_true]
  constructor
  · rintro ⟨⟨a, b⟩, hm, h⟩
    simp only [Bool.and_eq_true, beq_iff_eq] at h
    rw [← h.1, ← h.2]; exact hm
  · intro h
    exact ⟨_, h, by simp⟩
end Go.Vm.Ytdebllkmblakkaa
/- Plain law: a graph laid out in layers. -/
namespace Go.Vm.Ytdebllkmblakkaa
open Go Go.Vm
set_option maxRecDepth 10000
set_option maxHeartbeats 4000000
set_option linter.unusedSimpArgs false
set_option linter.unusedVariables false

/-- a spot in a layer -/
def spot (n : Int) (k : Nat) (s : Int) : Int := (k : Int) * n + s
theorem spot_div {n : Int} {k : Nat} {s : Int} (hs : 0 ≤ s ∧ s < n) : spot n k s / n = k := by
  unfold spot
  rw [Int.add_comm, Int.add_mul_ediv_right _ _ (by omega), Int.ediv_eq_zero_of_lt hs.1 hs.2, Int.zero_add]
theorem spot_mod {n : Int} {k : Nat} {s : Int} (hs : 0 ≤ s ∧ s < n) : spot n k s % n = s := by
  unfold spot
  rw [Int.add_comm, Int.add_mul_emod_self_right, Int.emod_eq_of_lt hs.1 hs.2]
theorem spot_in {n : Int} {k : Nat} {s : Int} (hn : n ≤ 6) (hk : k ≤ 8) (hs : 0 ≤ s ∧ s < n) : 0 ≤ (k : Int) * n ∧ (k : Int) * n ≤ 48 ∧ 0 ≤ spot n k s ∧ spot n k s ≤ 54 := by
  have h1 : 0 ≤ (k : Int) * n := Int.mul_nonneg (by omega) (by omega)
  have h2 : (k : Int) * n ≤ 8 * 6 := Int.mul_le_mul (by omega) hn (by omega) (by omega)
  unfold spot
  omega
def laidI (n : Int) (w : List Int) (k : Nat) : List Int := (List.range k).map fun i => spot n i (w.getD i 0)
theorem laidI_succ {n : Int} {w : List Int} {k : Nat} : laidI n w (k + 1) = laidI n w k ++ [spot n k (w.getD k 0)] := by simp [laidI, List.range_succ]
theorem laidI_len {n : Int} {w : List Int} {k : Nat} : (laidI n w k).length = k := by simp [laidI]
theorem laidI_get {n : Int} {w : List Int} {k i : Nat} (h : i < k) : (laidI n w k)[i]? = some (spot n i (w.getD i 0)) := by simp [laidI, h]
/-- the arcs of a layer -/
def layA (n : Int) (l : List (Int × Int)) (k : Nat) : List (Int × Int) := l.map fun a => (spot n k a.1, spot n (k + 1) a.2)
def layO (n : Int) (l : List (Int × Int)) : Nat → List (Int × Int)
  | 0 => []
  | k + 1 => layO n l k ++ layA n l k
theorem layO_len {n : Int} {l : List (Int × Int)} : ∀ {k : Nat}, (layO n l k).length = k * l.length
  | 0 => by simp [layO]
  | k + 1 => by simp [layO, layA, layO_len (k := k), Nat.succ_mul]
theorem layO_mem {n : Int} {l : List (Int × Int)} {x : Int × Int} : ∀ {m : Nat}, x ∈ layO n l m ↔ ∃ k a, k < m ∧ a ∈ l ∧ x = (spot n k a.1, spot n (k + 1) a.2)
  | 0 => by simp [layO]
  | m + 1 => by
    rw [layO, List.mem_append, layO_mem (m := m)]
    constructor
    · rintro (⟨k, a, h1, h2, h3⟩ | h)
      · exact ⟨k, a, by omega, h2, h3⟩
      · obtain ⟨a, h1, rfl⟩ := List.mem_map.1 h
        exact ⟨m, a, by omega, h1, rfl⟩
    · rintro ⟨k, a, h1, h2, rfl⟩
      by_cases e : k < m
      · exact .inl ⟨k, a, e, h2, rfl⟩
      · obtain rfl : k = m := by omega
        exact .inr (List.mem_map.2 ⟨a, h2, rfl⟩)
theorem laid_has {n : Int} {l : List (Int × Int)} (ha : ∀ a ∈ l, (0 ≤ a.1 ∧ a.1 < n) ∧ 0 ≤ a.2 ∧ a.2 < n) {m i : Nat} {s t : Int} (hi : i < m) (hs : 0 ≤ s ∧ s < n) (ht : 0 ≤ t ∧ t < n) :
    hasA (layO n l m) (spot n i s) (spot n (i + 1) t) = hasA l s t := by
  rw [Bool.eq_iff_iff, hasA_mem, hasA_mem, layO_mem]
  constructor
  · rintro ⟨k, a, h1, h2, h3⟩
    obtain ⟨a1, a2⟩ := ha a h2
    have e1 : spot n i s = spot n k a.1 := congrArg Prod.fst h3
    have e2 : spot n (i + 1) t = spot n (k + 1) a.2 := congrArg Prod.snd h3
    have m1 := congrArg (· % n) e1
    have m2 := congrArg (· % n) e2
    simp only [spot_mod hs, spot_mod a1, spot_mod ht, spot_mod a2] at m1 m2
    rw [m1, m2]; exact h2
  · intro h
    exact ⟨i, (s, t), hi, h, rfl⟩
theorem layO_arc {n : Int} {l : List (Int × Int)} (ha : ∀ a ∈ l, (0 ≤ a.1 ∧ a.1 < n) ∧ 0 ≤ a.2 ∧ a.2 < n) (hn : n ≤ 6) {m : Nat} (hm : m ≤ 7) {x : Int × Int} (h : x ∈ layO n l m) :
    (0 ≤ x.1 ∧ x.1 ≤ 54) ∧ (0 ≤ x.2 ∧ x.2 ≤ 54) ∧ x.2 / n = x.1 / n + 1 ∧ (0 ≤ x.1 / n ∧ x.1 / n ≤ 8) ∧ hasA l (x.1 % n) (x.2 % n) = true := by
  obtain ⟨k, a, h1, h2, rfl⟩ := layO_mem.1 h
  obtain ⟨a1, a2⟩ := ha a h2
  have i1 := spot_in hn (k := k) (by omega) a1
  have i2 := spot_in hn (k := k + 1) (by omega) a2
  dsimp only
  rw [spot_div a1, spot_div a2, spot_mod a1, spot_mod a2]
  exact ⟨⟨i1.2.2.1, i1.2.2.2⟩, ⟨i2.2.2.1, i2.2.2.2⟩, by omega, by omega, hasA_mem.2 h2⟩
/-- whether each step is over an arc: the first k steps -/
def walkK (l : List (Int × Int)) (w : List Int) (k : Nat) : Bool := (List.range k).all fun i => hasA l (w.getD i 0) (w.getD (i + 1) 0)
theorem walkK_succ {l : List (Int × Int)} {w : List Int} {k : Nat} : walkK l w (k + 1) = (walkK l w k && hasA l (w.getD k 0) (w.getD (k + 1) 0)) := by simp [walkK, List.range_succ]
theorem walkK_not {l : List (Int × Int)} {w : List Int} {k m : Nat} (hk : k < m) (h : hasA l (w.getD k 0) (w.getD (k + 1) 0) = false) : walkK l w m = false := by
  rw [← Bool.not_eq_true, walkK, List.all_eq_true]
  intro hh
  have := hh k (by simpa using hk)
  rw [h] at this; cases this
def isV (n : Int) (w : List Int) : Bool := inB w.length 1 8 && w.all fun s => inB s 0 (IntKind.i64.wrap (n - 1))
theorem isV_mem {n : Int} {w : List Int} (hn : 1 ≤ n ∧ n ≤ 6) (h : isV n w = true) : (1 ≤ w.length ∧ w.length ≤ 8) ∧ ∀ i, i < w.length → 0 ≤ w.getD i 0 ∧ w.getD i 0 < n := by
  simp only [isV, Bool.and_eq_true, List.all_eq_true] at h
  obtain ⟨h1, h2⟩ := h
  simp only [inB, Bool.and_eq_true, decide_eq_true_eq] at h1
  refine ⟨by omega, fun i hi => ?_⟩
  have := h2 _ (List.getElem_mem hi)
  rw [wrap_in (by omega) (by omega)] at this
  simp only [inB, Bool.and_eq_true, decide_eq_true_eq] at this
  have e : w.getD i 0 = w[i] := by rw [List.getD_eq_getElem?_getD, List.getElem?_eq_getElem hi]; rfl
  rw [e]
  omega
end Go.Vm.Ytdebllkmblakkaa
/- Walks: rows of bools that are equal. -/
namespace Go.Vm.Ytdebllkmblakkaa
open Go Go.Vm
set_option maxRecDepth 10000
set_option maxHeartbeats 4000000
set_option linter.unusedSimpArgs false
set_option linter.unusedVariables false

end Go.Vm.Ytdebllkmblakkaa
/- Walks: what the laws call the same. -/
namespace Go.Vm.Ytdebllkmblakkaa
open Go Go.Vm
set_option maxRecDepth 10000
set_option maxHeartbeats 16000000
set_option linter.unusedSimpArgs false
set_option linter.unusedVariables false

theorem same_end {α : Type} {a b : List α} {k : Nat} (hl : a.length = b.length) (hk : a.length ≤ k) (h : ∀ i, i < k → a[i]? = b[i]?) : a = b := by
  apply List.ext_getElem?
  intro i
  by_cases hi : i < k
  · exact h i hi
  · rw [List.getElem?_eq_none (by omega), List.getElem?_eq_none (by omega)]
theorem same_not {α : Type} {a b : List α} {i : Nat} (h1 : i < a.length) (h2 : i < b.length) (h : a[i] ≠ b[i]) : a ≠ b := fun e => by subst e; exact h rfl
theorem laws_sameInts.fc (a b : List Int) (ha : a.length ≤ 4294967296) (hb : b.length ≤ 4294967296) : FCt prog F_laws_sameInts [.ro, .ro] [ints a, ints b] (Bb (decide (a = b))) [] := by
  refine fct_run laws_sameInts.ok rfl ?_
  by_cases hl : a.length = b.length
  · have e1 : ((a.length : Int) != b.length) = false := by rw [hl]; simp
    simp only [go_sem, ↓reduceIte, Nat.reduceEqDiff, Nat.reduceAdd, Nat.reduceMul, Nat.reduceBEq, Option.getD_none, Int.reduceToNat, Nat.reduceSub, Nat.reduceLT, Nat.reduceLeDiff, Int.reduceLE, Int.reduceLT, reduceCtorEq, e1]
    refine R_loop (α := Nat) (fun k s' M' => k ≤ a.length ∧ s' 13 = aI k ∧ ∀ i, i < k → a[i]? = b[i]?) (fun k => a.length - k) 0 ⟨Nat.zero_le _, by simp only [go_sem, ↓reduceIte, Nat.reduceEqDiff, Nat.reduceAdd, Nat.reduceMul, Nat.reduceBEq, Option.getD_none, Int.reduceToNat, Nat.reduceSub, Nat.reduceLT, Nat.reduceLeDiff, Int.reduceLE, Int.reduceLT, reduceCtorEq]; try rfl, fun i hi => absurd hi (Nat.not_lt_zero i)⟩ ?_
    rintro k s' M' ⟨hk, h13, hr⟩ ho
    unfold laws_sameInts.b0
    have j0 : s' 0 = .dat none (ints a) := by rw [ho 0 rfl]; simp only [go_sem, ↓reduceIte, Nat.reduceEqDiff, Nat.reduceAdd, Nat.reduceMul, Nat.reduceBEq, Option.getD_none, Int.reduceToNat, Nat.reduceSub, Nat.reduceLT, Nat.reduceLeDiff, Int.reduceLE, Int.reduceLT, reduceCtorEq]
    have j1 : s' 1 = .dat none (ints b) := by rw [ho 1 rfl]; simp only [go_sem, ↓reduceIte, Nat.reduceEqDiff, Nat.reduceAdd, Nat.reduceMul, Nat.reduceBEq, Option.getD_none, Int.reduceToNat, Nat.reduceSub, Nat.reduceLT, Nat.reduceLeDiff, Int.reduceLE, Int.reduceLT, reduceCtorEq]
    have j12 : s' 12 = aI a.length := by rw [ho 12 rfl]; simp only [go_sem, ↓reduceIte, Nat.reduceEqDiff, Nat.reduceAdd, Nat.reduceMul, Nat.reduceBEq, Option.getD_none, Int.reduceToNat, Nat.reduceSub, Nat.reduceLT, Nat.reduceLeDiff, Int.reduceLE, Int.reduceLT, reduceCtorEq]
    clear ho
    by_cases hlt : k < a.length
    · have hi' : (k : Int) < a.length := by omega
      have ga : a[k]? = some a[k] := List.getElem?_eq_getElem hlt
      have hw : IntKind.i64.wrap (k + 1) = ((k + 1 : Nat) : Int) := wrap_k hlt (by omega)
      have gb : b[k]? = some b[k] := List.getElem?_eq_getElem (by omega)
      have hb' : (k : Int) < b.length := by omega
      by_cases hx : a[k] = b[k]
      · have hx' : (a[k] != b[k]) = false := by simp [hx]
        simp only [go_sem, ↓reduceIte, Nat.reduceEqDiff, Nat.reduceAdd, Nat.reduceMul, Nat.reduceBEq, Option.getD_none, Int.reduceToNat, Nat.reduceSub, Nat.reduceLT, Nat.reduceLeDiff, Int.reduceLE, Int.reduceLT, reduceCtorEq, hi', hb', ga, gb, hx', hw, j0, j1, j12, h13]
        refine ⟨k + 1, by dsimp only; omega, by omega, by simp only [go_sem, ↓reduceIte, Nat.reduceEqDiff, Nat.reduceAdd, Nat.reduceMul, Nat.reduceBEq, Option.getD_none, Int.reduceToNat, Nat.reduceSub, Nat.reduceLT, Nat.reduceLeDiff, Int.reduceLE, Int.reduceLT, reduceCtorEq, j0, j1, j12, h13], fun i hi => ?_⟩
        by_cases c : i < k
        · exact hr i c
        · obtain rfl : i = k := by omega
          rw [ga, gb, hx]
      · have hne := same_not hlt (by omega) hx
        have hd : decide (a = b) = false := by simp [hne]
        have hx' : (a[k] != b[k]) = true := by simp [hx]
        generalize a[k] = x at *
        simp only [go_sem, ↓reduceIte, Nat.reduceEqDiff, Nat.reduceAdd, Nat.reduceMul, Nat.reduceBEq, Option.getD_none, Int.reduceToNat, Nat.reduceSub, Nat.reduceLT, Nat.reduceLeDiff, Int.reduceLE, Int.reduceLT, reduceCtorEq, hi', hb', ga, gb, hx', hd, j0, j1, j12, h13]; try rfl
    · have hi' : ¬ (k : Int) < a.length := by omega
      obtain rfl : k = a.length := by omega
      have e := same_end hl hk hr
      have hd : decide (a = b) = true := by simp [e]
      simp only [go_sem, ↓reduceIte, Nat.reduceEqDiff, Nat.reduceAdd, Nat.reduceMul, Nat.reduceBEq, Option.getD_none, Int.reduceToNat, Nat.reduceSub, Nat.reduceLT, Nat.reduceLeDiff, Int.reduceLE, Int.reduceLT, reduceCtorEq, Int.lt_irrefl, hd, j0, j1, j12, h13]; try rfl
  · have e1 : ((a.length : Int) != b.length) = true := by simp; omega
    have hd : decide (a = b) = false := by simp; intro e; exact hl (by rw [e])
    simp only [go_sem, ↓reduceIte, Nat.reduceEqDiff, Nat.reduceAdd, Nat.reduceMul, Nat.reduceBEq, Option.getD_none, Int.reduceToNat, Nat.reduceSub, Nat.reduceLT, Nat.reduceLeDiff, Int.reduceLE, Int.reduceLT, reduceCtorEq, e1, hd]; try rfl
end Go.Vm.Ytdebllkmblakkaa
/- Walks: how many layers are enough; how many ways there are. -/
namespace Go.Vm.Ytdebllkmblakkaa
open Go Go.Vm
set_option maxRecDepth 10000
set_option maxHeartbeats 4000000
set_option linter.unusedSimpArgs false
set_option linter.unusedVariables false

theorem laws_hasArc.fc (l : List (Int × Int)) (x y : Int) (hl : l.length ≤ 4294967296) : FCt prog F_laws_hasArc [.ro, .ro, .ro] [arcs l, Ii x, Ii y] (Bb (hasA l x y)) [] := by
  refine fct_run laws_hasArc.ok rfl ?_
  simp only [go_sem, ↓reduceIte, Nat.reduceEqDiff, Nat.reduceAdd, Nat.reduceMul, Nat.reduceBEq, Option.getD_none, Int.reduceToNat, Nat.reduceSub, Nat.reduceLT, Nat.reduceLeDiff, Int.reduceLE, Int.reduceLT, reduceCtorEq]
  refine R_loop (α := Nat) (fun k s' M' => k ≤ l.length ∧ s' 11 = aI k ∧ (l.take k).all (fun a => !(a.1 == x && a.2 == y)) = true) (fun k => l.length - k) 0 ⟨Nat.zero_le _, by simp only [go_sem, ↓reduceIte, Nat.reduceEqDiff, Nat.reduceAdd, Nat.reduceMul, Nat.reduceBEq, Option.getD_none, Int.reduceToNat, Nat.reduceSub, Nat.reduceLT, Nat.reduceLeDiff, Int.reduceLE, Int.reduceLT, reduceCtorEq]; rfl, rfl⟩ ?_
  rintro k s' M' ⟨hk, h11, hr⟩ ho
  unfold laws_hasArc.b0
  have j1 : s' 1 = aI x := by rw [ho 1 rfl]; simp only [go_sem, ↓reduceIte, Nat.reduceEqDiff, Nat.reduceAdd, Nat.reduceMul, Nat.reduceBEq, Option.getD_none, Int.reduceToNat, Nat.reduceSub, Nat.reduceLT, Nat.reduceLeDiff, Int.reduceLE, Int.reduceLT, reduceCtorEq]
  have j2 : s' 2 = aI y := by rw [ho 2 rfl]; simp only [go_sem, ↓reduceIte, Nat.reduceEqDiff, Nat.reduceAdd, Nat.reduceMul, Nat.reduceBEq, Option.getD_none, Int.reduceToNat, Nat.reduceSub, Nat.reduceLT, Nat.reduceLeDiff, Int.reduceLE, Int.reduceLT, reduceCtorEq]
  have j9 : s' 9 = .dat none (arcs l) := by rw [ho 9 rfl]; simp only [go_sem, ↓reduceIte, Nat.reduceEqDiff, Nat.reduceAdd, Nat.reduceMul, Nat.reduceBEq, Option.getD_none, Int.reduceToNat, Nat.reduceSub, Nat.reduceLT, Nat.reduceLeDiff, Int.reduceLE, Int.reduceLT, reduceCtorEq]
  have j10 : s' 10 = aI l.length := by rw [ho 10 rfl]; simp only [go_sem, ↓reduceIte, Nat.reduceEqDiff, Nat.reduceAdd, Nat.reduceMul, Nat.reduceBEq, Option.getD_none, Int.reduceToNat, Nat.reduceSub, Nat.reduceLT, Nat.reduceLeDiff, Int.reduceLE, Int.reduceLT, reduceCtorEq]
  clear ho
  by_cases hlt : k < l.length
  · have hi' : (k : Int) < l.length := by omega
    have ga : l[k]? = some l[k] := List.getElem?_eq_getElem hlt
    have hw : IntKind.i64.wrap (k + 1) = ((k + 1 : Nat) : Int) := wrap_k hlt (by omega)
    cases h1 : (l[k].1 == x)
    · simp only [go_sem, ↓reduceIte, Nat.reduceEqDiff, Nat.reduceAdd, Nat.reduceMul, Nat.reduceBEq, Option.getD_none, Int.reduceToNat, Nat.reduceSub, Nat.reduceLT, Nat.reduceLeDiff, Int.reduceLE, Int.reduceLT, reduceCtorEq, hi', ga, h1, hw, j1, j2, j9, j10, h11]
      refine ⟨k + 1, by dsimp only; omega, by omega, by simp only [go_sem, ↓reduceIte, Nat.reduceEqDiff, Nat.reduceAdd, Nat.reduceMul, Nat.reduceBEq, Option.getD_none, Int.reduceToNat, Nat.reduceSub, Nat.reduceLT, Nat.reduceLeDiff, Int.reduceLE, Int.reduceLT, reduceCtorEq, j1, j2, j9, j10, h11], all_take hlt hr (by simp [h1])⟩
    · cases h2 : (l[k].2 == y)
      · simp only [go_sem, ↓reduceIte, Nat.reduceEqDiff, Nat.reduceAdd, Nat.reduceMul, Nat.reduceBEq, Option.getD_none, Int.reduceToNat, Nat.reduceSub, Nat.reduceLT, Nat.reduceLeDiff, Int.reduceLE, Int.reduceLT, reduceCtorEq, hi', ga, h1, h2, hw, j1, j2, j9, j10, h11]
        refine ⟨k + 1, by dsimp only; omega, by omega, by simp only [go_sem, ↓reduceIte, Nat.reduceEqDiff, Nat.reduceAdd, Nat.reduceMul, Nat.reduceBEq, Option.getD_none, Int.reduceToNat, Nat.reduceSub, Nat.reduceLT, Nat.reduceLeDiff, Int.reduceLE, Int.reduceLT, reduceCtorEq, j1, j2, j9, j10, h11], all_take hlt hr (by simp [h2])⟩
      · have : hasA l x y = true := by
          unfold hasA
          rw [List.any_eq_true]
          exact ⟨l[k], List.getElem_mem hlt, by rw [h1, h2]; rfl⟩
        simp only [go_sem, ↓reduceIte, Nat.reduceEqDiff, Nat.reduceAdd, Nat.reduceMul, Nat.reduceBEq, Option.getD_none, Int.reduceToNat, Nat.reduceSub, Nat.reduceLT, Nat.reduceLeDiff, Int.reduceLE, Int.reduceLT, reduceCtorEq, hi', ga, h1, h2, this, j1, j2, j9, j10, h11]; try rfl
  · have hi' : ¬ (k : Int) < l.length := by omega
    obtain rfl : k = l.length := by omega
    rw [List.take_length] at hr
    have : hasA l x y = false := by
      unfold hasA
      rw [List.any_eq_false]
      intro a ha
      have := List.all_eq_true.1 hr a ha
      rw [Bool.not_eq_true'] at this
      rw [this]; exact Bool.false_ne_true
    simp only [go_sem, ↓reduceIte, Nat.reduceEqDiff, Nat.reduceAdd, Nat.reduceMul, Nat.reduceBEq, Option.getD_none, Int.reduceToNat, Nat.reduceSub, Nat.reduceLT, Nat.reduceLeDiff, Int.reduceLE, Int.reduceLT, reduceCtorEq, Int.lt_irrefl, this, j1, j2, j9, j10, h11]; try rfl
end Go.Vm.Ytdebllkmblakkaa
/- Walks: the laws' own helpers, in one form. -/
namespace Go.Vm.Ytdebllkmblakkaa
open Go Go.Vm
set_option maxRecDepth 10000
set_option maxHeartbeats 4000000
set_option linter.unusedSimpArgs false
set_option linter.unusedVariables false

theorem hasSl {α : Type} {f : α → D} {p : α → Prop} {T : Ty} (one : ∀ x, HasTy T x → ∃ a, x = f a ∧ p a) {d : D} (h : HasTy (.sl T) d) : ∃ l : List α, d = .sl T.cells (l.map f) ∧ l.length ≤ 9223372036854775807 ∧ ∀ a ∈ l, p a := by
  simp only [HasTy] at h
  obtain ⟨xs, rfl, hl, h⟩ := h
  have : ∀ xs : List D, (∀ x ∈ xs, HasTy T x) → ∃ l : List α, xs = l.map f ∧ ∀ a ∈ l, p a := by
    intro xs
    induction xs with
    | nil => intro _; exact ⟨[], rfl, by simp⟩
    | cons x xs ih =>
      intro h
      obtain ⟨a, rfl, hp⟩ := one x (h x List.mem_cons_self)
      obtain ⟨l, rfl, hl⟩ := ih fun y hy => h y (List.mem_cons_of_mem _ hy)
      exact ⟨a :: l, rfl, fun b hb => by
        rcases List.mem_cons.1 hb with rfl | hb
        · exact hp
        · exact hl b hb⟩
  obtain ⟨l, rfl, hp⟩ := this xs h
  exact ⟨l, rfl, by simpa [maxLen] using hl, hp⟩
theorem noRs_t2 {a b : D} (h1 : noRs a = true) (h2 : noRs b = true) : noRs (.tup [a, b]) = true := by simp only [noRs, noRsL, h1, h2, Bool.and_self]
theorem noRs_t3 {a b c : D} (h1 : noRs a = true) (h2 : noRs b = true) (h3 : noRs c = true) : noRs (.tup [a, b, c]) = true := by simp only [noRs, noRsL, h1, h2, h3, Bool.and_self]
end Go.Vm.Ytdebllkmblakkaa
/- Walks: the laws' own helpers, in one form: rules, rows of rows. -/
namespace Go.Vm.Ytdebllkmblakkaa
open Go Go.Vm
set_option maxRecDepth 10000
set_option maxHeartbeats 4000000
set_option linter.unusedSimpArgs false
set_option linter.unusedVariables false

end Go.Vm.Ytdebllkmblakkaa
/- Walks: what is put into a row that is handed over; the least facts. -/
namespace Go.Vm.Ytdebllkmblakkaa
open Go Go.Vm
set_option maxRecDepth 10000
set_option maxHeartbeats 4000000
set_option linter.unusedSimpArgs false
set_option linter.unusedVariables false

end Go.Vm.Ytdebllkmblakkaa
/- Walks: do rules hold among facts? -/
namespace Go.Vm.Ytdebllkmblakkaa
open Go Go.Vm
set_option maxRecDepth 10000
set_option maxHeartbeats 4000000
set_option linter.unusedSimpArgs false
set_option linter.unusedVariables false

end Go.Vm.Ytdebllkmblakkaa
/- Plain law: the least facts. -/
namespace Go.Vm.Ytdebllkmblakkaa
open Go Go.Vm
set_option maxRecDepth 10000
set_option maxHeartbeats 4000000
set_option linter.unusedSimpArgs false
set_option linter.unusedVariables false

/-- how many are not there -/
def lackN (n : Nat) (so : List Int) : Nat := ((List.range (n + 1)).filter fun (i : Nat) => !hasI so (i : Int)).length
theorem lack_le {n : Nat} {so : List Int} : lackN n so ≤ n + 1 := by
  unfold lackN
  exact Nat.le_trans (List.length_filter_le _ _) (by simp)
/-- a rule that gives a new fact -/
def readyR (so : List Int) (r : RuleD) : Bool := decide (r.thn > 0) && !hasI so r.thn && r.ifs.all (hasI so)
def ruleAt (l : List RuleD) (i : Nat) : RuleD := l.getD i ⟨[], 0⟩
def leastI (l : List RuleD) : Nat → List Int → List Int → List Int × List Int
  | 0, so, ap => (so, ap)
  | f + 1, so, ap => match l.findIdx? (readyR so) with
    | none => (so, ap)
    | some i => leastI l f (putI so (ruleAt l i).thn) (ap ++ [(i : Int)])
/-- the least facts and what was applied -/
def leastP (l : List RuleD) : List Int × List Int := leastI l 14 [] []
/-- what is known all along -/
structure LeastOk (n : Nat) (l : List RuleD) (so ap : List Int) : Prop where
  same : leastI l 14 so ap = leastP l
  sort : so = listI (n + 1) fun i => hasI so (i : Int)
  few : so.length ≤ ap.length
  left : ap.length + lackN n so ≤ n + 1
  apl : ∀ i ∈ ap, 0 ≤ i ∧ i < l.length ∧ 0 < (ruleAt l i.toNat).thn
theorem LeastOk.start {n : Nat} {l : List RuleD} : LeastOk n l [] [] where
  same := rfl
  sort := by
    have : listI (n + 1) (fun i => hasI [] (i : Int)) = [] := by
      unfold listI; rw [List.filter_eq_nil_iff.2 (by intro i _; simp [hasI])]; rfl
    rw [this]
  few := by simp
  left := by have := lack_le (n := n) (so := []); simpa using this
  apl := by simp
theorem LeastOk.len {n : Nat} {l : List RuleD} {so ap : List Int} (h : LeastOk n l so ap) (hn : n ≤ 12) : so.length ≤ 13 ∧ ap.length ≤ 13 := by
  have := h.few; have := h.left; omega
end Go.Vm.Ytdebllkmblakkaa
/- Walks: the least facts. -/
namespace Go.Vm.Ytdebllkmblakkaa
open Go Go.Vm
set_option maxRecDepth 10000
set_option maxHeartbeats 4000000
set_option linter.unusedSimpArgs false
set_option linter.unusedVariables false

end Go.Vm.Ytdebllkmblakkaa
/- Walks: the least facts by the reference; why a fact holds. -/
namespace Go.Vm.Ytdebllkmblakkaa
open Go Go.Vm
set_option maxRecDepth 10000
set_option maxHeartbeats 4000000
set_option linter.unusedSimpArgs false
set_option linter.unusedVariables false

end Go.Vm.Ytdebllkmblakkaa
/- Walks: literals and clauses. -/
namespace Go.Vm.Ytdebllkmblakkaa
open Go Go.Vm
set_option maxRecDepth 10000
set_option maxHeartbeats 4000000
set_option linter.unusedSimpArgs false
set_option linter.unusedVariables false

end Go.Vm.Ytdebllkmblakkaa
/- Walks: rules as clauses. -/
namespace Go.Vm.Ytdebllkmblakkaa
open Go Go.Vm
set_option maxRecDepth 10000
set_option maxHeartbeats 4000000
set_option linter.unusedSimpArgs false
set_option linter.unusedVariables false

end Go.Vm.Ytdebllkmblakkaa
/- Walks: copies, and what is struck out of a row. -/
namespace Go.Vm.Ytdebllkmblakkaa
open Go Go.Vm
set_option maxRecDepth 10000
set_option maxHeartbeats 4000000
set_option linter.unusedSimpArgs false
set_option linter.unusedVariables false

end Go.Vm.Ytdebllkmblakkaa
/- Walks: what two sets of facts share; Horn clauses. -/
namespace Go.Vm.Ytdebllkmblakkaa
open Go Go.Vm
set_option maxRecDepth 10000
set_option maxHeartbeats 4000000
set_option linter.unusedSimpArgs false
set_option linter.unusedVariables false

end Go.Vm.Ytdebllkmblakkaa
/- Walks: the laws' own helpers for what may be. -/
namespace Go.Vm.Ytdebllkmblakkaa
open Go Go.Vm
set_option maxRecDepth 10000
set_option maxHeartbeats 4000000
set_option linter.unusedSimpArgs false
set_option linter.unusedVariables false

abbrev strD (x : (Int × Int)) : D := .agg [Ii x.1, Ii x.2]
abbrev knownD (x : (Int × Int)) : D := .agg [Ii x.1, Ii x.2]
abbrev strs (l : List (Int × Int)) : D := .sl 2 (l.map strD)
abbrev knowns (l : List (Int × Int)) : D := .sl 2 (l.map knownD)
structure MayD where
  reg : List (Int × Int)
  bits : List (Int × Int)
  cell : List (Int × Int)
  isset : List Bool
  deriving DecidableEq
abbrev MayD.d (x : MayD) : D := .agg [strs x.reg, knowns x.bits, strs x.cell, bools x.isset]
end Go.Vm.Ytdebllkmblakkaa
/- Walks: good may-states. -/
namespace Go.Vm.Ytdebllkmblakkaa
open Go Go.Vm
set_option maxRecDepth 10000
set_option maxHeartbeats 4000000
set_option linter.unusedSimpArgs false
set_option linter.unusedVariables false

end Go.Vm.Ytdebllkmblakkaa
/- Walks: the may-state at the start. -/
namespace Go.Vm.Ytdebllkmblakkaa
open Go Go.Vm
set_option maxRecDepth 10000
set_option maxHeartbeats 4000000
set_option linter.unusedSimpArgs false
set_option linter.unusedVariables false

end Go.Vm.Ytdebllkmblakkaa
/- Walks: machines; is a machine among those that may be? -/
namespace Go.Vm.Ytdebllkmblakkaa
open Go Go.Vm
set_option maxRecDepth 10000
set_option maxHeartbeats 4000000
set_option linter.unusedSimpArgs false
set_option linter.unusedVariables false

structure MachD where
  pc : Int
  regs : List Int
  cells : List Int
  isset : List Bool
  deriving DecidableEq
abbrev MachD.d (x : MachD) : D := .agg [Ii x.pc, ints x.regs, ints x.cells, bools x.isset]
theorem spec_l1All.fc (l : List Int) (lo hi : Int) (hl : l.length ≤ 4294967296) : FCt prog F_spec_l1All [.ro, .ro, .ro] [ints l, Ii lo, Ii hi] (Bb (l.all fun n => inB n lo hi)) [] := by
  refine fct_run spec_l1All.ok rfl ?_
  simp only [go_sem, ↓reduceIte, Nat.reduceEqDiff, Nat.reduceAdd, Nat.reduceMul, Nat.reduceBEq, Option.getD_none, Int.reduceToNat, Nat.reduceSub, Nat.reduceLT, Nat.reduceLeDiff, Int.reduceLE, Int.reduceLT, reduceCtorEq]
  refine R_loop (α := Nat) (fun k s' M' => k ≤ l.length ∧ s' 11 = aI k ∧ (l.take k).all (fun n => inB n lo hi) = true) (fun k => l.length - k) 0 ⟨by omega, by simp only [go_sem, ↓reduceIte, Nat.reduceEqDiff, Nat.reduceAdd, Nat.reduceMul, Nat.reduceBEq, Option.getD_none, Int.reduceToNat, Nat.reduceSub, Nat.reduceLT, Nat.reduceLeDiff, Int.reduceLE, Int.reduceLT, reduceCtorEq]; rfl, by simp⟩ ?_
  rintro k s' M' ⟨hk, h11, hr⟩ ho
  unfold spec_l1All.b0
  have k1 : s' 1 = aI lo := by rw [ho 1 rfl]; simp only [go_sem, ↓reduceIte, Nat.reduceEqDiff, Nat.reduceAdd, Nat.reduceMul, Nat.reduceBEq, Option.getD_none, Int.reduceToNat, Nat.reduceSub, Nat.reduceLT, Nat.reduceLeDiff, Int.reduceLE, Int.reduceLT, reduceCtorEq]
  have k2 : s' 2 = aI hi := by rw [ho 2 rfl]; simp only [go_sem, ↓reduceIte, Nat.reduceEqDiff, Nat.reduceAdd, Nat.reduceMul, Nat.reduceBEq, Option.getD_none, Int.reduceToNat, Nat.reduceSub, Nat.reduceLT, Nat.reduceLeDiff, Int.reduceLE, Int.reduceLT, reduceCtorEq]
  have k9 : s' 9 = .dat none (ints l) := by rw [ho 9 rfl]; simp only [go_sem, ↓reduceIte, Nat.reduceEqDiff, Nat.reduceAdd, Nat.reduceMul, Nat.reduceBEq, Option.getD_none, Int.reduceToNat, Nat.reduceSub, Nat.reduceLT, Nat.reduceLeDiff, Int.reduceLE, Int.reduceLT, reduceCtorEq]
  have k10 : s' 10 = aI l.length := by rw [ho 10 rfl]; simp only [go_sem, ↓reduceIte, Nat.reduceEqDiff, Nat.reduceAdd, Nat.reduceMul, Nat.reduceBEq, Option.getD_none, Int.reduceToNat, Nat.reduceSub, Nat.reduceLT, Nat.reduceLeDiff, Int.reduceLE, Int.reduceLT, reduceCtorEq]
  clear ho
  by_cases hlt : k < l.length
  · have hi' : (k : Int) < l.length := by omega
    have ga : l[k]? = some l[k] := List.getElem?_eq_getElem hlt
    have hw : IntKind.i64.wrap (k + 1) = ((k + 1 : Nat) : Int) := wrap_k hlt (by omega)
    simp only [go_sem, ↓reduceIte, Nat.reduceEqDiff, Nat.reduceAdd, Nat.reduceMul, Nat.reduceBEq, Option.getD_none, Int.reduceToNat, Nat.reduceSub, Nat.reduceLT, Nat.reduceLeDiff, Int.reduceLE, Int.reduceLT, reduceCtorEq, hi', ga, k1, k2, k9, k10, h11]
    refine fcW_bool (spec_l1In.fc l[k] lo hi) ?_
    cases hc : inB l[k] lo hi with
    | false => simp only [go_sem, ↓reduceIte, Nat.reduceEqDiff, Nat.reduceAdd, Nat.reduceMul, Nat.reduceBEq, Option.getD_none, Int.reduceToNat, Nat.reduceSub, Nat.reduceLT, Nat.reduceLeDiff, Int.reduceLE, Int.reduceLT, reduceCtorEq, not_all (p := fun n => inB n lo hi) hlt hc, k1, k2, k9, k10, h11]
    | true =>
      simp only [go_sem, ↓reduceIte, Nat.reduceEqDiff, Nat.reduceAdd, Nat.reduceMul, Nat.reduceBEq, Option.getD_none, Int.reduceToNat, Nat.reduceSub, Nat.reduceLT, Nat.reduceLeDiff, Int.reduceLE, Int.reduceLT, reduceCtorEq, hw, k1, k2, k9, k10, h11]
      exact ⟨k + 1, by dsimp only; omega, by omega, by simp only [go_sem, ↓reduceIte, Nat.reduceEqDiff, Nat.reduceAdd, Nat.reduceMul, Nat.reduceBEq, Option.getD_none, Int.reduceToNat, Nat.reduceSub, Nat.reduceLT, Nat.reduceLeDiff, Int.reduceLE, Int.reduceLT, reduceCtorEq, k1, k2, k9, k10, h11], all_take hlt hr hc⟩
  · have hi' : ¬ (k : Int) < l.length := by omega
    obtain rfl : k = l.length := by omega
    rw [List.take_length] at hr
    simp only [go_sem, ↓reduceIte, Nat.reduceEqDiff, Nat.reduceAdd, Nat.reduceMul, Nat.reduceBEq, Option.getD_none, Int.reduceToNat, Nat.reduceSub, Nat.reduceLT, Nat.reduceLeDiff, Int.reduceLE, Int.reduceLT, reduceCtorEq, hi', hr, k1, k2, k9, k10, h11]
end Go.Vm.Ytdebllkmblakkaa
/- Walks: a graph laid out in layers. -/
namespace Go.Vm.Ytdebllkmblakkaa
open Go Go.Vm
set_option maxRecDepth 10000
set_option maxHeartbeats 4000000
set_option linter.unusedSimpArgs false
set_option linter.unusedVariables false

theorem slices_Index__sArc_Arc.fc (l : List (Int × Int)) (x : Int × Int) (hl : l.length ≤ 4294967296) : FCt prog F_slices_Index__sArc_Arc [.ro, .ro] [arcs l, arcD x] (Ii (idxB (fun y => x == y) l)) [] := by
  refine fct_run slices_Index__sArc_Arc.ok rfl ?_
  simp only [go_sem, ↓reduceIte, Nat.reduceEqDiff, Nat.reduceAdd, Nat.reduceMul, Nat.reduceBEq, Option.getD_none, Int.reduceToNat, Nat.reduceSub, Nat.reduceLT, Nat.reduceLeDiff, Int.reduceLE, Int.reduceLT, reduceCtorEq]
  refine R_loop (α := Nat) (fun k s' M' => k ≤ l.length ∧ s' 8 = aI k ∧ (l.take k).all (fun y => !(x == y)) = true ∧ ∃ v, s' 3 = .ptr 64 v 0 none ∧ M'.m 64 = some (.box v (.dat none (arcD x)))) (fun k => l.length - k) 0 ⟨by omega, by simp only [go_sem, ↓reduceIte, Nat.reduceEqDiff, Nat.reduceAdd, Nat.reduceMul, Nat.reduceBEq, Option.getD_none, Int.reduceToNat, Nat.reduceSub, Nat.reduceLT, Nat.reduceLeDiff, Int.reduceLE, Int.reduceLT, reduceCtorEq]; rfl, by simp, _, by simp only [go_sem, ↓reduceIte, Nat.reduceEqDiff, Nat.reduceAdd, Nat.reduceMul, Nat.reduceBEq, Option.getD_none, Int.reduceToNat, Nat.reduceSub, Nat.reduceLT, Nat.reduceLeDiff, Int.reduceLE, Int.reduceLT, reduceCtorEq]; rfl, by simp only [go_sem, ↓reduceIte, Nat.reduceEqDiff, Nat.reduceAdd, Nat.reduceMul, Nat.reduceBEq, Option.getD_none, Int.reduceToNat, Nat.reduceSub, Nat.reduceLT, Nat.reduceLeDiff, Int.reduceLE, Int.reduceLT, reduceCtorEq]; try rfl⟩ ?_
  rintro k s' M' ⟨hk, h8, hr, v, g3, gm⟩ ho
  unfold slices_Index__sArc_Arc.b0
  have k0 : s' 0 = .dat none (arcs l) := by rw [ho 0 rfl]; simp only [go_sem, ↓reduceIte, Nat.reduceEqDiff, Nat.reduceAdd, Nat.reduceMul, Nat.reduceBEq, Option.getD_none, Int.reduceToNat, Nat.reduceSub, Nat.reduceLT, Nat.reduceLeDiff, Int.reduceLE, Int.reduceLT, reduceCtorEq]
  have k7 : s' 7 = aI l.length := by rw [ho 7 rfl]; simp only [go_sem, ↓reduceIte, Nat.reduceEqDiff, Nat.reduceAdd, Nat.reduceMul, Nat.reduceBEq, Option.getD_none, Int.reduceToNat, Nat.reduceSub, Nat.reduceLT, Nat.reduceLeDiff, Int.reduceLE, Int.reduceLT, reduceCtorEq]
  clear ho
  have tf : (true != false) = true := rfl
  by_cases hlt : k < l.length
  · have hi' : (k : Int) < l.length := by omega
    have ga : l[k]? = some l[k] := List.getElem?_eq_getElem hlt
    have hw : IntKind.i64.wrap (k + 1) = ((k + 1 : Nat) : Int) := wrap_k hlt (by omega)
    obtain ⟨x1, x2⟩ := x
    cases hc : ((x1, x2) == l[k]) with
    | true =>
      have e := eq_of_beq hc
      rw [← e] at ga
      simp only [go_sem, ↓reduceIte, Nat.reduceEqDiff, Nat.reduceAdd, Nat.reduceMul, Nat.reduceBEq, Option.getD_none, Int.reduceToNat, Nat.reduceSub, Nat.reduceLT, Nat.reduceLeDiff, Int.reduceLE, Int.reduceLT, reduceCtorEq, hi', ga, tf, idxB_some (p := fun y => (x1, x2) == y) hlt hr hc, k0, k7, h8, g3, gm]
    | false =>
      have hn : ¬ (x1 = l[k].1 ∧ x2 = l[k].2) := by
        rintro ⟨e1, e2⟩
        have : ((x1, x2) == l[k]) = true := by simp [e1, e2]
        rw [this] at hc; cases hc
      have hb : ((x1 == l[k].1) && (x2 == l[k].2)) = false := by
        rw [← Bool.not_eq_true, Bool.and_eq_true, beq_iff_eq, beq_iff_eq]; exact hn
      have hr' := all_take hlt hr (by rw [hc]; rfl)
      generalize l[k] = a at *
      simp only [go_sem, ↓reduceIte, Nat.reduceEqDiff, Nat.reduceAdd, Nat.reduceMul, Nat.reduceBEq, Option.getD_none, Int.reduceToNat, Nat.reduceSub, Nat.reduceLT, Nat.reduceLeDiff, Int.reduceLE, Int.reduceLT, reduceCtorEq, hi', ga, hb, hw, k0, k7, h8, g3, gm]
      exact ⟨k + 1, by dsimp only; omega, by omega, by simp only [go_sem, ↓reduceIte, Nat.reduceEqDiff, Nat.reduceAdd, Nat.reduceMul, Nat.reduceBEq, Option.getD_none, Int.reduceToNat, Nat.reduceSub, Nat.reduceLT, Nat.reduceLeDiff, Int.reduceLE, Int.reduceLT, reduceCtorEq, k0, k7, h8, g3, gm], hr', v, by simp only [go_sem, ↓reduceIte, Nat.reduceEqDiff, Nat.reduceAdd, Nat.reduceMul, Nat.reduceBEq, Option.getD_none, Int.reduceToNat, Nat.reduceSub, Nat.reduceLT, Nat.reduceLeDiff, Int.reduceLE, Int.reduceLT, reduceCtorEq, k0, k7, h8, g3, gm], by simp only [go_sem, ↓reduceIte, Nat.reduceEqDiff, Nat.reduceAdd, Nat.reduceMul, Nat.reduceBEq, Option.getD_none, Int.reduceToNat, Nat.reduceSub, Nat.reduceLT, Nat.reduceLeDiff, Int.reduceLE, Int.reduceLT, reduceCtorEq, k0, k7, h8, g3, gm]⟩
  · have hi' : ¬ (k : Int) < l.length := by omega
    obtain rfl : k = l.length := by omega
    rw [List.take_length] at hr
    simp only [go_sem, ↓reduceIte, Nat.reduceEqDiff, Nat.reduceAdd, Nat.reduceMul, Nat.reduceBEq, Option.getD_none, Int.reduceToNat, Nat.reduceSub, Nat.reduceLT, Nat.reduceLeDiff, Int.reduceLE, Int.reduceLT, reduceCtorEq, hi', idxB_none hr, k0, k7, h8, g3, gm]
theorem slices_Contains__sArc_Arc.fc (l : List (Int × Int)) (x y : Int) (hl : l.length ≤ 4294967296) : FCt prog F_slices_Contains__sArc_Arc [.ro, .ro] [arcs l, arcD (x, y)] (Bb (hasA l x y)) [] := by
  refine fct_run slices_Contains__sArc_Arc.ok rfl ?_
  have e : l.any (fun a => (x, y) == a) = hasA l x y := by
    unfold hasA
    congr 1; funext a
    rw [Bool.beq_comm]; rfl
  simp only [go_sem, ↓reduceIte, Nat.reduceEqDiff, Nat.reduceAdd, Nat.reduceMul, Nat.reduceBEq, Option.getD_none, Int.reduceToNat, Nat.reduceSub, Nat.reduceLT, Nat.reduceLeDiff, Int.reduceLE, Int.reduceLT, reduceCtorEq]
  refine fcW_int (slices_Index__sArc_Arc.fc l (x, y) hl) ?_
  simp only [go_sem, ↓reduceIte, Nat.reduceEqDiff, Nat.reduceAdd, Nat.reduceMul, Nat.reduceBEq, Option.getD_none, Int.reduceToNat, Nat.reduceSub, Nat.reduceLT, Nat.reduceLeDiff, Int.reduceLE, Int.reduceLT, reduceCtorEq, ge_iff_le, idxB_any, e]
theorem spec_l12Arc.fc (l : List (Int × Int)) (x y : Int) (hl : l.length ≤ 4294967296) : FCt prog F_spec_l12Arc [.ro, .ro, .ro] [arcs l, Ii x, Ii y] (Bb (hasA l x y)) [] := by
  refine fct_run spec_l12Arc.ok rfl ?_
  simp only [go_sem, ↓reduceIte, Nat.reduceEqDiff, Nat.reduceAdd, Nat.reduceMul, Nat.reduceBEq, Option.getD_none, Int.reduceToNat, Nat.reduceSub, Nat.reduceLT, Nat.reduceLeDiff, Int.reduceLE, Int.reduceLT, reduceCtorEq]
  refine R_loop (α := Nat) (fun k s' M' => k ≤ l.length ∧ s' 11 = aI k ∧ (l.take k).all (fun a => !(a.1 == x && a.2 == y)) = true) (fun k => l.length - k) 0 ⟨Nat.zero_le _, by simp only [go_sem, ↓reduceIte, Nat.reduceEqDiff, Nat.reduceAdd, Nat.reduceMul, Nat.reduceBEq, Option.getD_none, Int.reduceToNat, Nat.reduceSub, Nat.reduceLT, Nat.reduceLeDiff, Int.reduceLE, Int.reduceLT, reduceCtorEq]; rfl, rfl⟩ ?_
  rintro k s' M' ⟨hk, h11, hr⟩ ho
  unfold spec_l12Arc.b0
  have j1 : s' 1 = aI x := by rw [ho 1 rfl]; simp only [go_sem, ↓reduceIte, Nat.reduceEqDiff, Nat.reduceAdd, Nat.reduceMul, Nat.reduceBEq, Option.getD_none, Int.reduceToNat, Nat.reduceSub, Nat.reduceLT, Nat.reduceLeDiff, Int.reduceLE, Int.reduceLT, reduceCtorEq]
  have j2 : s' 2 = aI y := by rw [ho 2 rfl]; simp only [go_sem, ↓reduceIte, Nat.reduceEqDiff, Nat.reduceAdd, Nat.reduceMul, Nat.reduceBEq, Option.getD_none, Int.reduceToNat, Nat.reduceSub, Nat.reduceLT, Nat.reduceLeDiff, Int.reduceLE, Int.reduceLT, reduceCtorEq]
  have j9 : s' 9 = .dat none (arcs l) := by rw [ho 9 rfl]; simp only [go_sem, ↓reduceIte, Nat.reduceEqDiff, Nat.reduceAdd, Nat.reduceMul, Nat.reduceBEq, Option.getD_none, Int.reduceToNat, Nat.reduceSub, Nat.reduceLT, Nat.reduceLeDiff, Int.reduceLE, Int.reduceLT, reduceCtorEq]
  have j10 : s' 10 = aI l.length := by rw [ho 10 rfl]; simp only [go_sem, ↓reduceIte, Nat.reduceEqDiff, Nat.reduceAdd, Nat.reduceMul, Nat.reduceBEq, Option.getD_none, Int.reduceToNat, Nat.reduceSub, Nat.reduceLT, Nat.reduceLeDiff, Int.reduceLE, Int.reduceLT, reduceCtorEq]
  clear ho
  by_cases hlt : k < l.length
  · have hi' : (k : Int) < l.length := by omega
    have ga : l[k]? = some l[k] := List.getElem?_eq_getElem hlt
    have hw : IntKind.i64.wrap (k + 1) = ((k + 1 : Nat) : Int) := wrap_k hlt (by omega)
    cases h1 : (l[k].1 == x)
    · simp only [go_sem, ↓reduceIte, Nat.reduceEqDiff, Nat.reduceAdd, Nat.reduceMul, Nat.reduceBEq, Option.getD_none, Int.reduceToNat, Nat.reduceSub, Nat.reduceLT, Nat.reduceLeDiff, Int.reduceLE, Int.reduceLT, reduceCtorEq, hi', ga, h1, hw, j1, j2, j9, j10, h11]
      refine ⟨k + 1, by dsimp only; omega, by omega, by simp only [go_sem, ↓reduceIte, Nat.reduceEqDiff, Nat.reduceAdd, Nat.reduceMul, Nat.reduceBEq, Option.getD_none, Int.reduceToNat, Nat.reduceSub, Nat.reduceLT, Nat.reduceLeDiff, Int.reduceLE, Int.reduceLT, reduceCtorEq, j1, j2, j9, j10, h11], all_take hlt hr (by simp [h1])⟩
    · cases h2 : (l[k].2 == y)
      · simp only [go_sem, ↓reduceIte, Nat.reduceEqDiff, Nat.reduceAdd, Nat.reduceMul, Nat.reduceBEq, Option.getD_none, Int.reduceToNat, Nat.reduceSub, Nat.reduceLT, Nat.reduceLeDiff, Int.reduceLE, Int.reduceLT, reduceCtorEq, hi', ga, h1, h2, hw, j1, j2, j9, j10, h11]
        refine ⟨k + 1, by dsimp only; omega, by omega, by simp only [go_sem, ↓reduceIte, Nat.reduceEqDiff, Nat.reduceAdd, Nat.reduceMul, Nat.reduceBEq, Option.getD_none, Int.reduceToNat, Nat.reduceSub, Nat.reduceLT, Nat.reduceLeDiff, Int.reduceLE, Int.reduceLT, reduceCtorEq, j1, j2, j9, j10, h11], all_take hlt hr (by simp [h2])⟩
      · have : hasA l x y = true := by
          unfold hasA
          rw [List.any_eq_true]
          exact ⟨l[k], List.getElem_mem hlt, by rw [h1, h2]; rfl⟩
        simp only [go_sem, ↓reduceIte, Nat.reduceEqDiff, Nat.reduceAdd, Nat.reduceMul, Nat.reduceBEq, Option.getD_none, Int.reduceToNat, Nat.reduceSub, Nat.reduceLT, Nat.reduceLeDiff, Int.reduceLE, Int.reduceLT, reduceCtorEq, hi', ga, h1, h2, this, j1, j2, j9, j10, h11]; try rfl
  · have hi' : ¬ (k : Int) < l.length := by omega
    obtain rfl : k = l.length := by omega
    rw [List.take_length] at hr
    have : hasA l x y = false := by
      unfold hasA
      rw [List.any_eq_false]
      intro a ha
      have := List.all_eq_true.1 hr a ha
      rw [Bool.not_eq_true'] at this
      rw [this]; exact Bool.false_ne_true
    simp only [go_sem, ↓reduceIte, Nat.reduceEqDiff, Nat.reduceAdd, Nat.reduceMul, Nat.reduceBEq, Option.getD_none, Int.reduceToNat, Nat.reduceSub, Nat.reduceLT, Nat.reduceLeDiff, Int.reduceLE, Int.reduceLT, reduceCtorEq, Int.lt_irrefl, this, j1, j2, j9, j10, h11]; try rfl
theorem impl_isVertices_c1.fc (s n : Int) : FCt prog F_impl_isVertices_c1 [.ro, .ro] [Ii s, .ptr (Ii n)] (Bb (!inB s 0 (IntKind.i64.wrap (n - 1)))) [] := by
  refine fct_run impl_isVertices_c1.ok rfl ?_
  simp only [go_sem, ↓reduceIte, Nat.reduceEqDiff, Nat.reduceAdd, Nat.reduceMul, Nat.reduceBEq, Option.getD_none, Int.reduceToNat, Nat.reduceSub, Nat.reduceLT, Nat.reduceLeDiff, Int.reduceLE, Int.reduceLT, reduceCtorEq]
  refine fcW_bool (impl_in.fc ..) ?_
  simp only [go_sem, ↓reduceIte, Nat.reduceEqDiff, Nat.reduceAdd, Nat.reduceMul, Nat.reduceBEq, Option.getD_none, Int.reduceToNat, Nat.reduceSub, Nat.reduceLT, Nat.reduceLeDiff, Int.reduceLE, Int.reduceLT, reduceCtorEq]
theorem isV_any {n : Int} {w : List Int} : (!w.any (fun s => !inB s 0 (IntKind.i64.wrap (n - 1)))) = w.all fun s => inB s 0 (IntKind.i64.wrap (n - 1)) := by
  rw [List.not_any_eq_all_not]; congr 1; funext s; simp
theorem impl_isVertices.fc (n : Int) (w : List Int) (hw : w.length ≤ 4294967296) : FCt prog F_impl_isVertices [.ro, .ro] [Ii n, ints w] (Bb (isV n w)) [] := by
  refine fct_run impl_isVertices.ok rfl ?_
  unfold isV
  simp only [go_sem, ↓reduceIte, Nat.reduceEqDiff, Nat.reduceAdd, Nat.reduceMul, Nat.reduceBEq, Option.getD_none, Int.reduceToNat, Nat.reduceSub, Nat.reduceLT, Nat.reduceLeDiff, Int.reduceLE, Int.reduceLT, reduceCtorEq]
  refine fcW_bool (impl_in.fc ..) ?_
  cases h1 : inB w.length 1 8 with
  | false => simp only [go_sem, ↓reduceIte, Nat.reduceEqDiff, Nat.reduceAdd, Nat.reduceMul, Nat.reduceBEq, Option.getD_none, Int.reduceToNat, Nat.reduceSub, Nat.reduceLT, Nat.reduceLeDiff, Int.reduceLE, Int.reduceLT, reduceCtorEq]
  | true =>
    simp only [go_sem, ↓reduceIte, Nat.reduceEqDiff, Nat.reduceAdd, Nat.reduceMul, Nat.reduceBEq, Option.getD_none, Int.reduceToNat, Nat.reduceSub, Nat.reduceLT, Nat.reduceLeDiff, Int.reduceLE, Int.reduceLT, reduceCtorEq]
    refine fcW_bool (slices_ContainsFunc__sint_int.fc w F_impl_isVertices_c1 [.ptr (Ii n)] (fun s => !inB s 0 (IntKind.i64.wrap (n - 1))) hw (fun s _ => impl_isVertices_c1.fc s n)) ?_
    simp only [go_sem, ↓reduceIte, Nat.reduceEqDiff, Nat.reduceAdd, Nat.reduceMul, Nat.reduceBEq, Option.getD_none, Int.reduceToNat, Nat.reduceSub, Nat.reduceLT, Nat.reduceLeDiff, Int.reduceLE, Int.reduceLT, reduceCtorEq, isV_any]
theorem spec_l12Walk.fc (n : Int) (w : List Int) (hw : w.length ≤ 4294967296) : FCt prog F_spec_l12Walk [.ro, .ro] [Ii n, ints w] (Bb (inB n 1 6 && isV n w)) [] := by
  refine fct_run spec_l12Walk.ok rfl ?_
  unfold isV
  simp only [go_sem, ↓reduceIte, Nat.reduceEqDiff, Nat.reduceAdd, Nat.reduceMul, Nat.reduceBEq, Option.getD_none, Int.reduceToNat, Nat.reduceSub, Nat.reduceLT, Nat.reduceLeDiff, Int.reduceLE, Int.reduceLT, reduceCtorEq]
  refine fcW_bool (spec_l1In.fc ..) ?_
  cases h0 : inB n 1 6 with
  | false => simp only [go_sem, ↓reduceIte, Nat.reduceEqDiff, Nat.reduceAdd, Nat.reduceMul, Nat.reduceBEq, Option.getD_none, Int.reduceToNat, Nat.reduceSub, Nat.reduceLT, Nat.reduceLeDiff, Int.reduceLE, Int.reduceLT, reduceCtorEq]
  | true =>
    simp only [go_sem, ↓reduceIte, Nat.reduceEqDiff, Nat.reduceAdd, Nat.reduceMul, Nat.reduceBEq, Option.getD_none, Int.reduceToNat, Nat.reduceSub, Nat.reduceLT, Nat.reduceLeDiff, Int.reduceLE, Int.reduceLT, reduceCtorEq]
    refine fcW_bool (spec_l1In.fc ..) ?_
    cases h1 : inB w.length 1 8 with
    | false => simp only [go_sem, ↓reduceIte, Nat.reduceEqDiff, Nat.reduceAdd, Nat.reduceMul, Nat.reduceBEq, Option.getD_none, Int.reduceToNat, Nat.reduceSub, Nat.reduceLT, Nat.reduceLeDiff, Int.reduceLE, Int.reduceLT, reduceCtorEq]
    | true =>
      simp only [go_sem, ↓reduceIte, Nat.reduceEqDiff, Nat.reduceAdd, Nat.reduceMul, Nat.reduceBEq, Option.getD_none, Int.reduceToNat, Nat.reduceSub, Nat.reduceLT, Nat.reduceLeDiff, Int.reduceLE, Int.reduceLT, reduceCtorEq]
      refine fcW_bool (spec_l1All.fc w 0 _ hw) ?_
      simp only [go_sem, ↓reduceIte, Nat.reduceEqDiff, Nat.reduceAdd, Nat.reduceMul, Nat.reduceBEq, Option.getD_none, Int.reduceToNat, Nat.reduceSub, Nat.reduceLT, Nat.reduceLeDiff, Int.reduceLE, Int.reduceLT, reduceCtorEq]
end Go.Vm.Ytdebllkmblakkaa
/- Walks: choices out of bytes. -/
namespace Go.Vm.Ytdebllkmblakkaa
open Go Go.Vm
set_option maxRecDepth 10000
set_option maxHeartbeats 16000000
set_option linter.unusedSimpArgs false
set_option linter.unusedVariables false

abbrev Ub (n : Int) : D := .int .u8 n
theorem getD_sm {α : Type} {l : List α} {i : Nat} {d : α} (h : i < l.length) : l[i]? = some (l.getD i d) := by
  rw [List.getD_eq_getElem?_getD, List.getElem?_eq_getElem h]; rfl
structure CurD where
  code : List Int
  pos : Int
  seed : Int
abbrev CurD.d (c : CurD) : D := .agg [.rs 1 (c.code.map Ub), Ii c.pos, .int .u64 c.seed]
structure CurOk (c : CurD) (n : Nat) : Prop where
  p0 : 0 ≤ c.pos
  p1 : c.pos + n ≤ 4611686018427387904
  len : c.code.length ≤ 9223372036854775807
  by8 : ∀ b ∈ c.code, 0 ≤ b ∧ b ≤ 255
def seedV (c : CurD) (b : Int) : Int := IntKind.u64.wrap (IntKind.u64.wrap (IntKind.u64.wrap (c.seed * 6364136223846793005) + IntKind.u64.wrap b) + 1442695040888963407)
def byteV (c : CurD) : Int := if c.pos < c.code.length then c.code.getD c.pos.toNat 0 else 0
def foldV (s : Int) : Int := IntKind.i64.wrap (IntKind.u64.wrap (BitVec.ofInt IntKind.u64.bits (Int.fdiv s (2 ^ min (40 : Int).toNat IntKind.u64.bits)) &&& BitVec.ofInt IntKind.u64.bits 255).toNat)
def nextV (c : CurD) : Int := if c.pos + 1 ≤ c.code.length then byteV c else foldV (seedV c (byteV c))
def nextC (c : CurD) : CurD := ⟨c.code, c.pos + 1, seedV c (byteV c)⟩
theorem nextC_ok {c : CurD} {n : Nat} (h : CurOk c (n + 1)) : CurOk (nextC c) n := by
  obtain ⟨h1, h2, h3, h4⟩ := h
  refine ⟨?_, ?_, h3, h4⟩
  · show 0 ≤ c.pos + 1; omega
  · show c.pos + 1 + n ≤ _; omega
theorem byteV_in {c : CurD} {n : Nat} (h : CurOk c n) : 0 ≤ byteV c ∧ byteV c ≤ 255 := by
  unfold byteV
  split
  · rename_i hl
    have h0 := h.p0
    have hl' : c.pos.toNat < c.code.length := by omega
    rw [List.getD_eq_getElem?_getD, List.getElem?_eq_getElem hl']
    exact h.by8 _ (List.getElem_mem hl')
  · omega
theorem foldV_in (s : Int) : 0 ≤ foldV s ∧ foldV s ≤ 255 := by
  unfold foldV
  have hn : (BitVec.ofInt IntKind.u64.bits (Int.fdiv s (2 ^ min (40 : Int).toNat IntKind.u64.bits)) &&& BitVec.ofInt IntKind.u64.bits 255).toNat ≤ 255 := by
    rw [BitVec.toNat_and]
    have : (BitVec.ofInt IntKind.u64.bits 255).toNat = 255 := by decide
    rw [this]
    exact Nat.and_le_right
  generalize (BitVec.ofInt IntKind.u64.bits (Int.fdiv s (2 ^ min (40 : Int).toNat IntKind.u64.bits)) &&& BitVec.ofInt IntKind.u64.bits 255).toNat = m at hn
  have e : IntKind.u64.wrap (m : Int) = m := by simp [IntKind.wrap, IntKind.signed, IntKind.bits]; omega
  rw [e, wrap_in (by omega) (by omega)]
  omega
theorem nextV_in {c : CurD} {n : Nat} (h : CurOk c n) : 0 ≤ nextV c ∧ nextV c ≤ 255 := by
  unfold nextV
  split
  · exact byteV_in h
  · exact foldV_in _
theorem CurOk.mono {c : CurD} {n m : Nat} (h : CurOk c n) (hm : m ≤ n) : CurOk c m := ⟨h.p0, by have := h.p1; omega, h.len, h.by8⟩
theorem spec_pl1Cur_next.fc (c : CurD) {n : Nat} (h : CurOk c (n + 1)) : FCt prog F_spec_pl1Cur_next [.io] [.ptr c.d] (Ii (nextV c)) [.ptr (nextC c).d] := by
  refine fct_run spec_pl1Cur_next.ok rfl ?_
  have hb := byteV_in h
  obtain ⟨h1, h2, h3, h4⟩ := h
  obtain ⟨code, pos, seed⟩ := c
  dsimp only at h1 h2 h3
  have w1 : IntKind.i64.wrap (pos + 1) = pos + 1 := wrap_in (by omega) (by omega)
  unfold nextV nextC foldV
  by_cases hp : pos < code.length
  · have hl : pos.toNat < code.length := by omega
    have g : code[pos.toNat]? = some (code.getD pos.toNat 0) := getD_sm hl
    have e : byteV ⟨code, pos, seed⟩ = code.getD pos.toNat 0 := by unfold byteV; rw [if_pos hp]
    have hq : pos + 1 ≤ code.length := by omega
    rw [e] at hb ⊢
    have w2 : IntKind.i64.wrap (code.getD pos.toNat 0) = code.getD pos.toNat 0 := wrap_in (by omega) (by omega)
    rw [if_pos hq]
    unfold seedV
    simp only [go_sem, ↓reduceIte, Nat.reduceEqDiff, Nat.reduceAdd, Nat.reduceMul, Nat.reduceBEq, Option.getD_none, Int.reduceToNat, Nat.reduceSub, Nat.reduceLT, Nat.reduceLeDiff, Int.reduceLE, Int.reduceLT, reduceCtorEq, hp, h1, g, w1, w2, hq]; try rfl
  · have e : byteV ⟨code, pos, seed⟩ = 0 := by unfold byteV; rw [if_neg hp]
    have hq : ¬ pos + 1 ≤ code.length := by omega
    rw [e, if_neg hq]
    unfold seedV
    simp only [go_sem, ↓reduceIte, Nat.reduceEqDiff, Nat.reduceAdd, Nat.reduceMul, Nat.reduceBEq, Option.getD_none, Int.reduceToNat, Nat.reduceSub, Nat.reduceLT, Nat.reduceLeDiff, Int.reduceLE, Int.reduceLT, reduceCtorEq, hp, w1, hq]; try rfl
def pickV (c : CurD) (n : Int) : Int := if n ≤ 1 then 0 else if n > 200 then (nextV c * 256 + nextV (nextC c)) % n else nextV c % n
def pickC (c : CurD) (n : Int) : CurD := if n ≤ 1 then c else if n > 200 then nextC (nextC c) else nextC c
theorem pickV_in {c : CurD} {n : Int} (h : 1 ≤ n) : 0 ≤ pickV c n ∧ pickV c n < n := by
  unfold pickV
  split
  · omega
  · split
    · exact ⟨Int.emod_nonneg _ (by omega), Int.emod_lt_of_pos _ (by omega)⟩
    · exact ⟨Int.emod_nonneg _ (by omega), Int.emod_lt_of_pos _ (by omega)⟩
theorem pickC_ok {c : CurD} {n : Int} {m : Nat} (h : CurOk c (m + 2)) : CurOk (pickC c n) m := by
  unfold pickC
  split
  · exact h.mono (by omega)
  · split
    · exact nextC_ok (nextC_ok h)
    · exact (nextC_ok h).mono (by omega)
theorem spec_pl1Cur_pick.fc (c : CurD) (n : Int) {m : Nat} (h : CurOk c (m + 2)) : FCt prog F_spec_pl1Cur_pick [.io, .ro] [.ptr c.d, Ii n] (Ii (pickV c n)) [.ptr (pickC c n).d] := by
  refine fct_run spec_pl1Cur_pick.ok rfl ?_
  have c1 := spec_pl1Cur_next.fc c h
  have h2 := nextC_ok h
  have c2 := spec_pl1Cur_next.fc (nextC c) h2
  have b1 := nextV_in h
  have b2 := nextV_in h2
  unfold pickV pickC
  generalize nextV c = x at c1 b1 ⊢
  generalize nextV (nextC c) = y at c2 b2 ⊢
  generalize nextC (nextC c) = z at c2 ⊢
  generalize nextC c = u at c1 c2 ⊢
  by_cases h1 : n ≤ 1
  · simp only [go_sem, ↓reduceIte, Nat.reduceEqDiff, Nat.reduceAdd, Nat.reduceMul, Nat.reduceBEq, Option.getD_none, Int.reduceToNat, Nat.reduceSub, Nat.reduceLT, Nat.reduceLeDiff, Int.reduceLE, Int.reduceLT, reduceCtorEq, h1]
  · by_cases h3 : n > 200
    · have w1 : IntKind.i64.wrap (x * 256) = x * 256 := wrap_in (by omega) (by omega)
      have w2 : IntKind.i64.wrap (x * 256 + y) = x * 256 + y := wrap_in (by omega) (by omega)
      have w3 : Int.tmod (x * 256 + y) n = (x * 256 + y) % n := Int.tmod_eq_emod_of_nonneg (by omega)
      have n0 : ¬ n = 0 := by omega
      simp only [go_sem, ↓reduceIte, Nat.reduceEqDiff, Nat.reduceAdd, Nat.reduceMul, Nat.reduceBEq, Option.getD_none, Int.reduceToNat, Nat.reduceSub, Nat.reduceLT, Nat.reduceLeDiff, Int.reduceLE, Int.reduceLT, reduceCtorEq, h1, h3]
      refine coW_c c1 ?_
      simp only [go_sem, ↓reduceIte, Nat.reduceEqDiff, Nat.reduceAdd, Nat.reduceMul, Nat.reduceBEq, Option.getD_none, Int.reduceToNat, Nat.reduceSub, Nat.reduceLT, Nat.reduceLeDiff, Int.reduceLE, Int.reduceLT, reduceCtorEq, h1, h3, w1]
      refine coW_c c2 ?_
      simp only [go_sem, ↓reduceIte, Nat.reduceEqDiff, Nat.reduceAdd, Nat.reduceMul, Nat.reduceBEq, Option.getD_none, Int.reduceToNat, Nat.reduceSub, Nat.reduceLT, Nat.reduceLeDiff, Int.reduceLE, Int.reduceLT, reduceCtorEq, w1, w2, w3, n0, h1, h3]
    · have w3 : Int.tmod x n = x % n := Int.tmod_eq_emod_of_nonneg (by omega)
      have n0 : ¬ n = 0 := by omega
      simp only [go_sem, ↓reduceIte, Nat.reduceEqDiff, Nat.reduceAdd, Nat.reduceMul, Nat.reduceBEq, Option.getD_none, Int.reduceToNat, Nat.reduceSub, Nat.reduceLT, Nat.reduceLeDiff, Int.reduceLE, Int.reduceLT, reduceCtorEq, h1, h3]
      refine coW_c c1 ?_
      simp only [go_sem, ↓reduceIte, Nat.reduceEqDiff, Nat.reduceAdd, Nat.reduceMul, Nat.reduceBEq, Option.getD_none, Int.reduceToNat, Nat.reduceSub, Nat.reduceLT, Nat.reduceLeDiff, Int.reduceLE, Int.reduceLT, reduceCtorEq, h1, h3, w3, n0]
theorem spec_pl1Cur_one.fc (c : CurD) (n : Int) {m : Nat} (h : CurOk c (m + 2)) : FCt prog F_spec_pl1Cur_one [.io, .ro] [.ptr c.d, Ii n] (Bb (pickV c n == 0)) [.ptr (pickC c n).d] := by
  refine fct_run spec_pl1Cur_one.ok rfl ?_
  have c1 := spec_pl1Cur_pick.fc c n h
  generalize pickV c n = x at c1 ⊢
  generalize pickC c n = u at c1 ⊢
  simp only [go_sem, ↓reduceIte, Nat.reduceEqDiff, Nat.reduceAdd, Nat.reduceMul, Nat.reduceBEq, Option.getD_none, Int.reduceToNat, Nat.reduceSub, Nat.reduceLT, Nat.reduceLeDiff, Int.reduceLE, Int.reduceLT, reduceCtorEq]
  refine coW_c c1 ?_
  simp only [go_sem, ↓reduceIte, Nat.reduceEqDiff, Nat.reduceAdd, Nat.reduceMul, Nat.reduceBEq, Option.getD_none, Int.reduceToNat, Nat.reduceSub, Nat.reduceLT, Nat.reduceLeDiff, Int.reduceLE, Int.reduceLT, reduceCtorEq]
def amongV (c : CurD) (l : List Int) : Int := l.getD (pickV c l.length).toNat 0
theorem spec_pl1Cur_among.fc (c : CurD) (l : List Int) (hl : 1 ≤ l.length) (hl2 : l.length ≤ 1000) {m : Nat} (h : CurOk c (m + 2)) : FCt prog F_spec_pl1Cur_among [.io, .co] [.ptr c.d, ints l] (Ii (amongV c l)) [.ptr (pickC c l.length).d] := by
  refine fct_run spec_pl1Cur_among.ok rfl ?_
  have c1 := spec_pl1Cur_pick.fc c l.length h
  have hp := pickV_in (c := c) (n := l.length) (by omega)
  unfold amongV
  generalize pickV c l.length = x at c1 hp ⊢
  generalize pickC c l.length = u at c1 ⊢
  have g : l[x.toNat]? = some (l.getD x.toNat 0) := getD_sm (by omega)
  simp only [go_sem, ↓reduceIte, Nat.reduceEqDiff, Nat.reduceAdd, Nat.reduceMul, Nat.reduceBEq, Option.getD_none, Int.reduceToNat, Nat.reduceSub, Nat.reduceLT, Nat.reduceLeDiff, Int.reduceLE, Int.reduceLT, reduceCtorEq]
  refine coW_c c1 ?_
  simp only [go_sem, ↓reduceIte, Nat.reduceEqDiff, Nat.reduceAdd, Nat.reduceMul, Nat.reduceBEq, Option.getD_none, Int.reduceToNat, Nat.reduceSub, Nat.reduceLT, Nat.reduceLeDiff, Int.reduceLE, Int.reduceLT, reduceCtorEq, hp.1, hp.2, g]
theorem amongV_mem (c : CurD) (l : List Int) (hl : 1 ≤ l.length) : amongV c l ∈ l := by
  have hp := pickV_in (c := c) (n := l.length) (by omega)
  unfold amongV
  rw [List.getD_eq_getElem?_getD, List.getElem?_eq_getElem (by omega)]
  exact List.getElem_mem (by omega)
def curS (code : List Int) : CurD := ⟨code, 0, 0⟩
theorem curS_ok {code : List Int} (hl : code.length ≤ 9223372036854775807) (h8 : ∀ b ∈ code, 0 ≤ b ∧ b ≤ 255) {n : Nat} (hn : n ≤ 1000000) : CurOk (curS code) n :=
  ⟨Int.le_refl 0, by show (0 : Int) + n ≤ _; omega, hl, h8⟩
end Go.Vm.Ytdebllkmblakkaa
/- Walks: walks, laid walks, layers. -/
namespace Go.Vm.Ytdebllkmblakkaa
open Go Go.Vm
set_option maxRecDepth 10000
set_option maxHeartbeats 4000000
set_option linter.unusedSimpArgs false
set_option linter.unusedVariables false

def isWI (n : Int) (l : List (Int × Int)) (w : List Int) : D := if goodA n l && isV n w then .tup [Bb (walkK l w (w.length - 1)), Bb true] else .tup [Bb false, Bb false]
def laidWI (n : Int) (w : List Int) : D := if inB n 1 6 && isV n w then .tup [ints (laidI n w w.length), Bb true] else .tup [ints [], Bb false]
def layI (n : Int) (l : List (Int × Int)) (k : Int) : D := if goodA n l && inB k 1 8 then .tup [arcs (layO n l (k - 1).toNat), Bb true] else .tup [arcs [], Bb false]
theorem goodA_n {n : Int} {l : List (Int × Int)} (h : goodA n l = true) : inB n 1 6 = true := by
  unfold goodA at h
  simp only [Bool.and_eq_true] at h ⊢
  exact h.2.1
theorem impl_IsWalk.fc (n : Int) (l : List (Int × Int)) (w : List Int) (hl : l.length ≤ 4294967296) (hwl : w.length ≤ 4294967296) : FCt prog F_impl_IsWalk [.ro, .ro, .ro] [Ii n, arcs l, ints w] (isWI n l w) [] := by
  refine fct_run impl_IsWalk.ok rfl ?_
  unfold isWI
  simp only [go_sem, ↓reduceIte, Nat.reduceEqDiff, Nat.reduceAdd, Nat.reduceMul, Nat.reduceBEq, Option.getD_none, Int.reduceToNat, Nat.reduceSub, Nat.reduceLT, Nat.reduceLeDiff, Int.reduceLE, Int.reduceLT, reduceCtorEq]
  refine fcW_bool (impl_GoodArcs.fc n l hl) ?_
  cases hg : goodA n l with
  | false => simp only [go_sem, ↓reduceIte, Nat.reduceEqDiff, Nat.reduceAdd, Nat.reduceMul, Nat.reduceBEq, Option.getD_none, Int.reduceToNat, Nat.reduceSub, Nat.reduceLT, Nat.reduceLeDiff, Int.reduceLE, Int.reduceLT, reduceCtorEq]; try rfl
  | true =>
    simp only [go_sem, ↓reduceIte, Nat.reduceEqDiff, Nat.reduceAdd, Nat.reduceMul, Nat.reduceBEq, Option.getD_none, Int.reduceToNat, Nat.reduceSub, Nat.reduceLT, Nat.reduceLeDiff, Int.reduceLE, Int.reduceLT, reduceCtorEq]
    have gn := goodA_n hg
    refine fcW_bool (impl_isVertices.fc n w hwl) ?_
    cases hv : isV n w with
    | false => simp only [go_sem, ↓reduceIte, Nat.reduceEqDiff, Nat.reduceAdd, Nat.reduceMul, Nat.reduceBEq, Option.getD_none, Int.reduceToNat, Nat.reduceSub, Nat.reduceLT, Nat.reduceLeDiff, Int.reduceLE, Int.reduceLT, reduceCtorEq]; try rfl
    | true =>
      simp only [go_sem, ↓reduceIte, Nat.reduceEqDiff, Nat.reduceAdd, Nat.reduceMul, Nat.reduceBEq, Option.getD_none, Int.reduceToNat, Nat.reduceSub, Nat.reduceLT, Nat.reduceLeDiff, Int.reduceLE, Int.reduceLT, reduceCtorEq]
      obtain ⟨hn, hl2, hmem⟩ := goodA_mem hg
      obtain ⟨hw1, hw2⟩ := isV_mem hn hv
      refine R_loop (α := Nat) (fun k s' M' => k + 1 ≤ w.length ∧ s' 8 = aI ((k + 1 : Nat) : Int) ∧ walkK l w k = true) (fun k => w.length - k) 0 ⟨by omega, by simp only [go_sem, ↓reduceIte, Nat.reduceEqDiff, Nat.reduceAdd, Nat.reduceMul, Nat.reduceBEq, Option.getD_none, Int.reduceToNat, Nat.reduceSub, Nat.reduceLT, Nat.reduceLeDiff, Int.reduceLE, Int.reduceLT, reduceCtorEq]; rfl, rfl⟩ ?_
      rintro k s' M' ⟨hk, h8, hr⟩ ho
      unfold impl_IsWalk.b0
      have j1 : s' 1 = .dat none (arcs l) := by rw [ho 1 rfl]; simp only [go_sem, ↓reduceIte, Nat.reduceEqDiff, Nat.reduceAdd, Nat.reduceMul, Nat.reduceBEq, Option.getD_none, Int.reduceToNat, Nat.reduceSub, Nat.reduceLT, Nat.reduceLeDiff, Int.reduceLE, Int.reduceLT, reduceCtorEq]
      have j2 : s' 2 = .dat none (ints w) := by rw [ho 2 rfl]; simp only [go_sem, ↓reduceIte, Nat.reduceEqDiff, Nat.reduceAdd, Nat.reduceMul, Nat.reduceBEq, Option.getD_none, Int.reduceToNat, Nat.reduceSub, Nat.reduceLT, Nat.reduceLeDiff, Int.reduceLE, Int.reduceLT, reduceCtorEq]
      clear ho
      by_cases hlt : k + 1 < w.length
      · have hi' : ((k + 1 : Nat) : Int) < w.length := by omega
        have hi0 : (k : Int) < w.length := by omega
        have e1 : IntKind.i64.wrap (((k + 1 : Nat) : Int) - 1) = (k : Int) := by rw [wrap_in (by omega) (by omega)]; omega
        have hw3 : IntKind.i64.wrap (((k + 1 : Nat) : Int) + 1) = ((k + 1 + 1 : Nat) : Int) := by rw [wrap_in (by omega) (by omega)]; omega
        have ga : w[k]? = some (w.getD k 0) := getD_sm (by omega)
        have gb : w[k + 1]? = some (w.getD (k + 1) 0) := getD_sm hlt
        have st := walkK_succ (l := l) (w := w) (k := k)
        rw [hr, Bool.true_and] at st
        simp only [go_sem, ↓reduceIte, Nat.reduceEqDiff, Nat.reduceAdd, Nat.reduceMul, Nat.reduceBEq, Option.getD_none, Int.reduceToNat, Nat.reduceSub, Nat.reduceLT, Nat.reduceLeDiff, Int.reduceLE, Int.reduceLT, reduceCtorEq, hi', e1, hi0, ga, gb, j1, j2, h8]
        refine fcW_bool (slices_Contains__sArc_Arc.fc l (w.getD k 0) (w.getD (k + 1) 0) (by omega)) ?_
        cases hh : hasA l (w.getD k 0) (w.getD (k + 1) 0) with
        | false =>
          have nw := walkK_not (m := w.length - 1) (by omega) hh
          simp only [go_sem, ↓reduceIte, Nat.reduceEqDiff, Nat.reduceAdd, Nat.reduceMul, Nat.reduceBEq, Option.getD_none, Int.reduceToNat, Nat.reduceSub, Nat.reduceLT, Nat.reduceLeDiff, Int.reduceLE, Int.reduceLT, reduceCtorEq, nw, j1, j2, h8]
        | true =>
          rw [hh] at st
          simp only [go_sem, ↓reduceIte, Nat.reduceEqDiff, Nat.reduceAdd, Nat.reduceMul, Nat.reduceBEq, Option.getD_none, Int.reduceToNat, Nat.reduceSub, Nat.reduceLT, Nat.reduceLeDiff, Int.reduceLE, Int.reduceLT, reduceCtorEq, hw3, j1, j2, h8]
          exact ⟨k + 1, by dsimp only; omega, by omega, by simp only [go_sem, ↓reduceIte, Nat.reduceEqDiff, Nat.reduceAdd, Nat.reduceMul, Nat.reduceBEq, Option.getD_none, Int.reduceToNat, Nat.reduceSub, Nat.reduceLT, Nat.reduceLeDiff, Int.reduceLE, Int.reduceLT, reduceCtorEq, j1, j2, h8], st⟩
      · have hi' : ¬ ((k + 1 : Nat) : Int) < w.length := by omega
        obtain rfl : k = w.length - 1 := by omega
        simp only [go_sem, ↓reduceIte, Nat.reduceEqDiff, Nat.reduceAdd, Nat.reduceMul, Nat.reduceBEq, Option.getD_none, Int.reduceToNat, Nat.reduceSub, Nat.reduceLT, Nat.reduceLeDiff, Int.reduceLE, Int.reduceLT, reduceCtorEq, hi', hr, j1, j2, h8]
theorem spec_IsWalk.fc (n : Int) (l : List (Int × Int)) (w : List Int) (hl : l.length ≤ 4294967296) (hwl : w.length ≤ 4294967296) : FCt prog F_spec_IsWalk [.ro, .ro, .ro] [Ii n, arcs l, ints w] (isWI n l w) [] := by
  refine fct_run spec_IsWalk.ok rfl ?_
  unfold isWI
  simp only [go_sem, ↓reduceIte, Nat.reduceEqDiff, Nat.reduceAdd, Nat.reduceMul, Nat.reduceBEq, Option.getD_none, Int.reduceToNat, Nat.reduceSub, Nat.reduceLT, Nat.reduceLeDiff, Int.reduceLE, Int.reduceLT, reduceCtorEq]
  refine fcW_bool (spec_GoodArcs.fc n l hl) ?_
  cases hg : goodA n l with
  | false => simp only [go_sem, ↓reduceIte, Nat.reduceEqDiff, Nat.reduceAdd, Nat.reduceMul, Nat.reduceBEq, Option.getD_none, Int.reduceToNat, Nat.reduceSub, Nat.reduceLT, Nat.reduceLeDiff, Int.reduceLE, Int.reduceLT, reduceCtorEq]; try rfl
  | true =>
    simp only [go_sem, ↓reduceIte, Nat.reduceEqDiff, Nat.reduceAdd, Nat.reduceMul, Nat.reduceBEq, Option.getD_none, Int.reduceToNat, Nat.reduceSub, Nat.reduceLT, Nat.reduceLeDiff, Int.reduceLE, Int.reduceLT, reduceCtorEq]
    have gn := goodA_n hg
    refine fcW_bool (spec_l12Walk.fc n w hwl) ?_
    cases hv : isV n w with
    | false => simp only [go_sem, ↓reduceIte, Nat.reduceEqDiff, Nat.reduceAdd, Nat.reduceMul, Nat.reduceBEq, Option.getD_none, Int.reduceToNat, Nat.reduceSub, Nat.reduceLT, Nat.reduceLeDiff, Int.reduceLE, Int.reduceLT, reduceCtorEq, gn]; try rfl
    | true =>
      simp only [go_sem, ↓reduceIte, Nat.reduceEqDiff, Nat.reduceAdd, Nat.reduceMul, Nat.reduceBEq, Option.getD_none, Int.reduceToNat, Nat.reduceSub, Nat.reduceLT, Nat.reduceLeDiff, Int.reduceLE, Int.reduceLT, reduceCtorEq, gn]
      obtain ⟨hn, hl2, hmem⟩ := goodA_mem hg
      obtain ⟨hw1, hw2⟩ := isV_mem hn hv
      refine R_loop (α := Nat) (fun k s' M' => k + 1 ≤ w.length ∧ s' 8 = aI ((k + 1 : Nat) : Int) ∧ walkK l w k = true) (fun k => w.length - k) 0 ⟨by omega, by simp only [go_sem, ↓reduceIte, Nat.reduceEqDiff, Nat.reduceAdd, Nat.reduceMul, Nat.reduceBEq, Option.getD_none, Int.reduceToNat, Nat.reduceSub, Nat.reduceLT, Nat.reduceLeDiff, Int.reduceLE, Int.reduceLT, reduceCtorEq]; rfl, rfl⟩ ?_
      rintro k s' M' ⟨hk, h8, hr⟩ ho
      unfold spec_IsWalk.b0
      have j1 : s' 1 = .dat none (arcs l) := by rw [ho 1 rfl]; simp only [go_sem, ↓reduceIte, Nat.reduceEqDiff, Nat.reduceAdd, Nat.reduceMul, Nat.reduceBEq, Option.getD_none, Int.reduceToNat, Nat.reduceSub, Nat.reduceLT, Nat.reduceLeDiff, Int.reduceLE, Int.reduceLT, reduceCtorEq]
      have j2 : s' 2 = .dat none (ints w) := by rw [ho 2 rfl]; simp only [go_sem, ↓reduceIte, Nat.reduceEqDiff, Nat.reduceAdd, Nat.reduceMul, Nat.reduceBEq, Option.getD_none, Int.reduceToNat, Nat.reduceSub, Nat.reduceLT, Nat.reduceLeDiff, Int.reduceLE, Int.reduceLT, reduceCtorEq]
      clear ho
      by_cases hlt : k + 1 < w.length
      · have hi' : ((k + 1 : Nat) : Int) < w.length := by omega
        have hi0 : (k : Int) < w.length := by omega
        have e1 : IntKind.i64.wrap (((k + 1 : Nat) : Int) - 1) = (k : Int) := by rw [wrap_in (by omega) (by omega)]; omega
        have hw3 : IntKind.i64.wrap (((k + 1 : Nat) : Int) + 1) = ((k + 1 + 1 : Nat) : Int) := by rw [wrap_in (by omega) (by omega)]; omega
        have ga : w[k]? = some (w.getD k 0) := getD_sm (by omega)
        have gb : w[k + 1]? = some (w.getD (k + 1) 0) := getD_sm hlt
        have st := walkK_succ (l := l) (w := w) (k := k)
        rw [hr, Bool.true_and] at st
        simp only [go_sem, ↓reduceIte, Nat.reduceEqDiff, Nat.reduceAdd, Nat.reduceMul, Nat.reduceBEq, Option.getD_none, Int.reduceToNat, Nat.reduceSub, Nat.reduceLT, Nat.reduceLeDiff, Int.reduceLE, Int.reduceLT, reduceCtorEq, hi', e1, hi0, ga, gb, j1, j2, h8]
        refine fcW_bool (spec_l12Arc.fc l _ _ (by omega)) ?_
        cases hh : hasA l (w.getD k 0) (w.getD (k + 1) 0) with
        | false =>
          have nw := walkK_not (m := w.length - 1) (by omega) hh
          simp only [go_sem, ↓reduceIte, Nat.reduceEqDiff, Nat.reduceAdd, Nat.reduceMul, Nat.reduceBEq, Option.getD_none, Int.reduceToNat, Nat.reduceSub, Nat.reduceLT, Nat.reduceLeDiff, Int.reduceLE, Int.reduceLT, reduceCtorEq, nw, j1, j2, h8]
        | true =>
          rw [hh] at st
          simp only [go_sem, ↓reduceIte, Nat.reduceEqDiff, Nat.reduceAdd, Nat.reduceMul, Nat.reduceBEq, Option.getD_none, Int.reduceToNat, Nat.reduceSub, Nat.reduceLT, Nat.reduceLeDiff, Int.reduceLE, Int.reduceLT, reduceCtorEq, hw3, j1, j2, h8]
          exact ⟨k + 1, by dsimp only; omega, by omega, by simp only [go_sem, ↓reduceIte, Nat.reduceEqDiff, Nat.reduceAdd, Nat.reduceMul, Nat.reduceBEq, Option.getD_none, Int.reduceToNat, Nat.reduceSub, Nat.reduceLT, Nat.reduceLeDiff, Int.reduceLE, Int.reduceLT, reduceCtorEq, j1, j2, h8], st⟩
      · have hi' : ¬ ((k + 1 : Nat) : Int) < w.length := by omega
        obtain rfl : k = w.length - 1 := by omega
        simp only [go_sem, ↓reduceIte, Nat.reduceEqDiff, Nat.reduceAdd, Nat.reduceMul, Nat.reduceBEq, Option.getD_none, Int.reduceToNat, Nat.reduceSub, Nat.reduceLT, Nat.reduceLeDiff, Int.reduceLE, Int.reduceLT, reduceCtorEq, hi', hr, j1, j2, h8]
theorem impl_LaidWalk.fc (n : Int) (w : List Int) (hwl : w.length ≤ 4294967296) : FCt prog F_impl_LaidWalk [.ro, .ro] [Ii n, ints w] (laidWI n w) [] := by
  refine fct_run impl_LaidWalk.ok rfl ?_
  unfold laidWI
  simp only [go_sem, ↓reduceIte, Nat.reduceEqDiff, Nat.reduceAdd, Nat.reduceMul, Nat.reduceBEq, Option.getD_none, Int.reduceToNat, Nat.reduceSub, Nat.reduceLT, Nat.reduceLeDiff, Int.reduceLE, Int.reduceLT, reduceCtorEq]
  refine fcW_bool (impl_isSpots.fc n) ?_
  cases h0 : inB n 1 6 with
  | false => simp only [go_sem, ↓reduceIte, Nat.reduceEqDiff, Nat.reduceAdd, Nat.reduceMul, Nat.reduceBEq, Option.getD_none, Int.reduceToNat, Nat.reduceSub, Nat.reduceLT, Nat.reduceLeDiff, Int.reduceLE, Int.reduceLT, reduceCtorEq]; try rfl
  | true =>
  simp only [go_sem, ↓reduceIte, Nat.reduceEqDiff, Nat.reduceAdd, Nat.reduceMul, Nat.reduceBEq, Option.getD_none, Int.reduceToNat, Nat.reduceSub, Nat.reduceLT, Nat.reduceLeDiff, Int.reduceLE, Int.reduceLT, reduceCtorEq]
  refine fcW_bool (impl_isVertices.fc n w hwl) ?_
  cases hv : isV n w with
  | false => simp only [go_sem, ↓reduceIte, Nat.reduceEqDiff, Nat.reduceAdd, Nat.reduceMul, Nat.reduceBEq, Option.getD_none, Int.reduceToNat, Nat.reduceSub, Nat.reduceLT, Nat.reduceLeDiff, Int.reduceLE, Int.reduceLT, reduceCtorEq]; try rfl
  | true =>
    simp only [go_sem, ↓reduceIte, Nat.reduceEqDiff, Nat.reduceAdd, Nat.reduceMul, Nat.reduceBEq, Option.getD_none, Int.reduceToNat, Nat.reduceSub, Nat.reduceLT, Nat.reduceLeDiff, Int.reduceLE, Int.reduceLT, reduceCtorEq]
    obtain ⟨hw1, hw2⟩ := isV_mem (by simp only [inB, Bool.and_eq_true, decide_eq_true_eq] at h0; omega) hv
    simp only [inB, Bool.and_eq_true, decide_eq_true_eq] at h0
    refine R_loop (α := Nat) (fun k s' M' => k ≤ w.length ∧ s' 20 = aI k ∧ ∃ v, s' 6 = .sl 1984 v 0 k 1 ∧ M'.m 1984 = some (.arr v true 1 ((laidI n w k).map Ii))) (fun k => w.length - k) 0 ⟨Nat.zero_le _, by simp only [go_sem, ↓reduceIte, Nat.reduceEqDiff, Nat.reduceAdd, Nat.reduceMul, Nat.reduceBEq, Option.getD_none, Int.reduceToNat, Nat.reduceSub, Nat.reduceLT, Nat.reduceLeDiff, Int.reduceLE, Int.reduceLT, reduceCtorEq]; rfl, _, by simp only [go_sem, ↓reduceIte, Nat.reduceEqDiff, Nat.reduceAdd, Nat.reduceMul, Nat.reduceBEq, Option.getD_none, Int.reduceToNat, Nat.reduceSub, Nat.reduceLT, Nat.reduceLeDiff, Int.reduceLE, Int.reduceLT, reduceCtorEq]; rfl, by simp only [go_sem, ↓reduceIte, Nat.reduceEqDiff, Nat.reduceAdd, Nat.reduceMul, Nat.reduceBEq, Option.getD_none, Int.reduceToNat, Nat.reduceSub, Nat.reduceLT, Nat.reduceLeDiff, Int.reduceLE, Int.reduceLT, reduceCtorEq]; rfl⟩ ?_
    rintro k s' M' ⟨hk, h8, v, g6, gm⟩ ho
    unfold impl_LaidWalk.b0
    have j0 : s' 0 = aI n := by rw [ho 0 rfl]; simp only [go_sem, ↓reduceIte, Nat.reduceEqDiff, Nat.reduceAdd, Nat.reduceMul, Nat.reduceBEq, Option.getD_none, Int.reduceToNat, Nat.reduceSub, Nat.reduceLT, Nat.reduceLeDiff, Int.reduceLE, Int.reduceLT, reduceCtorEq]
    have j18 : s' 18 = .dat none (ints w) := by rw [ho 18 rfl]; simp only [go_sem, ↓reduceIte, Nat.reduceEqDiff, Nat.reduceAdd, Nat.reduceMul, Nat.reduceBEq, Option.getD_none, Int.reduceToNat, Nat.reduceSub, Nat.reduceLT, Nat.reduceLeDiff, Int.reduceLE, Int.reduceLT, reduceCtorEq]
    have j19 : s' 19 = aI w.length := by rw [ho 19 rfl]; simp only [go_sem, ↓reduceIte, Nat.reduceEqDiff, Nat.reduceAdd, Nat.reduceMul, Nat.reduceBEq, Option.getD_none, Int.reduceToNat, Nat.reduceSub, Nat.reduceLT, Nat.reduceLeDiff, Int.reduceLE, Int.reduceLT, reduceCtorEq]
    clear ho
    have ll : (laidI n w k).length = k := laidI_len
    have tk : ((laidI n w k).map Ii).take k = (laidI n w k).map Ii := List.take_of_length_le (by simp [ll])
    by_cases hlt : k < w.length
    · have hi' : (k : Int) < w.length := by omega
      have hw3 : IntKind.i64.wrap ((k : Int) + 1) = ((k + 1 : Nat) : Int) := wrap_k hlt (by omega)
      have ga : w[k]? = some (w.getD k 0) := getD_sm hlt
      have wk := hw2 k hlt
      have si := spot_in (n := n) (k := k) (by omega) (by omega) wk
      have m1 : IntKind.i64.wrap ((k : Int) * n) = (k : Int) * n := wrap_in (by omega) (by omega)
      have m2 : IntKind.i64.wrap ((k : Int) * n + w.getD k 0) = spot n k (w.getD k 0) := wrap_in (x := spot n k (w.getD k 0)) (by omega) (by omega)
      have sn : (laidI n w k).map Ii ++ [Ii (spot n k (w.getD k 0))] = (laidI n w (k + 1)).map Ii := by rw [laidI_succ]; simp
      have hbb : (k + 1) * 8 ≤ 70368744177664 := by omega
      simp only [go_sem, ↓reduceIte, Nat.reduceEqDiff, Nat.reduceAdd, Nat.reduceMul, Nat.reduceBEq, Option.getD_none, Int.reduceToNat, Nat.reduceSub, Nat.reduceLT, Nat.reduceLeDiff, Int.reduceLE, Int.reduceLT, reduceCtorEq, hi', ga, m1, m2, hw3, hbb, tk, j0, j18, j19, h8, g6, gm, ll]
      exact ⟨k + 1, by dsimp only; omega, by omega, by simp only [go_sem, ↓reduceIte, Nat.reduceEqDiff, Nat.reduceAdd, Nat.reduceMul, Nat.reduceBEq, Option.getD_none, Int.reduceToNat, Nat.reduceSub, Nat.reduceLT, Nat.reduceLeDiff, Int.reduceLE, Int.reduceLT, reduceCtorEq, j0, j18, j19, h8, g6, gm, ll], _, by simp only [go_sem, ↓reduceIte, Nat.reduceEqDiff, Nat.reduceAdd, Nat.reduceMul, Nat.reduceBEq, Option.getD_none, Int.reduceToNat, Nat.reduceSub, Nat.reduceLT, Nat.reduceLeDiff, Int.reduceLE, Int.reduceLT, reduceCtorEq, j0, j18, j19, h8, g6, gm, ll]; rfl, by simp only [go_sem, ↓reduceIte, Nat.reduceEqDiff, Nat.reduceAdd, Nat.reduceMul, Nat.reduceBEq, Option.getD_none, Int.reduceToNat, Nat.reduceSub, Nat.reduceLT, Nat.reduceLeDiff, Int.reduceLE, Int.reduceLT, reduceCtorEq, j0, j18, j19, h8, g6, gm, ll]; rw [← sn]⟩
    · obtain rfl : k = w.length := by omega
      simp only [go_sem, ↓reduceIte, Nat.reduceEqDiff, Nat.reduceAdd, Nat.reduceMul, Nat.reduceBEq, Option.getD_none, Int.reduceToNat, Nat.reduceSub, Nat.reduceLT, Nat.reduceLeDiff, Int.reduceLE, Int.reduceLT, reduceCtorEq, Int.lt_irrefl, tk, j0, j18, j19, h8, g6, gm, ll]
theorem spec_LaidWalk.fc (n : Int) (w : List Int) (hwl : w.length ≤ 4294967296) : FCt prog F_spec_LaidWalk [.ro, .ro] [Ii n, ints w] (laidWI n w) [] := by
  refine fct_run spec_LaidWalk.ok rfl ?_
  unfold laidWI
  simp only [go_sem, ↓reduceIte, Nat.reduceEqDiff, Nat.reduceAdd, Nat.reduceMul, Nat.reduceBEq, Option.getD_none, Int.reduceToNat, Nat.reduceSub, Nat.reduceLT, Nat.reduceLeDiff, Int.reduceLE, Int.reduceLT, reduceCtorEq]
  refine fcW_bool (spec_l12Walk.fc n w hwl) ?_
  cases h0 : inB n 1 6 with
  | false => simp only [go_sem, ↓reduceIte, Nat.reduceEqDiff, Nat.reduceAdd, Nat.reduceMul, Nat.reduceBEq, Option.getD_none, Int.reduceToNat, Nat.reduceSub, Nat.reduceLT, Nat.reduceLeDiff, Int.reduceLE, Int.reduceLT, reduceCtorEq]; try rfl
  | true =>
  cases hv : isV n w with
  | false => simp only [go_sem, ↓reduceIte, Nat.reduceEqDiff, Nat.reduceAdd, Nat.reduceMul, Nat.reduceBEq, Option.getD_none, Int.reduceToNat, Nat.reduceSub, Nat.reduceLT, Nat.reduceLeDiff, Int.reduceLE, Int.reduceLT, reduceCtorEq]; try rfl
  | true =>
    simp only [go_sem, ↓reduceIte, Nat.reduceEqDiff, Nat.reduceAdd, Nat.reduceMul, Nat.reduceBEq, Option.getD_none, Int.reduceToNat, Nat.reduceSub, Nat.reduceLT, Nat.reduceLeDiff, Int.reduceLE, Int.reduceLT, reduceCtorEq]
    obtain ⟨hw1, hw2⟩ := isV_mem (by simp only [inB, Bool.and_eq_true, decide_eq_true_eq] at h0; omega) hv
    simp only [inB, Bool.and_eq_true, decide_eq_true_eq] at h0
    refine R_loop (α := Nat) (fun k s' M' => k ≤ w.length ∧ s' 15 = aI k ∧ ∃ v, s' 6 = .sl 1664 v 0 k 1 ∧ M'.m 1664 = some (.arr v true 1 ((laidI n w k).map Ii))) (fun k => w.length - k) 0 ⟨Nat.zero_le _, by simp only [go_sem, ↓reduceIte, Nat.reduceEqDiff, Nat.reduceAdd, Nat.reduceMul, Nat.reduceBEq, Option.getD_none, Int.reduceToNat, Nat.reduceSub, Nat.reduceLT, Nat.reduceLeDiff, Int.reduceLE, Int.reduceLT, reduceCtorEq]; rfl, _, by simp only [go_sem, ↓reduceIte, Nat.reduceEqDiff, Nat.reduceAdd, Nat.reduceMul, Nat.reduceBEq, Option.getD_none, Int.reduceToNat, Nat.reduceSub, Nat.reduceLT, Nat.reduceLeDiff, Int.reduceLE, Int.reduceLT, reduceCtorEq]; rfl, by simp only [go_sem, ↓reduceIte, Nat.reduceEqDiff, Nat.reduceAdd, Nat.reduceMul, Nat.reduceBEq, Option.getD_none, Int.reduceToNat, Nat.reduceSub, Nat.reduceLT, Nat.reduceLeDiff, Int.reduceLE, Int.reduceLT, reduceCtorEq]; rfl⟩ ?_
    rintro k s' M' ⟨hk, h8, v, g6, gm⟩ ho
    unfold spec_LaidWalk.b0
    have j0 : s' 0 = aI n := by rw [ho 0 rfl]; simp only [go_sem, ↓reduceIte, Nat.reduceEqDiff, Nat.reduceAdd, Nat.reduceMul, Nat.reduceBEq, Option.getD_none, Int.reduceToNat, Nat.reduceSub, Nat.reduceLT, Nat.reduceLeDiff, Int.reduceLE, Int.reduceLT, reduceCtorEq]
    have j13 : s' 13 = .dat none (ints w) := by rw [ho 13 rfl]; simp only [go_sem, ↓reduceIte, Nat.reduceEqDiff, Nat.reduceAdd, Nat.reduceMul, Nat.reduceBEq, Option.getD_none, Int.reduceToNat, Nat.reduceSub, Nat.reduceLT, Nat.reduceLeDiff, Int.reduceLE, Int.reduceLT, reduceCtorEq]
    have j14 : s' 14 = aI w.length := by rw [ho 14 rfl]; simp only [go_sem, ↓reduceIte, Nat.reduceEqDiff, Nat.reduceAdd, Nat.reduceMul, Nat.reduceBEq, Option.getD_none, Int.reduceToNat, Nat.reduceSub, Nat.reduceLT, Nat.reduceLeDiff, Int.reduceLE, Int.reduceLT, reduceCtorEq]
    clear ho
    have ll : (laidI n w k).length = k := laidI_len
    have tk : ((laidI n w k).map Ii).take k = (laidI n w k).map Ii := List.take_of_length_le (by simp [ll])
    by_cases hlt : k < w.length
    · have hi' : (k : Int) < w.length := by omega
      have hw3 : IntKind.i64.wrap ((k : Int) + 1) = ((k + 1 : Nat) : Int) := wrap_k hlt (by omega)
      have ga : w[k]? = some (w.getD k 0) := getD_sm hlt
      have wk := hw2 k hlt
      have si := spot_in (n := n) (k := k) (by omega) (by omega) wk
      have m1 : IntKind.i64.wrap ((k : Int) * n) = (k : Int) * n := wrap_in (by omega) (by omega)
      have m2 : IntKind.i64.wrap ((k : Int) * n + w.getD k 0) = spot n k (w.getD k 0) := wrap_in (x := spot n k (w.getD k 0)) (by omega) (by omega)
      have sn : (laidI n w k).map Ii ++ [Ii (spot n k (w.getD k 0))] = (laidI n w (k + 1)).map Ii := by rw [laidI_succ]; simp
      have hbb : (k + 1) * 8 ≤ 70368744177664 := by omega
      simp only [go_sem, ↓reduceIte, Nat.reduceEqDiff, Nat.reduceAdd, Nat.reduceMul, Nat.reduceBEq, Option.getD_none, Int.reduceToNat, Nat.reduceSub, Nat.reduceLT, Nat.reduceLeDiff, Int.reduceLE, Int.reduceLT, reduceCtorEq, hi', ga, m1, m2, hw3, hbb, tk, j0, j13, j14, h8, g6, gm, ll]
      exact ⟨k + 1, by dsimp only; omega, by omega, by simp only [go_sem, ↓reduceIte, Nat.reduceEqDiff, Nat.reduceAdd, Nat.reduceMul, Nat.reduceBEq, Option.getD_none, Int.reduceToNat, Nat.reduceSub, Nat.reduceLT, Nat.reduceLeDiff, Int.reduceLE, Int.reduceLT, reduceCtorEq, j0, j13, j14, h8, g6, gm, ll], _, by simp only [go_sem, ↓reduceIte, Nat.reduceEqDiff, Nat.reduceAdd, Nat.reduceMul, Nat.reduceBEq, Option.getD_none, Int.reduceToNat, Nat.reduceSub, Nat.reduceLT, Nat.reduceLeDiff, Int.reduceLE, Int.reduceLT, reduceCtorEq, j0, j13, j14, h8, g6, gm, ll]; rfl, by simp only [go_sem, ↓reduceIte, Nat.reduceEqDiff, Nat.reduceAdd, Nat.reduceMul, Nat.reduceBEq, Option.getD_none, Int.reduceToNat, Nat.reduceSub, Nat.reduceLT, Nat.reduceLeDiff, Int.reduceLE, Int.reduceLT, reduceCtorEq, j0, j13, j14, h8, g6, gm, ll]; rw [← sn]⟩
    · obtain rfl : k = w.length := by omega
      simp only [go_sem, ↓reduceIte, Nat.reduceEqDiff, Nat.reduceAdd, Nat.reduceMul, Nat.reduceBEq, Option.getD_none, Int.reduceToNat, Nat.reduceSub, Nat.reduceLT, Nat.reduceLeDiff, Int.reduceLE, Int.reduceLT, reduceCtorEq, Int.lt_irrefl, tk, j0, j13, j14, h8, g6, gm, ll]
theorem impl_LayOut.fc (n : Int) (l : List (Int × Int)) (g : Int) (hl : l.length ≤ 4294967296) : FCt prog F_impl_LayOut [.ro, .ro, .ro] [Ii n, arcs l, Ii g] (layI n l g) [] := by
  refine fct_run impl_LayOut.ok rfl ?_
  unfold layI
  simp only [go_sem, ↓reduceIte, Nat.reduceEqDiff, Nat.reduceAdd, Nat.reduceMul, Nat.reduceBEq, Option.getD_none, Int.reduceToNat, Nat.reduceSub, Nat.reduceLT, Nat.reduceLeDiff, Int.reduceLE, Int.reduceLT, reduceCtorEq]
  refine fcW_bool (impl_GoodArcs.fc n l hl) ?_
  cases hg : goodA n l with
  | false => simp only [go_sem, ↓reduceIte, Nat.reduceEqDiff, Nat.reduceAdd, Nat.reduceMul, Nat.reduceBEq, Option.getD_none, Int.reduceToNat, Nat.reduceSub, Nat.reduceLT, Nat.reduceLeDiff, Int.reduceLE, Int.reduceLT, reduceCtorEq]; try rfl
  | true =>
    simp only [go_sem, ↓reduceIte, Nat.reduceEqDiff, Nat.reduceAdd, Nat.reduceMul, Nat.reduceBEq, Option.getD_none, Int.reduceToNat, Nat.reduceSub, Nat.reduceLT, Nat.reduceLeDiff, Int.reduceLE, Int.reduceLT, reduceCtorEq]
    refine fcW_bool (impl_in.fc ..) ?_
    cases h8 : inB g 1 8 with
    | false => simp only [go_sem, ↓reduceIte, Nat.reduceEqDiff, Nat.reduceAdd, Nat.reduceMul, Nat.reduceBEq, Option.getD_none, Int.reduceToNat, Nat.reduceSub, Nat.reduceLT, Nat.reduceLeDiff, Int.reduceLE, Int.reduceLT, reduceCtorEq]; try rfl
    | true =>
      obtain ⟨hn, hl2, hmem⟩ := goodA_mem hg
      simp only [inB, Bool.and_eq_true, decide_eq_true_eq] at h8
      obtain ⟨G, rfl⟩ : ∃ N : Nat, g = ((N + 1 : Nat) : Int) := ⟨(g - 1).toNat, by omega⟩
      have wg : IntKind.i64.wrap (((G + 1 : Nat) : Int) - 1) = (G : Int) := by rw [wrap_in (by omega) (by omega)]; omega
      have e1 : (((G + 1 : Nat) : Int) - 1).toNat = G := by omega
      rw [e1]
      have ll : ∀ k, (layO n l k).length = k * l.length := fun k => layO_len
      simp only [go_sem, ↓reduceIte, Nat.reduceEqDiff, Nat.reduceAdd, Nat.reduceMul, Nat.reduceBEq, Option.getD_none, Int.reduceToNat, Nat.reduceSub, Nat.reduceLT, Nat.reduceLeDiff, Int.reduceLE, Int.reduceLT, reduceCtorEq, wg]
      refine R_loop (α := Nat) (fun k s' M' => k ≤ G ∧ s' 23 = aI k ∧ ∃ v, s' 8 = .sl 2880 v 0 (layO n l k).length 2 ∧ M'.m 2880 = some (.arr v true 2 ((layO n l k).map arcD))) (fun k => G - k) 0 ⟨Nat.zero_le _, by simp only [go_sem, ↓reduceIte, Nat.reduceEqDiff, Nat.reduceAdd, Nat.reduceMul, Nat.reduceBEq, Option.getD_none, Int.reduceToNat, Nat.reduceSub, Nat.reduceLT, Nat.reduceLeDiff, Int.reduceLE, Int.reduceLT, reduceCtorEq]; rfl, _, by simp only [go_sem, ↓reduceIte, Nat.reduceEqDiff, Nat.reduceAdd, Nat.reduceMul, Nat.reduceBEq, Option.getD_none, Int.reduceToNat, Nat.reduceSub, Nat.reduceLT, Nat.reduceLeDiff, Int.reduceLE, Int.reduceLT, reduceCtorEq]; rfl, by simp only [go_sem, ↓reduceIte, Nat.reduceEqDiff, Nat.reduceAdd, Nat.reduceMul, Nat.reduceBEq, Option.getD_none, Int.reduceToNat, Nat.reduceSub, Nat.reduceLT, Nat.reduceLeDiff, Int.reduceLE, Int.reduceLT, reduceCtorEq]; rfl⟩ ?_
      rintro k s' M' ⟨hk, g8, v, g6, gm⟩ ho
      unfold impl_LayOut.b1
      have j0 : s' 0 = aI n := by rw [ho 0 rfl]; simp only [go_sem, ↓reduceIte, Nat.reduceEqDiff, Nat.reduceAdd, Nat.reduceMul, Nat.reduceBEq, Option.getD_none, Int.reduceToNat, Nat.reduceSub, Nat.reduceLT, Nat.reduceLeDiff, Int.reduceLE, Int.reduceLT, reduceCtorEq]
      have j1 : s' 1 = .dat none (arcs l) := by rw [ho 1 rfl]; simp only [go_sem, ↓reduceIte, Nat.reduceEqDiff, Nat.reduceAdd, Nat.reduceMul, Nat.reduceBEq, Option.getD_none, Int.reduceToNat, Nat.reduceSub, Nat.reduceLT, Nat.reduceLeDiff, Int.reduceLE, Int.reduceLT, reduceCtorEq]
      have j22 : s' 22 = aI G := by rw [ho 22 rfl]; simp only [go_sem, ↓reduceIte, Nat.reduceEqDiff, Nat.reduceAdd, Nat.reduceMul, Nat.reduceBEq, Option.getD_none, Int.reduceToNat, Nat.reduceSub, Nat.reduceLT, Nat.reduceLeDiff, Int.reduceLE, Int.reduceLT, reduceCtorEq]
      clear ho
      by_cases hlt : k < G
      · have hi' : (k : Int) < G := by omega
        have hw3 : IntKind.i64.wrap ((k : Int) + 1) = ((k + 1 : Nat) : Int) := wrap_k hlt (by omega)
        simp only [go_sem, ↓reduceIte, Nat.reduceEqDiff, Nat.reduceAdd, Nat.reduceMul, Nat.reduceBEq, Option.getD_none, Int.reduceToNat, Nat.reduceSub, Nat.reduceLT, Nat.reduceLeDiff, Int.reduceLE, Int.reduceLT, reduceCtorEq, hi', wg, j0, j1, j22, g8, g6, gm]
        have s0 : layA n [] k = [] := rfl
        refine R_cut (fun e s' M' => e = .ex 2 ∧ s' 23 = aI k ∧ ∃ v, s' 8 = .sl 2880 v 0 (layO n l (k + 1)).length 2 ∧ M'.m 2880 = some (.arr v true 2 ((layO n l (k + 1)).map arcD))) ?_ ?_
        · refine R_loop (α := Nat) (fun i s' M' => i ≤ l.length ∧ s' 28 = aI i ∧ ∃ v, s' 8 = .sl 2880 v 0 (layO n l k ++ layA n (l.take i) k).length 2 ∧ M'.m 2880 = some (.arr v true 2 ((layO n l k ++ layA n (l.take i) k).map arcD))) (fun i => l.length - i) 0 ⟨Nat.zero_le _, by simp only [go_sem, ↓reduceIte, Nat.reduceEqDiff, Nat.reduceAdd, Nat.reduceMul, Nat.reduceBEq, Option.getD_none, Int.reduceToNat, Nat.reduceSub, Nat.reduceLT, Nat.reduceLeDiff, Int.reduceLE, Int.reduceLT, reduceCtorEq, j0, j1, j22, g8, g6, gm]; rfl, v, by simp only [go_sem, ↓reduceIte, Nat.reduceEqDiff, Nat.reduceAdd, Nat.reduceMul, Nat.reduceBEq, Option.getD_none, Int.reduceToNat, Nat.reduceSub, Nat.reduceLT, Nat.reduceLeDiff, Int.reduceLE, Int.reduceLT, reduceCtorEq, s0, j0, j1, j22, g8, g6, gm], by simp only [go_sem, ↓reduceIte, Nat.reduceEqDiff, Nat.reduceAdd, Nat.reduceMul, Nat.reduceBEq, Option.getD_none, Int.reduceToNat, Nat.reduceSub, Nat.reduceLT, Nat.reduceLeDiff, Int.reduceLE, Int.reduceLT, reduceCtorEq, s0, j0, j1, j22, g8, g6, gm]⟩ ?_
          rintro i s2 M2 ⟨hi, q1, v, q2, q3⟩ ho
          unfold impl_LayOut.b0
          have j0 : s2 0 = aI n := by rw [ho 0 rfl]; simp only [go_sem, ↓reduceIte, Nat.reduceEqDiff, Nat.reduceAdd, Nat.reduceMul, Nat.reduceBEq, Option.getD_none, Int.reduceToNat, Nat.reduceSub, Nat.reduceLT, Nat.reduceLeDiff, Int.reduceLE, Int.reduceLT, reduceCtorEq, j0, j1, j22, g8, g6, gm]
          have j9 : s2 9 = aI k := by rw [ho 9 rfl]; simp only [go_sem, ↓reduceIte, Nat.reduceEqDiff, Nat.reduceAdd, Nat.reduceMul, Nat.reduceBEq, Option.getD_none, Int.reduceToNat, Nat.reduceSub, Nat.reduceLT, Nat.reduceLeDiff, Int.reduceLE, Int.reduceLT, reduceCtorEq, j0, j1, j22, g8, g6, gm]
          have j23 : s2 23 = aI k := by rw [ho 23 rfl]; simp only [go_sem, ↓reduceIte, Nat.reduceEqDiff, Nat.reduceAdd, Nat.reduceMul, Nat.reduceBEq, Option.getD_none, Int.reduceToNat, Nat.reduceSub, Nat.reduceLT, Nat.reduceLeDiff, Int.reduceLE, Int.reduceLT, reduceCtorEq, j0, j1, j22, g8, g6, gm]
          have j26 : s2 26 = .dat none (arcs l) := by rw [ho 26 rfl]; simp only [go_sem, ↓reduceIte, Nat.reduceEqDiff, Nat.reduceAdd, Nat.reduceMul, Nat.reduceBEq, Option.getD_none, Int.reduceToNat, Nat.reduceSub, Nat.reduceLT, Nat.reduceLeDiff, Int.reduceLE, Int.reduceLT, reduceCtorEq, j0, j1, j22, g8, g6, gm]
          have j27 : s2 27 = aI l.length := by rw [ho 27 rfl]; simp only [go_sem, ↓reduceIte, Nat.reduceEqDiff, Nat.reduceAdd, Nat.reduceMul, Nat.reduceBEq, Option.getD_none, Int.reduceToNat, Nat.reduceSub, Nat.reduceLT, Nat.reduceLeDiff, Int.reduceLE, Int.reduceLT, reduceCtorEq, j0, j1, j22, g8, g6, gm]
          clear ho
          by_cases hl3 : i < l.length
          · have hi2 : (i : Int) < l.length := by omega
            have ga : l[i]? = some l[i] := List.getElem?_eq_getElem hl3
            have hw2 : IntKind.i64.wrap (i + 1) = ((i + 1 : Nat) : Int) := wrap_k hl3 (by omega)
            obtain ⟨a1, a2⟩ := hmem _ (List.getElem_mem hl3)
            have st : layO n l k ++ layA n (l.take (i + 1)) k = (layO n l k ++ layA n (l.take i) k) ++ [(spot n k l[i].1, spot n (k + 1) l[i].2)] := by rw [take_succ' hl3]; simp only [layA, List.map_append, List.map_cons, List.map_nil, List.append_assoc]
            have i1 := spot_in (n := n) (k := k) (by omega) (by omega) a1
            have i2 := spot_in (n := n) (k := k + 1) (by omega) (by omega) a2
            have fl : (layO n l k ++ layA n (l.take i) k).length ≤ 4294967296 := by
              have : k * l.length ≤ 8 * 30 := Nat.mul_le_mul (by omega) hl2
              simp only [List.length_append, ll, layA, List.length_map, List.length_take]; omega
            generalize layO n l k ++ layA n (l.take i) k = F at q2 q3 st fl
            generalize l[i] = a at a1 a2 i1 i2 st ga
            have m1 : IntKind.i64.wrap ((k : Int) * n) = (k : Int) * n := wrap_in (by omega) (by omega)
            have m2 : IntKind.i64.wrap ((k : Int) * n + a.1) = spot n k a.1 := wrap_in (x := spot n k a.1) (by omega) (by omega)
            have m3 : IntKind.i64.wrap (((k + 1 : Nat) : Int) * n) = ((k + 1 : Nat) : Int) * n := wrap_in (by omega) (by omega)
            have m4 : IntKind.i64.wrap (((k + 1 : Nat) : Int) * n + a.2) = spot n (k + 1) a.2 := wrap_in (x := spot n (k + 1) a.2) (by omega) (by omega)
            have sn : F.map arcD ++ [arcD (spot n k a.1, spot n (k + 1) a.2)] = (F ++ [(spot n k a.1, spot n (k + 1) a.2)]).map arcD := by simp
            have hbb : (F.length + 1) * 16 ≤ 70368744177664 := by omega
            simp only [go_sem, ↓reduceIte, Nat.reduceEqDiff, Nat.reduceAdd, Nat.reduceMul, Nat.reduceBEq, Option.getD_none, Int.reduceToNat, Nat.reduceSub, Nat.reduceLT, Nat.reduceLeDiff, Int.reduceLE, Int.reduceLT, reduceCtorEq, hi2, ga, hw2, hw3, m1, m2, m3, m4, hbb, take_map_len, j0, j1, j22, g8, g6, gm, j0, j9, j23, j26, j27, q1, q2, q3]
            refine ⟨i + 1, by dsimp only; omega, by omega, by simp only [go_sem, ↓reduceIte, Nat.reduceEqDiff, Nat.reduceAdd, Nat.reduceMul, Nat.reduceBEq, Option.getD_none, Int.reduceToNat, Nat.reduceSub, Nat.reduceLT, Nat.reduceLeDiff, Int.reduceLE, Int.reduceLT, reduceCtorEq, j0, j1, j22, g8, g6, gm, j0, j9, j23, j26, j27, q1, q2, q3], _, by simp only [go_sem, ↓reduceIte, Nat.reduceEqDiff, Nat.reduceAdd, Nat.reduceMul, Nat.reduceBEq, Option.getD_none, Int.reduceToNat, Nat.reduceSub, Nat.reduceLT, Nat.reduceLeDiff, Int.reduceLE, Int.reduceLT, reduceCtorEq, j0, j1, j22, g8, g6, gm, j0, j9, j23, j26, j27, q1, q2, q3]; rw [st, List.length_append]; rfl, by simp only [go_sem, ↓reduceIte, Nat.reduceEqDiff, Nat.reduceAdd, Nat.reduceMul, Nat.reduceBEq, Option.getD_none, Int.reduceToNat, Nat.reduceSub, Nat.reduceLT, Nat.reduceLeDiff, Int.reduceLE, Int.reduceLT, reduceCtorEq, j0, j1, j22, g8, g6, gm, j0, j9, j23, j26, j27, q1, q2, q3]; rw [st, ← sn]⟩
          · obtain rfl : i = l.length := by omega
            rw [List.take_length] at q2 q3
            simp only [go_sem, ↓reduceIte, Nat.reduceEqDiff, Nat.reduceAdd, Nat.reduceMul, Nat.reduceBEq, Option.getD_none, Int.reduceToNat, Nat.reduceSub, Nat.reduceLT, Nat.reduceLeDiff, Int.reduceLE, Int.reduceLT, reduceCtorEq, Int.lt_irrefl, j0, j1, j22, g8, g6, gm, j0, j9, j23, j26, j27, q1, q2, q3]
            exact ⟨v, rfl, rfl⟩
        · rintro e s2 M2 ⟨rfl, q1, v, q2, q3⟩ ho
          simp only [go_sem, ↓reduceIte, Nat.reduceEqDiff, Nat.reduceAdd, Nat.reduceMul, Nat.reduceBEq, Option.getD_none, Int.reduceToNat, Nat.reduceSub, Nat.reduceLT, Nat.reduceLeDiff, Int.reduceLE, Int.reduceLT, reduceCtorEq, q1, q2, q3, hw3, j0, j1, j22, g8, g6, gm]
          exact ⟨k + 1, by dsimp only; omega, by omega, by simp only [go_sem, ↓reduceIte, Nat.reduceEqDiff, Nat.reduceAdd, Nat.reduceMul, Nat.reduceBEq, Option.getD_none, Int.reduceToNat, Nat.reduceSub, Nat.reduceLT, Nat.reduceLeDiff, Int.reduceLE, Int.reduceLT, reduceCtorEq, j0, j1, j22, g8, g6, gm], v, by simp only [go_sem, ↓reduceIte, Nat.reduceEqDiff, Nat.reduceAdd, Nat.reduceMul, Nat.reduceBEq, Option.getD_none, Int.reduceToNat, Nat.reduceSub, Nat.reduceLT, Nat.reduceLeDiff, Int.reduceLE, Int.reduceLT, reduceCtorEq, q2, j0, j1, j22, g8, g6, gm], by simp only [go_sem, ↓reduceIte, Nat.reduceEqDiff, Nat.reduceAdd, Nat.reduceMul, Nat.reduceBEq, Option.getD_none, Int.reduceToNat, Nat.reduceSub, Nat.reduceLT, Nat.reduceLeDiff, Int.reduceLE, Int.reduceLT, reduceCtorEq, q3, j0, j1, j22, g8, g6, gm]⟩
      · obtain rfl : k = G := by omega
        simp only [go_sem, ↓reduceIte, Nat.reduceEqDiff, Nat.reduceAdd, Nat.reduceMul, Nat.reduceBEq, Option.getD_none, Int.reduceToNat, Nat.reduceSub, Nat.reduceLT, Nat.reduceLeDiff, Int.reduceLE, Int.reduceLT, reduceCtorEq, Int.lt_irrefl, wg, take_map_len, j0, j1, j22, g8, g6, gm]
theorem spec_LayOut.fc (n : Int) (l : List (Int × Int)) (g : Int) (hl : l.length ≤ 4294967296) : FCt prog F_spec_LayOut [.ro, .ro, .ro] [Ii n, arcs l, Ii g] (layI n l g) [] := by
  refine fct_run spec_LayOut.ok rfl ?_
  unfold layI
  simp only [go_sem, ↓reduceIte, Nat.reduceEqDiff, Nat.reduceAdd, Nat.reduceMul, Nat.reduceBEq, Option.getD_none, Int.reduceToNat, Nat.reduceSub, Nat.reduceLT, Nat.reduceLeDiff, Int.reduceLE, Int.reduceLT, reduceCtorEq]
  refine fcW_bool (spec_GoodArcs.fc n l hl) ?_
  cases hg : goodA n l with
  | false => simp only [go_sem, ↓reduceIte, Nat.reduceEqDiff, Nat.reduceAdd, Nat.reduceMul, Nat.reduceBEq, Option.getD_none, Int.reduceToNat, Nat.reduceSub, Nat.reduceLT, Nat.reduceLeDiff, Int.reduceLE, Int.reduceLT, reduceCtorEq]; try rfl
  | true =>
    simp only [go_sem, ↓reduceIte, Nat.reduceEqDiff, Nat.reduceAdd, Nat.reduceMul, Nat.reduceBEq, Option.getD_none, Int.reduceToNat, Nat.reduceSub, Nat.reduceLT, Nat.reduceLeDiff, Int.reduceLE, Int.reduceLT, reduceCtorEq]
    refine fcW_bool (spec_l1In.fc ..) ?_
    cases h8 : inB g 1 8 with
    | false => simp only [go_sem, ↓reduceIte, Nat.reduceEqDiff, Nat.reduceAdd, Nat.reduceMul, Nat.reduceBEq, Option.getD_none, Int.reduceToNat, Nat.reduceSub, Nat.reduceLT, Nat.reduceLeDiff, Int.reduceLE, Int.reduceLT, reduceCtorEq]; try rfl
    | true =>
      obtain ⟨hn, hl2, hmem⟩ := goodA_mem hg
      simp only [inB, Bool.and_eq_true, decide_eq_true_eq] at h8
      obtain ⟨G, rfl⟩ : ∃ N : Nat, g = ((N + 1 : Nat) : Int) := ⟨(g - 1).toNat, by omega⟩
      have wg : IntKind.i64.wrap (((G + 1 : Nat) : Int) - 1) = (G : Int) := by rw [wrap_in (by omega) (by omega)]; omega
      have e1 : (((G + 1 : Nat) : Int) - 1).toNat = G := by omega
      rw [e1]
      have ll : ∀ k, (layO n l k).length = k * l.length := fun k => layO_len
      simp only [go_sem, ↓reduceIte, Nat.reduceEqDiff, Nat.reduceAdd, Nat.reduceMul, Nat.reduceBEq, Option.getD_none, Int.reduceToNat, Nat.reduceSub, Nat.reduceLT, Nat.reduceLeDiff, Int.reduceLE, Int.reduceLT, reduceCtorEq, wg]
      refine R_loop (α := Nat) (fun k s' M' => k ≤ G ∧ s' 9 = aI k ∧ ∃ v, s' 8 = .sl 2816 v 0 (layO n l k).length 2 ∧ M'.m 2816 = some (.arr v true 2 ((layO n l k).map arcD))) (fun k => G - k) 0 ⟨Nat.zero_le _, by simp only [go_sem, ↓reduceIte, Nat.reduceEqDiff, Nat.reduceAdd, Nat.reduceMul, Nat.reduceBEq, Option.getD_none, Int.reduceToNat, Nat.reduceSub, Nat.reduceLT, Nat.reduceLeDiff, Int.reduceLE, Int.reduceLT, reduceCtorEq]; rfl, _, by simp only [go_sem, ↓reduceIte, Nat.reduceEqDiff, Nat.reduceAdd, Nat.reduceMul, Nat.reduceBEq, Option.getD_none, Int.reduceToNat, Nat.reduceSub, Nat.reduceLT, Nat.reduceLeDiff, Int.reduceLE, Int.reduceLT, reduceCtorEq]; rfl, by simp only [go_sem, ↓reduceIte, Nat.reduceEqDiff, Nat.reduceAdd, Nat.reduceMul, Nat.reduceBEq, Option.getD_none, Int.reduceToNat, Nat.reduceSub, Nat.reduceLT, Nat.reduceLeDiff, Int.reduceLE, Int.reduceLT, reduceCtorEq]; rfl⟩ ?_
      rintro k s' M' ⟨hk, g8, v, g6, gm⟩ ho
      unfold spec_LayOut.b1
      have j0 : s' 0 = aI n := by rw [ho 0 rfl]; simp only [go_sem, ↓reduceIte, Nat.reduceEqDiff, Nat.reduceAdd, Nat.reduceMul, Nat.reduceBEq, Option.getD_none, Int.reduceToNat, Nat.reduceSub, Nat.reduceLT, Nat.reduceLeDiff, Int.reduceLE, Int.reduceLT, reduceCtorEq]
      have j1 : s' 1 = .dat none (arcs l) := by rw [ho 1 rfl]; simp only [go_sem, ↓reduceIte, Nat.reduceEqDiff, Nat.reduceAdd, Nat.reduceMul, Nat.reduceBEq, Option.getD_none, Int.reduceToNat, Nat.reduceSub, Nat.reduceLT, Nat.reduceLeDiff, Int.reduceLE, Int.reduceLT, reduceCtorEq]
      have j2 : s' 2 = aI ((G + 1 : Nat) : Int) := by rw [ho 2 rfl]; simp only [go_sem, ↓reduceIte, Nat.reduceEqDiff, Nat.reduceAdd, Nat.reduceMul, Nat.reduceBEq, Option.getD_none, Int.reduceToNat, Nat.reduceSub, Nat.reduceLT, Nat.reduceLeDiff, Int.reduceLE, Int.reduceLT, reduceCtorEq]
      clear ho
      by_cases hlt : k < G
      · have hi' : (k : Int) < G := by omega
        have hw3 : IntKind.i64.wrap ((k : Int) + 1) = ((k + 1 : Nat) : Int) := wrap_k hlt (by omega)
        simp only [go_sem, ↓reduceIte, Nat.reduceEqDiff, Nat.reduceAdd, Nat.reduceMul, Nat.reduceBEq, Option.getD_none, Int.reduceToNat, Nat.reduceSub, Nat.reduceLT, Nat.reduceLeDiff, Int.reduceLE, Int.reduceLT, reduceCtorEq, hi', wg, j0, j1, j2, g8, g6, gm]
        have s0 : layA n [] k = [] := rfl
        refine R_cut (fun e s' M' => e = .ex 2 ∧ s' 9 = aI k ∧ ∃ v, s' 8 = .sl 2816 v 0 (layO n l (k + 1)).length 2 ∧ M'.m 2816 = some (.arr v true 2 ((layO n l (k + 1)).map arcD))) ?_ ?_
        · refine R_loop (α := Nat) (fun i s' M' => i ≤ l.length ∧ s' 29 = aI i ∧ ∃ v, s' 8 = .sl 2816 v 0 (layO n l k ++ layA n (l.take i) k).length 2 ∧ M'.m 2816 = some (.arr v true 2 ((layO n l k ++ layA n (l.take i) k).map arcD))) (fun i => l.length - i) 0 ⟨Nat.zero_le _, by simp only [go_sem, ↓reduceIte, Nat.reduceEqDiff, Nat.reduceAdd, Nat.reduceMul, Nat.reduceBEq, Option.getD_none, Int.reduceToNat, Nat.reduceSub, Nat.reduceLT, Nat.reduceLeDiff, Int.reduceLE, Int.reduceLT, reduceCtorEq, j0, j1, j2, g8, g6, gm]; rfl, v, by simp only [go_sem, ↓reduceIte, Nat.reduceEqDiff, Nat.reduceAdd, Nat.reduceMul, Nat.reduceBEq, Option.getD_none, Int.reduceToNat, Nat.reduceSub, Nat.reduceLT, Nat.reduceLeDiff, Int.reduceLE, Int.reduceLT, reduceCtorEq, s0, j0, j1, j2, g8, g6, gm], by simp only [go_sem, ↓reduceIte, Nat.reduceEqDiff, Nat.reduceAdd, Nat.reduceMul, Nat.reduceBEq, Option.getD_none, Int.reduceToNat, Nat.reduceSub, Nat.reduceLT, Nat.reduceLeDiff, Int.reduceLE, Int.reduceLT, reduceCtorEq, s0, j0, j1, j2, g8, g6, gm]⟩ ?_
          rintro i s2 M2 ⟨hi, q1, v, q2, q3⟩ ho
          unfold spec_LayOut.b0
          have j0 : s2 0 = aI n := by rw [ho 0 rfl]; simp only [go_sem, ↓reduceIte, Nat.reduceEqDiff, Nat.reduceAdd, Nat.reduceMul, Nat.reduceBEq, Option.getD_none, Int.reduceToNat, Nat.reduceSub, Nat.reduceLT, Nat.reduceLeDiff, Int.reduceLE, Int.reduceLT, reduceCtorEq, j0, j1, j2, g8, g6, gm]
          have j9 : s2 9 = aI k := by rw [ho 9 rfl]; simp only [go_sem, ↓reduceIte, Nat.reduceEqDiff, Nat.reduceAdd, Nat.reduceMul, Nat.reduceBEq, Option.getD_none, Int.reduceToNat, Nat.reduceSub, Nat.reduceLT, Nat.reduceLeDiff, Int.reduceLE, Int.reduceLT, reduceCtorEq, j0, j1, j2, g8, g6, gm]
          have j27 : s2 27 = .dat none (arcs l) := by rw [ho 27 rfl]; simp only [go_sem, ↓reduceIte, Nat.reduceEqDiff, Nat.reduceAdd, Nat.reduceMul, Nat.reduceBEq, Option.getD_none, Int.reduceToNat, Nat.reduceSub, Nat.reduceLT, Nat.reduceLeDiff, Int.reduceLE, Int.reduceLT, reduceCtorEq, j0, j1, j2, g8, g6, gm]
          have j28 : s2 28 = aI l.length := by rw [ho 28 rfl]; simp only [go_sem, ↓reduceIte, Nat.reduceEqDiff, Nat.reduceAdd, Nat.reduceMul, Nat.reduceBEq, Option.getD_none, Int.reduceToNat, Nat.reduceSub, Nat.reduceLT, Nat.reduceLeDiff, Int.reduceLE, Int.reduceLT, reduceCtorEq, j0, j1, j2, g8, g6, gm]
          clear ho
          by_cases hl3 : i < l.length
          · have hi2 : (i : Int) < l.length := by omega
            have ga : l[i]? = some l[i] := List.getElem?_eq_getElem hl3
            have hw2 : IntKind.i64.wrap (i + 1) = ((i + 1 : Nat) : Int) := wrap_k hl3 (by omega)
            obtain ⟨a1, a2⟩ := hmem _ (List.getElem_mem hl3)
            have st : layO n l k ++ layA n (l.take (i + 1)) k = (layO n l k ++ layA n (l.take i) k) ++ [(spot n k l[i].1, spot n (k + 1) l[i].2)] := by rw [take_succ' hl3]; simp only [layA, List.map_append, List.map_cons, List.map_nil, List.append_assoc]
            have i1 := spot_in (n := n) (k := k) (by omega) (by omega) a1
            have i2 := spot_in (n := n) (k := k + 1) (by omega) (by omega) a2
            have fl : (layO n l k ++ layA n (l.take i) k).length ≤ 4294967296 := by
              have : k * l.length ≤ 8 * 30 := Nat.mul_le_mul (by omega) hl2
              simp only [List.length_append, ll, layA, List.length_map, List.length_take]; omega
            generalize layO n l k ++ layA n (l.take i) k = F at q2 q3 st fl
            generalize l[i] = a at a1 a2 i1 i2 st ga
            have m1 : IntKind.i64.wrap ((k : Int) * n) = (k : Int) * n := wrap_in (by omega) (by omega)
            have m2 : IntKind.i64.wrap ((k : Int) * n + a.1) = spot n k a.1 := wrap_in (x := spot n k a.1) (by omega) (by omega)
            have m3 : IntKind.i64.wrap (((k + 1 : Nat) : Int) * n) = ((k + 1 : Nat) : Int) * n := wrap_in (by omega) (by omega)
            have m4 : IntKind.i64.wrap (((k + 1 : Nat) : Int) * n + a.2) = spot n (k + 1) a.2 := wrap_in (x := spot n (k + 1) a.2) (by omega) (by omega)
            have sn : F.map arcD ++ [arcD (spot n k a.1, spot n (k + 1) a.2)] = (F ++ [(spot n k a.1, spot n (k + 1) a.2)]).map arcD := by simp
            have hbb : (F.length + 1) * 16 ≤ 70368744177664 := by omega
            simp only [go_sem, ↓reduceIte, Nat.reduceEqDiff, Nat.reduceAdd, Nat.reduceMul, Nat.reduceBEq, Option.getD_none, Int.reduceToNat, Nat.reduceSub, Nat.reduceLT, Nat.reduceLeDiff, Int.reduceLE, Int.reduceLT, reduceCtorEq, hi2, ga, hw2, hw3, m1, m2, m3, m4, hbb, take_map_len, j0, j1, j2, g8, g6, gm, j0, j9, j27, j28, q1, q2, q3]
            refine ⟨i + 1, by dsimp only; omega, by omega, by simp only [go_sem, ↓reduceIte, Nat.reduceEqDiff, Nat.reduceAdd, Nat.reduceMul, Nat.reduceBEq, Option.getD_none, Int.reduceToNat, Nat.reduceSub, Nat.reduceLT, Nat.reduceLeDiff, Int.reduceLE, Int.reduceLT, reduceCtorEq, j0, j1, j2, g8, g6, gm, j0, j9, j27, j28, q1, q2, q3], _, by simp only [go_sem, ↓reduceIte, Nat.reduceEqDiff, Nat.reduceAdd, Nat.reduceMul, Nat.reduceBEq, Option.getD_none, Int.reduceToNat, Nat.reduceSub, Nat.reduceLT, Nat.reduceLeDiff, Int.reduceLE, Int.reduceLT, reduceCtorEq, j0, j1, j2, g8, g6, gm, j0, j9, j27, j28, q1, q2, q3]; rw [st, List.length_append]; rfl, by simp only [go_sem, ↓reduceIte, Nat.reduceEqDiff, Nat.reduceAdd, Nat.reduceMul, Nat.reduceBEq, Option.getD_none, Int.reduceToNat, Nat.reduceSub, Nat.reduceLT, Nat.reduceLeDiff, Int.reduceLE, Int.reduceLT, reduceCtorEq, j0, j1, j2, g8, g6, gm, j0, j9, j27, j28, q1, q2, q3]; rw [st, ← sn]⟩
          · obtain rfl : i = l.length := by omega
            rw [List.take_length] at q2 q3
            simp only [go_sem, ↓reduceIte, Nat.reduceEqDiff, Nat.reduceAdd, Nat.reduceMul, Nat.reduceBEq, Option.getD_none, Int.reduceToNat, Nat.reduceSub, Nat.reduceLT, Nat.reduceLeDiff, Int.reduceLE, Int.reduceLT, reduceCtorEq, Int.lt_irrefl, j0, j1, j2, g8, g6, gm, j0, j9, j27, j28, q1, q2, q3]
            exact ⟨v, rfl, rfl⟩
        · rintro e s2 M2 ⟨rfl, q1, v, q2, q3⟩ ho
          simp only [go_sem, ↓reduceIte, Nat.reduceEqDiff, Nat.reduceAdd, Nat.reduceMul, Nat.reduceBEq, Option.getD_none, Int.reduceToNat, Nat.reduceSub, Nat.reduceLT, Nat.reduceLeDiff, Int.reduceLE, Int.reduceLT, reduceCtorEq, q1, q2, q3, hw3, j0, j1, j2, g8, g6, gm]
          exact ⟨k + 1, by dsimp only; omega, by omega, by simp only [go_sem, ↓reduceIte, Nat.reduceEqDiff, Nat.reduceAdd, Nat.reduceMul, Nat.reduceBEq, Option.getD_none, Int.reduceToNat, Nat.reduceSub, Nat.reduceLT, Nat.reduceLeDiff, Int.reduceLE, Int.reduceLT, reduceCtorEq, j0, j1, j2, g8, g6, gm], v, by simp only [go_sem, ↓reduceIte, Nat.reduceEqDiff, Nat.reduceAdd, Nat.reduceMul, Nat.reduceBEq, Option.getD_none, Int.reduceToNat, Nat.reduceSub, Nat.reduceLT, Nat.reduceLeDiff, Int.reduceLE, Int.reduceLT, reduceCtorEq, q2, j0, j1, j2, g8, g6, gm], by simp only [go_sem, ↓reduceIte, Nat.reduceEqDiff, Nat.reduceAdd, Nat.reduceMul, Nat.reduceBEq, Option.getD_none, Int.reduceToNat, Nat.reduceSub, Nat.reduceLT, Nat.reduceLeDiff, Int.reduceLE, Int.reduceLT, reduceCtorEq, q3, j0, j1, j2, g8, g6, gm]⟩
      · obtain rfl : k = G := by omega
        simp only [go_sem, ↓reduceIte, Nat.reduceEqDiff, Nat.reduceAdd, Nat.reduceMul, Nat.reduceBEq, Option.getD_none, Int.reduceToNat, Nat.reduceSub, Nat.reduceLT, Nat.reduceLeDiff, Int.reduceLE, Int.reduceLT, reduceCtorEq, Int.lt_irrefl, wg, take_map_len, j0, j1, j2, g8, g6, gm]
end Go.Vm.Ytdebllkmblakkaa
/- Plain law: what the law on layers needs. -/
namespace Go.Vm.Ytdebllkmblakkaa
open Go Go.Vm
set_option maxRecDepth 10000
set_option maxHeartbeats 4000000
set_option linter.unusedSimpArgs false
set_option linter.unusedVariables false

/-- what holds where a walk is good -/
structure LoOk (n : Int) (l : List (Int × Int)) (w d : List Int) (A : List (Int × Int)) (is one : Bool) : Prop where
  one : one = true
  nn : 1 ≤ n ∧ n ≤ 6
  len : l.length ≤ 30
  w1 : 1 ≤ w.length ∧ w.length ≤ 8
  d1 : d.length = w.length
  a1 : A.length ≤ 240
  lay : layI n l w.length = .tup [arcs A, Bb true]
  is : is = walkK l w (w.length - 1)
  has : ∀ i, i + 1 < w.length → hasA A (d.getD i 0) (d.getD (i + 1) 0) = hasA l (w.getD i 0) (w.getD (i + 1) 0)
  arc : ∀ x ∈ A, (0 ≤ x.1 ∧ x.1 ≤ 54) ∧ (0 ≤ x.2 ∧ x.2 ≤ 54) ∧ x.2 / n = x.1 / n + 1 ∧ (0 ≤ x.1 / n ∧ x.1 / n ≤ 8) ∧ hasA l (x.1 % n) (x.2 % n) = true
theorem lo_is (n : Int) (l : List (Int × Int)) (w : List Int) : ∃ (is ok one : Bool) (d : List Int) (A : List (Int × Int)), isWI n l w = .tup [Bb is, Bb ok] ∧ laidWI n w = .tup [ints d, Bb one] ∧ d.length ≤ 8 ∧ (ok = true → LoOk n l w d A is one) := by
  obtain ⟨d, one, hL, hd, hL2⟩ : ∃ (d : List Int) (one : Bool), laidWI n w = .tup [ints d, Bb one] ∧ d.length ≤ 8 ∧ (inB n 1 6 = true → isV n w = true → d = laidI n w w.length ∧ one = true) := by
    unfold laidWI
    split
    · rename_i h
      rw [Bool.and_eq_true] at h
      have h0 := h.1
      simp only [inB, Bool.and_eq_true, decide_eq_true_eq] at h0
      obtain ⟨hw, _⟩ := isV_mem h0 h.2
      exact ⟨_, true, rfl, by rw [laidI_len]; exact hw.2, fun _ _ => ⟨rfl, rfl⟩⟩
    · rename_i h
      exact ⟨[], false, rfl, by simp, fun h1 h2 => absurd (by rw [h1, h2]; rfl) h⟩
  by_cases h : (goodA n l && isV n w) = true
  · have hI : isWI n l w = .tup [Bb (walkK l w (w.length - 1)), Bb true] := by unfold isWI; rw [if_pos h]
    rw [Bool.and_eq_true] at h
    obtain ⟨hg, hv⟩ := h
    obtain ⟨hn, hl, hmem⟩ := goodA_mem hg
    obtain ⟨hw1, hw2⟩ := isV_mem hn hv
    obtain ⟨rfl, rfl⟩ := hL2 (goodA_n hg) hv
    have dg : ∀ i, i < w.length → (laidI n w w.length).getD i 0 = spot n i (w.getD i 0) := fun i hi => by rw [List.getD_eq_getElem?_getD, laidI_get hi]; rfl
    refine ⟨_, true, true, _, layO n l (w.length - 1), hI, hL, by rw [laidI_len]; omega, fun _ => ⟨rfl, hn, hl, hw1, laidI_len, ?_, ?_, rfl, ?_, fun x hx => layO_arc hmem hn.2 (by omega) hx⟩⟩
    · rw [layO_len]
      have : (w.length - 1) * l.length ≤ 8 * 30 := Nat.mul_le_mul (by omega) hl
      omega
    · have h8 : inB w.length 1 8 = true := by simp only [inB, Bool.and_eq_true, decide_eq_true_eq]; omega
      unfold layI
      rw [hg, h8, show ((w.length : Int) - 1).toNat = w.length - 1 by omega]
      rfl
    · intro i hi
      rw [dg i (by omega), dg (i + 1) hi]
      exact laid_has hmem (by omega) (hw2 i (by omega)) (hw2 (i + 1) hi)
  · exact ⟨false, false, one, d, [], by unfold isWI; rw [if_neg h], hL, hd, fun h => by cases h⟩
theorem layI_is (m : Int) (e : List (Int × Int)) (g : Int) (he : e.length ≤ 30) : ∃ X b, layI m e g = .tup [arcs X, Bb b] ∧ X.length ≤ 240 := by
  unfold layI
  split
  · rename_i h
    rw [Bool.and_eq_true] at h
    have h8 := h.2
    simp only [inB, Bool.and_eq_true, decide_eq_true_eq] at h8
    refine ⟨_, _, rfl, ?_⟩
    rw [layO_len]
    have : (g - 1).toNat * e.length ≤ 8 * 30 := Nat.mul_le_mul (by omega) he
    omega
  · exact ⟨[], _, rfl, by simp⟩
theorem backI_is (m : Int) (e : List (Int × Int)) (he : e.length ≤ 30) : ∃ X, backI m e = .tup [ints X, Bb (goodA m e)] ∧ X.length ≤ 30 := by
  unfold backI
  split
  · rename_i h
    rw [h]
    exact ⟨_, rfl, by have := listI_len e.length (backP m.toNat e); omega⟩
  · rename_i h
    rw [Bool.not_eq_true] at h
    rw [h]
    exact ⟨[], rfl, by simp⟩
end Go.Vm.Ytdebllkmblakkaa
/- Walks: arcs out of bytes. -/
namespace Go.Vm.Ytdebllkmblakkaa
open Go Go.Vm
set_option maxRecDepth 10000
set_option maxHeartbeats 16000000
set_option linter.unusedSimpArgs false
set_option linter.unusedVariables false

abbrev curA (c : CurD) : AV := .agg [.dat none (.sl 1 (c.code.map Ub)), .dat none (Ii c.pos), .dat none (.int .u64 c.seed)]
def ArcsQ (m : Nat) (r : D) (outs : List D) : Prop := ∃ (n : Int) (l : List (Int × Int)) (c' : CurD), r = .tup [Ii n, arcs l] ∧ outs = [.ptr c'.d] ∧ (0 ≤ n ∧ n ≤ 7) ∧ l.length ≤ 30 ∧ CurOk c' m
theorem ArcsQ.mk {m : Nat} {n : Int} {l : List (Int × Int)} {c' : CurD} (h1 : 0 ≤ n ∧ n ≤ 7) (h2 : l.length ≤ 30) (h3 : CurOk c' m) : ArcsQ m (.tup [Ii n, arcs l]) [.ptr c'.d] := ⟨n, l, c', rfl, rfl, h1, h2, h3⟩
theorem arcs_ex (c : CurD) {m : Nat} (h : CurOk c (m + 120)) : ∃ (n : Int) (l : List (Int × Int)) (c' : CurD), (0 ≤ n ∧ n ≤ 7) ∧ l.length ≤ 30 ∧ CurOk c' m ∧ FCt prog F_spec_pl1Cur_arcs [.io] [.ptr c.d] (.tup [Ii n, arcs l]) [.ptr c'.d] := by
  suffices H : ∃ r outs, ArcsQ m r outs ∧ FCt prog F_spec_pl1Cur_arcs [.io] [.ptr c.d] r outs by
    obtain ⟨_, _, ⟨n, l, c', rfl, rfl, h1, h2, h3⟩, hf⟩ := H
    exact ⟨n, l, c', h1, h2, h3, hf⟩
  refine fct_ex _ spec_pl1Cur_arcs.ok rfl rfl ?_
  have f1 := spec_pl1Cur_pick.fc c 6 (m := m + 118) h
  have o1 : CurOk (pickC c 6) (m + 118) := pickC_ok h
  have p1 := pickV_in (c := c) (n := 6) (by omega)
  generalize pickV c 6 = n0 at f1 p1
  generalize pickC c 6 = c1 at f1 o1
  have f2 := spec_pl1Cur_one.fc c1 30 (m := m + 116) o1
  have o2 : CurOk (pickC c1 30) (m + 116) := pickC_ok o1
  generalize (pickV c1 30 == 0) = b1 at f2
  generalize pickC c1 30 = c2 at f2 o2
  have f3 := spec_pl1Cur_among.fc c2 [0, 6, 7] (by simp) (by simp) (m := m + 114) o2
  have o3 : CurOk (pickC c2 ([0, 6, 7] : List Int).length) (m + 114) := pickC_ok o2
  have m3 : amongV c2 [0, 6, 7] = 0 ∨ amongV c2 [0, 6, 7] = 6 ∨ amongV c2 [0, 6, 7] = 7 := by simpa using amongV_mem c2 [0, 6, 7] (by simp)
  generalize amongV c2 [0, 6, 7] = n1 at f3 m3
  generalize pickC c2 ([0, 6, 7] : List Int).length = c3 at f3 o3
  have w1 : IntKind.i64.wrap (1 + n0) = 1 + n0 := wrap_in (by omega) (by omega)
  simp only [go_sem, ↓reduceIte, Nat.reduceEqDiff, Nat.reduceAdd, Nat.reduceMul, Nat.reduceBEq, Option.getD_none, Int.reduceToNat, Nat.reduceSub, Nat.reduceLT, Nat.reduceLeDiff, Int.reduceLE, Int.reduceLT, reduceCtorEq]
  refine coW_c f1 ?_
  simp only [go_sem, ↓reduceIte, Nat.reduceEqDiff, Nat.reduceAdd, Nat.reduceMul, Nat.reduceBEq, Option.getD_none, Int.reduceToNat, Nat.reduceSub, Nat.reduceLT, Nat.reduceLeDiff, Int.reduceLE, Int.reduceLT, reduceCtorEq, w1]
  refine coW_c f2 ?_
  simp only [go_sem, ↓reduceIte, Nat.reduceEqDiff, Nat.reduceAdd, Nat.reduceMul, Nat.reduceBEq, Option.getD_none, Int.reduceToNat, Nat.reduceSub, Nat.reduceLT, Nat.reduceLeDiff, Int.reduceLE, Int.reduceLT, reduceCtorEq]
  refine cdW_cut (fun e s' M' => e = .n ∧ ∃ (n : Nat) (u : CurD), n ≤ 7 ∧ CurOk u (m + 114) ∧ s' 0 = .ptr 0 0 0 none ∧ s' 4 = aI n ∧ M'.m 0 = some (.box 0 (curA u))) ?_ ?_
  · cases b1
    · simp only [go_sem, ↓reduceIte, Nat.reduceEqDiff, Nat.reduceAdd, Nat.reduceMul, Nat.reduceBEq, Option.getD_none, Int.reduceToNat, Nat.reduceSub, Nat.reduceLT, Nat.reduceLeDiff, Int.reduceLE, Int.reduceLT, reduceCtorEq]
      exact ⟨(1 + n0).toNat, c2, by omega, o2.mono (by omega), by congr 2; omega, rfl⟩
    · simp only [go_sem, ↓reduceIte, Nat.reduceEqDiff, Nat.reduceAdd, Nat.reduceMul, Nat.reduceBEq, Option.getD_none, Int.reduceToNat, Nat.reduceSub, Nat.reduceLT, Nat.reduceLeDiff, Int.reduceLE, Int.reduceLT, reduceCtorEq]
      refine coW_c f3 ?_
      simp only [go_sem, ↓reduceIte, Nat.reduceEqDiff, Nat.reduceAdd, Nat.reduceMul, Nat.reduceBEq, Option.getD_none, Int.reduceToNat, Nat.reduceSub, Nat.reduceLT, Nat.reduceLeDiff, Int.reduceLE, Int.reduceLT, reduceCtorEq]
      exact ⟨n1.toNat, c3, by omega, o3, by congr 2; omega, rfl⟩
  clear f1 f2 f3 o1 o2 o3 p1 m3 w1
  rintro e s' M' ⟨rfl, n, u, hn, hu, g0, g4, gm⟩ -
  simp only [go_sem, ↓reduceIte, Nat.reduceEqDiff, Nat.reduceAdd, Nat.reduceMul, Nat.reduceBEq, Option.getD_none, Int.reduceToNat, Nat.reduceSub, Nat.reduceLT, Nat.reduceLeDiff, Int.reduceLE, Int.reduceLT, reduceCtorEq, gm, g0, g4]
  refine R_loop (α := Nat × List (Int × Int) × CurD) (fun a s' M' => a.1 ≤ n ∧ a.2.1.length ≤ 30 ∧ CurOk a.2.2 (m + 4 + 14 * (7 - a.1)) ∧ s' 6 = aI a.1 ∧ M'.m 0 = some (.box 0 (curA a.2.2)) ∧ ∃ v, s' 5 = .sl 2176 v 0 a.2.1.length 2 ∧ M'.m 2176 = some (.arr v true 2 (a.2.1.map arcD))) (fun a => n - a.1) (0, [], u)
    ⟨Nat.zero_le _, by simp, hu.mono (by omega), by simp only [go_sem, ↓reduceIte, Nat.reduceEqDiff, Nat.reduceAdd, Nat.reduceMul, Nat.reduceBEq, Option.getD_none, Int.reduceToNat, Nat.reduceSub, Nat.reduceLT, Nat.reduceLeDiff, Int.reduceLE, Int.reduceLT, reduceCtorEq, g0, g4]; try rfl, by simp only [go_sem, ↓reduceIte, Nat.reduceEqDiff, Nat.reduceAdd, Nat.reduceMul, Nat.reduceBEq, Option.getD_none, Int.reduceToNat, Nat.reduceSub, Nat.reduceLT, Nat.reduceLeDiff, Int.reduceLE, Int.reduceLT, reduceCtorEq, gm, g0, g4]; try rfl, _, by simp only [go_sem, ↓reduceIte, Nat.reduceEqDiff, Nat.reduceAdd, Nat.reduceMul, Nat.reduceBEq, Option.getD_none, Int.reduceToNat, Nat.reduceSub, Nat.reduceLT, Nat.reduceLeDiff, Int.reduceLE, Int.reduceLT, reduceCtorEq, g0, g4]; try rfl, by simp only [go_sem, ↓reduceIte, Nat.reduceEqDiff, Nat.reduceAdd, Nat.reduceMul, Nat.reduceBEq, Option.getD_none, Int.reduceToNat, Nat.reduceSub, Nat.reduceLT, Nat.reduceLeDiff, Int.reduceLE, Int.reduceLT, reduceCtorEq, g0, g4]; try rfl⟩ ?_
  rintro ⟨a, l, u⟩ s2 M2 ⟨ha, hl, hu, g6, gm, v, g5, gr⟩ ho
  dsimp only at ha hl hu g6 gm g5 gr
  unfold spec_pl1Cur_arcs.b1
  have j0 : s2 0 = .ptr 0 0 0 none := by rw [ho 0 rfl]; simp only [go_sem, ↓reduceIte, Nat.reduceEqDiff, Nat.reduceAdd, Nat.reduceMul, Nat.reduceBEq, Option.getD_none, Int.reduceToNat, Nat.reduceSub, Nat.reduceLT, Nat.reduceLeDiff, Int.reduceLE, Int.reduceLT, reduceCtorEq, g0, g4]
  have j4 : s2 4 = aI n := by rw [ho 4 rfl]; simp only [go_sem, ↓reduceIte, Nat.reduceEqDiff, Nat.reduceAdd, Nat.reduceMul, Nat.reduceBEq, Option.getD_none, Int.reduceToNat, Nat.reduceSub, Nat.reduceLT, Nat.reduceLeDiff, Int.reduceLE, Int.reduceLT, reduceCtorEq, g0, g4]
  clear ho
  by_cases hlt : a < n
  · have hi' : (a : Int) < n := by omega
    have hw : IntKind.i64.wrap (a + 1) = ((a + 1 : Nat) : Int) := wrap_k hlt (by omega)
    simp only [go_sem, ↓reduceIte, Nat.reduceEqDiff, Nat.reduceAdd, Nat.reduceMul, Nat.reduceBEq, Option.getD_none, Int.reduceToNat, Nat.reduceSub, Nat.reduceLT, Nat.reduceLeDiff, Int.reduceLE, Int.reduceLT, reduceCtorEq, hi', g0, g4, j0, j4, g6, gm, g5, gr]
    refine R_loop (α := Nat × List (Int × Int) × CurD) (fun x s' M' => x.1 ≤ n ∧ x.2.1.length ≤ 30 ∧ CurOk x.2.2 (m + 4 + 14 * (7 - (a + 1)) + 2 * (7 - x.1)) ∧ s' 7 = aI x.1 ∧ M'.m 0 = some (.box 0 (curA x.2.2)) ∧ ∃ v, s' 5 = .sl 2176 v 0 x.2.1.length 2 ∧ M'.m 2176 = some (.arr v true 2 (x.2.1.map arcD))) (fun x => n - x.1) (0, l, u)
      ⟨Nat.zero_le _, hl, hu.mono (by omega), by simp only [go_sem, ↓reduceIte, Nat.reduceEqDiff, Nat.reduceAdd, Nat.reduceMul, Nat.reduceBEq, Option.getD_none, Int.reduceToNat, Nat.reduceSub, Nat.reduceLT, Nat.reduceLeDiff, Int.reduceLE, Int.reduceLT, reduceCtorEq, g0, g4, j0, j4, g6, gm, g5, gr]; try rfl, by simp only [go_sem, ↓reduceIte, Nat.reduceEqDiff, Nat.reduceAdd, Nat.reduceMul, Nat.reduceBEq, Option.getD_none, Int.reduceToNat, Nat.reduceSub, Nat.reduceLT, Nat.reduceLeDiff, Int.reduceLE, Int.reduceLT, reduceCtorEq, g0, g4, j0, j4, g6, gm, g5, gr]; try rfl, _, by simp only [go_sem, ↓reduceIte, Nat.reduceEqDiff, Nat.reduceAdd, Nat.reduceMul, Nat.reduceBEq, Option.getD_none, Int.reduceToNat, Nat.reduceSub, Nat.reduceLT, Nat.reduceLeDiff, Int.reduceLE, Int.reduceLT, reduceCtorEq, g0, g4, j0, j4, g6, gm, g5, gr]; try rfl, by simp only [go_sem, ↓reduceIte, Nat.reduceEqDiff, Nat.reduceAdd, Nat.reduceMul, Nat.reduceBEq, Option.getD_none, Int.reduceToNat, Nat.reduceSub, Nat.reduceLT, Nat.reduceLeDiff, Int.reduceLE, Int.reduceLT, reduceCtorEq, g0, g4, j0, j4, g6, gm, g5, gr]; try rfl⟩ ?_
    clear hl hu
    rintro ⟨b, l, u⟩ s3 M3 ⟨hb, hl, hu, q7, qm, v, q5, qr⟩ ho
    dsimp only at hb hl hu q7 qm q5 qr
    unfold spec_pl1Cur_arcs.b0
    have j0 : s3 0 = .ptr 0 0 0 none := by rw [ho 0 rfl]; simp only [go_sem, ↓reduceIte, Nat.reduceEqDiff, Nat.reduceAdd, Nat.reduceMul, Nat.reduceBEq, Option.getD_none, Int.reduceToNat, Nat.reduceSub, Nat.reduceLT, Nat.reduceLeDiff, Int.reduceLE, Int.reduceLT, reduceCtorEq, g0, g4, j0, j4, g6, gm, g5, gr]
    have j4 : s3 4 = aI n := by rw [ho 4 rfl]; simp only [go_sem, ↓reduceIte, Nat.reduceEqDiff, Nat.reduceAdd, Nat.reduceMul, Nat.reduceBEq, Option.getD_none, Int.reduceToNat, Nat.reduceSub, Nat.reduceLT, Nat.reduceLeDiff, Int.reduceLE, Int.reduceLT, reduceCtorEq, g0, g4, j0, j4, g6, gm, g5, gr]
    have j6 : s3 6 = aI a := by rw [ho 6 rfl]; simp only [go_sem, ↓reduceIte, Nat.reduceEqDiff, Nat.reduceAdd, Nat.reduceMul, Nat.reduceBEq, Option.getD_none, Int.reduceToNat, Nat.reduceSub, Nat.reduceLT, Nat.reduceLeDiff, Int.reduceLE, Int.reduceLT, reduceCtorEq, g0, g4, j0, j4, g6, gm, g5, gr]
    clear ho
    by_cases hlt2 : b < n
    · have hi2 : (b : Int) < n := by omega
      have hw2 : IntKind.i64.wrap (b + 1) = ((b + 1 : Nat) : Int) := wrap_k hlt2 (by omega)
      have f1 := spec_pl1Cur_one.fc u 3 (m := m + 4 + 14 * (7 - (a + 1)) + 2 * (7 - (b + 1))) (hu.mono (by omega))
      have o1 : CurOk (pickC u 3) (m + 4 + 14 * (7 - (a + 1)) + 2 * (7 - (b + 1))) := pickC_ok (hu.mono (by omega))
      generalize pickC u 3 = u1 at f1 o1
      simp only [go_sem, ↓reduceIte, Nat.reduceEqDiff, Nat.reduceAdd, Nat.reduceMul, Nat.reduceBEq, Option.getD_none, Int.reduceToNat, Nat.reduceSub, Nat.reduceLT, Nat.reduceLeDiff, Int.reduceLE, Int.reduceLT, reduceCtorEq, hi2, g0, g4, j0, j4, g6, gm, g5, gr, j0, j4, j6, q7, qm, q5, qr]
      refine coW_c f1 ?_
      cases (pickV u 3 == 0) with
      | false =>
        simp only [go_sem, ↓reduceIte, Nat.reduceEqDiff, Nat.reduceAdd, Nat.reduceMul, Nat.reduceBEq, Option.getD_none, Int.reduceToNat, Nat.reduceSub, Nat.reduceLT, Nat.reduceLeDiff, Int.reduceLE, Int.reduceLT, reduceCtorEq, hw2, g0, g4, j0, j4, g6, gm, g5, gr, j0, j4, j6, q7, qm, q5, qr]
        exact ⟨(b + 1, l, u1), by dsimp only; omega, by dsimp only; omega, hl, o1, by simp only [go_sem, ↓reduceIte, Nat.reduceEqDiff, Nat.reduceAdd, Nat.reduceMul, Nat.reduceBEq, Option.getD_none, Int.reduceToNat, Nat.reduceSub, Nat.reduceLT, Nat.reduceLeDiff, Int.reduceLE, Int.reduceLT, reduceCtorEq, g0, g4, j0, j4, g6, gm, g5, gr, j0, j4, j6, q7, qm, q5, qr], by simp only [go_sem, ↓reduceIte, Nat.reduceEqDiff, Nat.reduceAdd, Nat.reduceMul, Nat.reduceBEq, Option.getD_none, Int.reduceToNat, Nat.reduceSub, Nat.reduceLT, Nat.reduceLeDiff, Int.reduceLE, Int.reduceLT, reduceCtorEq, g0, g4, j0, j4, g6, gm, g5, gr, j0, j4, j6, q7, qm, q5, qr], v, by simp only [go_sem, ↓reduceIte, Nat.reduceEqDiff, Nat.reduceAdd, Nat.reduceMul, Nat.reduceBEq, Option.getD_none, Int.reduceToNat, Nat.reduceSub, Nat.reduceLT, Nat.reduceLeDiff, Int.reduceLE, Int.reduceLT, reduceCtorEq, g0, g4, j0, j4, g6, gm, g5, gr, j0, j4, j6, q7, qm, q5, qr], by simp only [go_sem, ↓reduceIte, Nat.reduceEqDiff, Nat.reduceAdd, Nat.reduceMul, Nat.reduceBEq, Option.getD_none, Int.reduceToNat, Nat.reduceSub, Nat.reduceLT, Nat.reduceLeDiff, Int.reduceLE, Int.reduceLT, reduceCtorEq, g0, g4, j0, j4, g6, gm, g5, gr, j0, j4, j6, q7, qm, q5, qr]⟩
      | true =>
        by_cases h30 : (l.length : Int) < 30
        · have hbb : (l.length + 1) * 16 ≤ 70368744177664 := by omega
          have sn : l.map arcD ++ [arcD ((a : Int), (b : Int))] = (l ++ [((a : Int), (b : Int))]).map arcD := by simp
          simp only [go_sem, ↓reduceIte, Nat.reduceEqDiff, Nat.reduceAdd, Nat.reduceMul, Nat.reduceBEq, Option.getD_none, Int.reduceToNat, Nat.reduceSub, Nat.reduceLT, Nat.reduceLeDiff, Int.reduceLE, Int.reduceLT, reduceCtorEq, h30, hw2, hbb, take_map_len, g0, g4, j0, j4, g6, gm, g5, gr, j0, j4, j6, q7, qm, q5, qr]
          exact ⟨(b + 1, l ++ [((a : Int), (b : Int))], u1), by dsimp only; omega, by dsimp only; omega, by simp; omega, o1, by simp only [go_sem, ↓reduceIte, Nat.reduceEqDiff, Nat.reduceAdd, Nat.reduceMul, Nat.reduceBEq, Option.getD_none, Int.reduceToNat, Nat.reduceSub, Nat.reduceLT, Nat.reduceLeDiff, Int.reduceLE, Int.reduceLT, reduceCtorEq, g0, g4, j0, j4, g6, gm, g5, gr, j0, j4, j6, q7, qm, q5, qr], by simp only [go_sem, ↓reduceIte, Nat.reduceEqDiff, Nat.reduceAdd, Nat.reduceMul, Nat.reduceBEq, Option.getD_none, Int.reduceToNat, Nat.reduceSub, Nat.reduceLT, Nat.reduceLeDiff, Int.reduceLE, Int.reduceLT, reduceCtorEq, g0, g4, j0, j4, g6, gm, g5, gr, j0, j4, j6, q7, qm, q5, qr], _, by simp only [go_sem, ↓reduceIte, Nat.reduceEqDiff, Nat.reduceAdd, Nat.reduceMul, Nat.reduceBEq, Option.getD_none, Int.reduceToNat, Nat.reduceSub, Nat.reduceLT, Nat.reduceLeDiff, Int.reduceLE, Int.reduceLT, reduceCtorEq, List.length_append, g0, g4, j0, j4, g6, gm, g5, gr, j0, j4, j6, q7, qm, q5, qr]; rfl, by simp only [go_sem, ↓reduceIte, Nat.reduceEqDiff, Nat.reduceAdd, Nat.reduceMul, Nat.reduceBEq, Option.getD_none, Int.reduceToNat, Nat.reduceSub, Nat.reduceLT, Nat.reduceLeDiff, Int.reduceLE, Int.reduceLT, reduceCtorEq, g0, g4, j0, j4, g6, gm, g5, gr, j0, j4, j6, q7, qm, q5, qr]; rw [← sn]⟩
        · simp only [go_sem, ↓reduceIte, Nat.reduceEqDiff, Nat.reduceAdd, Nat.reduceMul, Nat.reduceBEq, Option.getD_none, Int.reduceToNat, Nat.reduceSub, Nat.reduceLT, Nat.reduceLeDiff, Int.reduceLE, Int.reduceLT, reduceCtorEq, h30, hw2, g0, g4, j0, j4, g6, gm, g5, gr, j0, j4, j6, q7, qm, q5, qr]
          exact ⟨(b + 1, l, u1), by dsimp only; omega, by dsimp only; omega, hl, o1, by simp only [go_sem, ↓reduceIte, Nat.reduceEqDiff, Nat.reduceAdd, Nat.reduceMul, Nat.reduceBEq, Option.getD_none, Int.reduceToNat, Nat.reduceSub, Nat.reduceLT, Nat.reduceLeDiff, Int.reduceLE, Int.reduceLT, reduceCtorEq, g0, g4, j0, j4, g6, gm, g5, gr, j0, j4, j6, q7, qm, q5, qr], by simp only [go_sem, ↓reduceIte, Nat.reduceEqDiff, Nat.reduceAdd, Nat.reduceMul, Nat.reduceBEq, Option.getD_none, Int.reduceToNat, Nat.reduceSub, Nat.reduceLT, Nat.reduceLeDiff, Int.reduceLE, Int.reduceLT, reduceCtorEq, g0, g4, j0, j4, g6, gm, g5, gr, j0, j4, j6, q7, qm, q5, qr], v, by simp only [go_sem, ↓reduceIte, Nat.reduceEqDiff, Nat.reduceAdd, Nat.reduceMul, Nat.reduceBEq, Option.getD_none, Int.reduceToNat, Nat.reduceSub, Nat.reduceLT, Nat.reduceLeDiff, Int.reduceLE, Int.reduceLT, reduceCtorEq, g0, g4, j0, j4, g6, gm, g5, gr, j0, j4, j6, q7, qm, q5, qr], by simp only [go_sem, ↓reduceIte, Nat.reduceEqDiff, Nat.reduceAdd, Nat.reduceMul, Nat.reduceBEq, Option.getD_none, Int.reduceToNat, Nat.reduceSub, Nat.reduceLT, Nat.reduceLeDiff, Int.reduceLE, Int.reduceLT, reduceCtorEq, g0, g4, j0, j4, g6, gm, g5, gr, j0, j4, j6, q7, qm, q5, qr]⟩
    · obtain rfl : b = n := by omega
      simp only [go_sem, ↓reduceIte, Nat.reduceEqDiff, Nat.reduceAdd, Nat.reduceMul, Nat.reduceBEq, Option.getD_none, Int.reduceToNat, Nat.reduceSub, Nat.reduceLT, Nat.reduceLeDiff, Int.reduceLE, Int.reduceLT, reduceCtorEq, Int.lt_irrefl, hw, g0, g4, j0, j4, g6, gm, g5, gr, j0, j4, j6, q7, qm, q5, qr]
      exact ⟨(a + 1, l, u), by dsimp only; omega, by dsimp only; omega, hl, hu.mono (by omega), by simp only [go_sem, ↓reduceIte, Nat.reduceEqDiff, Nat.reduceAdd, Nat.reduceMul, Nat.reduceBEq, Option.getD_none, Int.reduceToNat, Nat.reduceSub, Nat.reduceLT, Nat.reduceLeDiff, Int.reduceLE, Int.reduceLT, reduceCtorEq, g0, g4, j0, j4, g6, gm, g5, gr, j0, j4, j6, q7, qm, q5, qr], by simp only [go_sem, ↓reduceIte, Nat.reduceEqDiff, Nat.reduceAdd, Nat.reduceMul, Nat.reduceBEq, Option.getD_none, Int.reduceToNat, Nat.reduceSub, Nat.reduceLT, Nat.reduceLeDiff, Int.reduceLE, Int.reduceLT, reduceCtorEq, g0, g4, j0, j4, g6, gm, g5, gr, j0, j4, j6, q7, qm, q5, qr], v, by simp only [go_sem, ↓reduceIte, Nat.reduceEqDiff, Nat.reduceAdd, Nat.reduceMul, Nat.reduceBEq, Option.getD_none, Int.reduceToNat, Nat.reduceSub, Nat.reduceLT, Nat.reduceLeDiff, Int.reduceLE, Int.reduceLT, reduceCtorEq, g0, g4, j0, j4, g6, gm, g5, gr, j0, j4, j6, q7, qm, q5, qr], by simp only [go_sem, ↓reduceIte, Nat.reduceEqDiff, Nat.reduceAdd, Nat.reduceMul, Nat.reduceBEq, Option.getD_none, Int.reduceToNat, Nat.reduceSub, Nat.reduceLT, Nat.reduceLeDiff, Int.reduceLE, Int.reduceLT, reduceCtorEq, g0, g4, j0, j4, g6, gm, g5, gr, j0, j4, j6, q7, qm, q5, qr]⟩
  · obtain rfl : a = n := by omega
    by_cases h1 : (l.length : Int) > 1
    · have f1 := spec_pl1Cur_one.fc u 30 (m := m) (hu.mono (by omega))
      have o1 : CurOk (pickC u 30) m := pickC_ok (hu.mono (by omega))
      generalize pickC u 30 = u1 at f1 o1
      simp only [go_sem, ↓reduceIte, Nat.reduceEqDiff, Nat.reduceAdd, Nat.reduceMul, Nat.reduceBEq, Option.getD_none, Int.reduceToNat, Nat.reduceSub, Nat.reduceLT, Nat.reduceLeDiff, Int.reduceLE, Int.reduceLT, reduceCtorEq, Int.lt_irrefl, h1, g0, g4, j0, j4, g6, gm, g5, gr]
      refine coW_c f1 ?_
      cases (pickV u 30 == 0) with
      | false =>
        simp only [go_sem, ↓reduceIte, Nat.reduceEqDiff, Nat.reduceAdd, Nat.reduceMul, Nat.reduceBEq, Option.getD_none, Int.reduceToNat, Nat.reduceSub, Nat.reduceLT, Nat.reduceLeDiff, Int.reduceLE, Int.reduceLT, reduceCtorEq, take_map_len, g0, g4, j0, j4, g6, gm, g5, gr]
        exact ArcsQ.mk (by omega) hl o1
      | true =>
        have k1 : (1 : Int) < l.length := by omega
        have k0 : (0 : Int) < l.length := by omega
        have e1 : l[1]? = some l[1] := List.getElem?_eq_getElem (by omega)
        have e0 : l[0]? = some l[0] := List.getElem?_eq_getElem (by omega)
        have sn : (l.map arcD).set 0 (arcD l[1]) = (l.set 0 l[1]).map arcD := by rw [List.map_set]
        have sl : (l.set 0 l[1]).length = l.length := by simp
        have hle : l.length ≤ (l.set 0 l[1]).length := by rw [sl]; exact Nat.le_refl _
        have tk : ((l.set 0 l[1]).map arcD).take l.length = (l.set 0 l[1]).map arcD := List.take_of_length_le (by simp)
        simp only [go_sem, ↓reduceIte, Nat.reduceEqDiff, Nat.reduceAdd, Nat.reduceMul, Nat.reduceBEq, Option.getD_none, Int.reduceToNat, Nat.reduceSub, Nat.reduceLT, Nat.reduceLeDiff, Int.reduceLE, Int.reduceLT, reduceCtorEq, k1, k0, e1, e0, sn, hle, tk, g0, g4, j0, j4, g6, gm, g5, gr]
        exact ArcsQ.mk (by omega) (by rw [sl]; exact hl) o1
    · simp only [go_sem, ↓reduceIte, Nat.reduceEqDiff, Nat.reduceAdd, Nat.reduceMul, Nat.reduceBEq, Option.getD_none, Int.reduceToNat, Nat.reduceSub, Nat.reduceLT, Nat.reduceLeDiff, Int.reduceLE, Int.reduceLT, reduceCtorEq, Int.lt_irrefl, h1, take_map_len, g0, g4, j0, j4, g6, gm, g5, gr]
      exact ArcsQ.mk (by omega) hl (hu.mono (by omega))
end Go.Vm.Ytdebllkmblakkaa
/- Walks: walks out of bytes; rows of arcs that are the same. -/
namespace Go.Vm.Ytdebllkmblakkaa
open Go Go.Vm
set_option maxRecDepth 10000
set_option maxHeartbeats 16000000
set_option linter.unusedSimpArgs false
set_option linter.unusedVariables false

theorem laws_sameArcs.fc (a b : List (Int × Int)) (e : a = b) (ha : a.length ≤ 4294967296) : FCt prog F_laws_sameArcs [.ro, .ro] [arcs a, arcs b] (Bb true) [] := by
  subst e
  refine fct_run laws_sameArcs.ok rfl ?_
  simp only [go_sem, ↓reduceIte, Nat.reduceEqDiff, Nat.reduceAdd, Nat.reduceMul, Nat.reduceBEq, Option.getD_none, Int.reduceToNat, Nat.reduceSub, Nat.reduceLT, Nat.reduceLeDiff, Int.reduceLE, Int.reduceLT, reduceCtorEq]
  refine R_loop (α := Nat) (fun k s' M' => k ≤ a.length ∧ s' 13 = aI k) (fun k => a.length - k) 0 ⟨Nat.zero_le _, by simp only [go_sem, ↓reduceIte, Nat.reduceEqDiff, Nat.reduceAdd, Nat.reduceMul, Nat.reduceBEq, Option.getD_none, Int.reduceToNat, Nat.reduceSub, Nat.reduceLT, Nat.reduceLeDiff, Int.reduceLE, Int.reduceLT, reduceCtorEq]; rfl⟩ ?_
  rintro k s' M' ⟨hk, h13⟩ ho
  unfold laws_sameArcs.b0
  have j0 : s' 0 = .dat none (arcs a) := by rw [ho 0 rfl]; simp only [go_sem, ↓reduceIte, Nat.reduceEqDiff, Nat.reduceAdd, Nat.reduceMul, Nat.reduceBEq, Option.getD_none, Int.reduceToNat, Nat.reduceSub, Nat.reduceLT, Nat.reduceLeDiff, Int.reduceLE, Int.reduceLT, reduceCtorEq]
  have j1 : s' 1 = .dat none (arcs a) := by rw [ho 1 rfl]; simp only [go_sem, ↓reduceIte, Nat.reduceEqDiff, Nat.reduceAdd, Nat.reduceMul, Nat.reduceBEq, Option.getD_none, Int.reduceToNat, Nat.reduceSub, Nat.reduceLT, Nat.reduceLeDiff, Int.reduceLE, Int.reduceLT, reduceCtorEq]
  have j12 : s' 12 = aI a.length := by rw [ho 12 rfl]; simp only [go_sem, ↓reduceIte, Nat.reduceEqDiff, Nat.reduceAdd, Nat.reduceMul, Nat.reduceBEq, Option.getD_none, Int.reduceToNat, Nat.reduceSub, Nat.reduceLT, Nat.reduceLeDiff, Int.reduceLE, Int.reduceLT, reduceCtorEq]
  clear ho
  have tt : (true != true) = false := rfl
  by_cases hlt : k < a.length
  · have hi' : (k : Int) < a.length := by omega
    have ga : a[k]? = some a[k] := List.getElem?_eq_getElem hlt
    have hw : IntKind.i64.wrap (k + 1) = ((k + 1 : Nat) : Int) := wrap_k hlt (by omega)
    simp only [go_sem, ↓reduceIte, Nat.reduceEqDiff, Nat.reduceAdd, Nat.reduceMul, Nat.reduceBEq, Option.getD_none, Int.reduceToNat, Nat.reduceSub, Nat.reduceLT, Nat.reduceLeDiff, Int.reduceLE, Int.reduceLT, reduceCtorEq, hi', ga, hw, tt, j0, j1, j12, h13]
    exact ⟨k + 1, by dsimp only; omega, by omega, by simp only [go_sem, ↓reduceIte, Nat.reduceEqDiff, Nat.reduceAdd, Nat.reduceMul, Nat.reduceBEq, Option.getD_none, Int.reduceToNat, Nat.reduceSub, Nat.reduceLT, Nat.reduceLeDiff, Int.reduceLE, Int.reduceLT, reduceCtorEq, j0, j1, j12, h13]⟩
  · have hi' : ¬ (k : Int) < a.length := by omega
    obtain rfl : k = a.length := by omega
    simp only [go_sem, ↓reduceIte, Nat.reduceEqDiff, Nat.reduceAdd, Nat.reduceMul, Nat.reduceBEq, Option.getD_none, Int.reduceToNat, Nat.reduceSub, Nat.reduceLT, Nat.reduceLeDiff, Int.reduceLE, Int.reduceLT, reduceCtorEq, Int.lt_irrefl, j0, j1, j12, h13]; try rfl
def WalkQ (m : Nat) (r : D) (outs : List D) : Prop := ∃ (w : List Int) (c' : CurD), r = ints w ∧ outs = [.ptr c'.d] ∧ w.length ≤ 8 ∧ CurOk c' m
theorem WalkQ.mk {m : Nat} {w : List Int} {c' : CurD} (h2 : w.length ≤ 8) (h3 : CurOk c' m) : WalkQ m (ints w) [.ptr c'.d] := ⟨w, c', rfl, rfl, h2, h3⟩
theorem walk_ex (c : CurD) (n : Int) (l : List (Int × Int)) (hl : l.length ≤ 30) {m : Nat} (h : CurOk c (m + 1000)) : ∃ (w : List Int) (c' : CurD), w.length ≤ 8 ∧ CurOk c' m ∧ FCt prog F_spec_pl1Cur_walk [.io, .ro, .ro] [.ptr c.d, Ii n, arcs l] (ints w) [.ptr c'.d] := by
  suffices H : ∃ r outs, WalkQ m r outs ∧ FCt prog F_spec_pl1Cur_walk [.io, .ro, .ro] [.ptr c.d, Ii n, arcs l] r outs by
    obtain ⟨_, _, ⟨w, c', rfl, rfl, h1, h2⟩, hf⟩ := H
    exact ⟨w, c', h1, h2, hf⟩
  refine fct_ex _ spec_pl1Cur_walk.ok rfl rfl ?_
  have f1 := spec_pl1Cur_pick.fc c n (m := m + 998) h
  have o1 : CurOk (pickC c n) (m + 998) := pickC_ok h
  generalize pickV c n = x1 at f1
  generalize pickC c n = c1 at f1 o1
  have f2 := spec_pl1Cur_pick.fc c1 8 (m := m + 996) o1
  have o2 : CurOk (pickC c1 8) (m + 996) := pickC_ok o1
  have p2 := pickV_in (c := c1) (n := 8) (by omega)
  generalize pickV c1 8 = x2 at f2 p2
  generalize pickC c1 8 = c2 at f2 o2
  obtain ⟨N, rfl⟩ : ∃ N : Nat, x2 = N := ⟨x2.toNat, by omega⟩
  simp only [go_sem, ↓reduceIte, Nat.reduceEqDiff, Nat.reduceAdd, Nat.reduceMul, Nat.reduceBEq, Option.getD_none, Int.reduceToNat, Nat.reduceSub, Nat.reduceLT, Nat.reduceLeDiff, Int.reduceLE, Int.reduceLT, reduceCtorEq]
  refine coW_c f1 ?_
  simp only [go_sem, ↓reduceIte, Nat.reduceEqDiff, Nat.reduceAdd, Nat.reduceMul, Nat.reduceBEq, Option.getD_none, Int.reduceToNat, Nat.reduceSub, Nat.reduceLT, Nat.reduceLeDiff, Int.reduceLE, Int.reduceLT, reduceCtorEq]
  refine coW_c f2 ?_
  simp only [go_sem, ↓reduceIte, Nat.reduceEqDiff, Nat.reduceAdd, Nat.reduceMul, Nat.reduceBEq, Option.getD_none, Int.reduceToNat, Nat.reduceSub, Nat.reduceLT, Nat.reduceLeDiff, Int.reduceLE, Int.reduceLT, reduceCtorEq]
  refine R_loop (α := Nat × List Int × CurD) (fun a s' M' => a.1 ≤ N ∧ a.2.1.length + a.1 = N + 1 ∧ CurOk a.2.2 (m + 100 * a.1) ∧ s' 8 = aI a.1 ∧ M'.m 0 = some (.box 0 (curA a.2.2)) ∧ ∃ v, s' 7 = .sl 320 v 0 a.2.1.length 1 ∧ M'.m 320 = some (.arr v true 1 (a.2.1.map Ii))) (fun a => a.1) (N, [x1], c2)
    ⟨Nat.le_refl _, by simp; omega, o2.mono (by omega), by simp only [go_sem, ↓reduceIte, Nat.reduceEqDiff, Nat.reduceAdd, Nat.reduceMul, Nat.reduceBEq, Option.getD_none, Int.reduceToNat, Nat.reduceSub, Nat.reduceLT, Nat.reduceLeDiff, Int.reduceLE, Int.reduceLT, reduceCtorEq]; try rfl, by simp only [go_sem, ↓reduceIte, Nat.reduceEqDiff, Nat.reduceAdd, Nat.reduceMul, Nat.reduceBEq, Option.getD_none, Int.reduceToNat, Nat.reduceSub, Nat.reduceLT, Nat.reduceLeDiff, Int.reduceLE, Int.reduceLT, reduceCtorEq]; try rfl, _, by simp only [go_sem, ↓reduceIte, Nat.reduceEqDiff, Nat.reduceAdd, Nat.reduceMul, Nat.reduceBEq, Option.getD_none, Int.reduceToNat, Nat.reduceSub, Nat.reduceLT, Nat.reduceLeDiff, Int.reduceLE, Int.reduceLT, reduceCtorEq]; try rfl, by simp only [go_sem, ↓reduceIte, Nat.reduceEqDiff, Nat.reduceAdd, Nat.reduceMul, Nat.reduceBEq, Option.getD_none, Int.reduceToNat, Nat.reduceSub, Nat.reduceLT, Nat.reduceLeDiff, Int.reduceLE, Int.reduceLT, reduceCtorEq]; try rfl⟩ ?_
  clear f1 f2 o1 o2
  rintro ⟨j, w, u⟩ s2 M2 ⟨hj, hwl, hu, g8, gm, v, g7, gr⟩ ho
  dsimp only at hj hwl hu g8 gm g7 gr
  unfold spec_pl1Cur_walk.b1
  have j0 : s2 0 = .ptr 0 0 0 none := by rw [ho 0 rfl]; simp only [go_sem, ↓reduceIte, Nat.reduceEqDiff, Nat.reduceAdd, Nat.reduceMul, Nat.reduceBEq, Option.getD_none, Int.reduceToNat, Nat.reduceSub, Nat.reduceLT, Nat.reduceLeDiff, Int.reduceLE, Int.reduceLT, reduceCtorEq]
  have j1 : s2 1 = aI n := by rw [ho 1 rfl]; simp only [go_sem, ↓reduceIte, Nat.reduceEqDiff, Nat.reduceAdd, Nat.reduceMul, Nat.reduceBEq, Option.getD_none, Int.reduceToNat, Nat.reduceSub, Nat.reduceLT, Nat.reduceLeDiff, Int.reduceLE, Int.reduceLT, reduceCtorEq]
  have j2 : s2 2 = .dat none (arcs l) := by rw [ho 2 rfl]; simp only [go_sem, ↓reduceIte, Nat.reduceEqDiff, Nat.reduceAdd, Nat.reduceMul, Nat.reduceBEq, Option.getD_none, Int.reduceToNat, Nat.reduceSub, Nat.reduceLT, Nat.reduceLeDiff, Int.reduceLE, Int.reduceLT, reduceCtorEq]
  clear ho
  cases j with
  | zero =>
    have hz : ¬ ((0 : Nat) : Int) > 0 := by omega
    simp only [go_sem, ↓reduceIte, Nat.reduceEqDiff, Nat.reduceAdd, Nat.reduceMul, Nat.reduceBEq, Option.getD_none, Int.reduceToNat, Nat.reduceSub, Nat.reduceLT, Nat.reduceLeDiff, Int.reduceLE, Int.reduceLT, reduceCtorEq, hz, take_map_len, j0, j1, j2, g8, gm, g7, gr]
    exact WalkQ.mk (by omega) hu
  | succ j =>
    have hz : ((j + 1 : Nat) : Int) > 0 := by omega
    have hw : IntKind.i64.wrap (((j + 1 : Nat) : Int) - 1) = (j : Int) := by rw [wrap_in (by omega) (by omega)]; omega
    have f1 := spec_pl1Cur_pick.fc u n (m := m + 100 * j + 98) (hu.mono (by omega))
    have o1 : CurOk (pickC u n) (m + 100 * j + 98) := pickC_ok (hu.mono (by omega))
    generalize pickV u n = t0 at f1
    generalize pickC u n = u1 at f1 o1
    simp only [go_sem, ↓reduceIte, Nat.reduceEqDiff, Nat.reduceAdd, Nat.reduceMul, Nat.reduceBEq, Option.getD_none, Int.reduceToNat, Nat.reduceSub, Nat.reduceLT, Nat.reduceLeDiff, Int.reduceLE, Int.reduceLT, reduceCtorEq, hz, j0, j1, j2, g8, gm, g7, gr]
    refine coW_c f1 ?_
    simp only [go_sem, ↓reduceIte, Nat.reduceEqDiff, Nat.reduceAdd, Nat.reduceMul, Nat.reduceBEq, Option.getD_none, Int.reduceToNat, Nat.reduceSub, Nat.reduceLT, Nat.reduceLeDiff, Int.reduceLE, Int.reduceLT, reduceCtorEq, j0, j1, j2, g8, gm, g7, gr]
    refine R_cut (fun e s' M' => e = .ex 2 ∧ ∃ (t : Int) (u : CurD), CurOk u (m + 100 * j) ∧ s' 9 = aI t ∧ M'.m 0 = some (.box 0 (curA u)) ∧ M'.m 320 = some (.arr v true 1 (w.map Ii))) ?_ ?_
    · refine R_loop (α := Nat × Int × CurD) (fun a s' M' => a.1 ≤ l.length ∧ CurOk a.2.2 (m + 100 * j + 2 * (30 - a.1)) ∧ s' 27 = aI a.1 ∧ s' 9 = aI a.2.1 ∧ M'.m 0 = some (.box 0 (curA a.2.2)) ∧ M'.m 320 = some (.arr v true 1 (w.map Ii))) (fun a => l.length - a.1) (0, t0, u1)
        ⟨Nat.zero_le _, o1.mono (by omega), by simp only [go_sem, ↓reduceIte, Nat.reduceEqDiff, Nat.reduceAdd, Nat.reduceMul, Nat.reduceBEq, Option.getD_none, Int.reduceToNat, Nat.reduceSub, Nat.reduceLT, Nat.reduceLeDiff, Int.reduceLE, Int.reduceLT, reduceCtorEq, j0, j1, j2, g8, gm, g7, gr]; try rfl, by simp only [go_sem, ↓reduceIte, Nat.reduceEqDiff, Nat.reduceAdd, Nat.reduceMul, Nat.reduceBEq, Option.getD_none, Int.reduceToNat, Nat.reduceSub, Nat.reduceLT, Nat.reduceLeDiff, Int.reduceLE, Int.reduceLT, reduceCtorEq, j0, j1, j2, g8, gm, g7, gr]; try rfl, by simp only [go_sem, ↓reduceIte, Nat.reduceEqDiff, Nat.reduceAdd, Nat.reduceMul, Nat.reduceBEq, Option.getD_none, Int.reduceToNat, Nat.reduceSub, Nat.reduceLT, Nat.reduceLeDiff, Int.reduceLE, Int.reduceLT, reduceCtorEq, j0, j1, j2, g8, gm, g7, gr]; try rfl, by simp only [go_sem, ↓reduceIte, Nat.reduceEqDiff, Nat.reduceAdd, Nat.reduceMul, Nat.reduceBEq, Option.getD_none, Int.reduceToNat, Nat.reduceSub, Nat.reduceLT, Nat.reduceLeDiff, Int.reduceLE, Int.reduceLT, reduceCtorEq, j0, j1, j2, g8, gm, g7, gr]; try rfl⟩ ?_
      rintro ⟨i, t, u⟩ s3 M3 ⟨hi, hu, q27, q9, qm, qr⟩ ho
      dsimp only at hi hu q27 q9 qm qr
      unfold spec_pl1Cur_walk.b0
      have q0 : s3 0 = .ptr 0 0 0 none := by rw [ho 0 rfl]; simp only [go_sem, ↓reduceIte, Nat.reduceEqDiff, Nat.reduceAdd, Nat.reduceMul, Nat.reduceBEq, Option.getD_none, Int.reduceToNat, Nat.reduceSub, Nat.reduceLT, Nat.reduceLeDiff, Int.reduceLE, Int.reduceLT, reduceCtorEq, j0, j1, j2, g8, gm, g7, gr]
      have q7 : s3 7 = .sl 320 v 0 w.length 1 := by rw [ho 7 rfl]; simp only [go_sem, ↓reduceIte, Nat.reduceEqDiff, Nat.reduceAdd, Nat.reduceMul, Nat.reduceBEq, Option.getD_none, Int.reduceToNat, Nat.reduceSub, Nat.reduceLT, Nat.reduceLeDiff, Int.reduceLE, Int.reduceLT, reduceCtorEq, j0, j1, j2, g8, gm, g7, gr]
      have q25 : s3 25 = .dat none (arcs l) := by rw [ho 25 rfl]; simp only [go_sem, ↓reduceIte, Nat.reduceEqDiff, Nat.reduceAdd, Nat.reduceMul, Nat.reduceBEq, Option.getD_none, Int.reduceToNat, Nat.reduceSub, Nat.reduceLT, Nat.reduceLeDiff, Int.reduceLE, Int.reduceLT, reduceCtorEq, j0, j1, j2, g8, gm, g7, gr]
      have q26 : s3 26 = aI l.length := by rw [ho 26 rfl]; simp only [go_sem, ↓reduceIte, Nat.reduceEqDiff, Nat.reduceAdd, Nat.reduceMul, Nat.reduceBEq, Option.getD_none, Int.reduceToNat, Nat.reduceSub, Nat.reduceLT, Nat.reduceLeDiff, Int.reduceLE, Int.reduceLT, reduceCtorEq, j0, j1, j2, g8, gm, g7, gr]
      clear ho
      by_cases hlt : i < l.length
      · have hi' : (i : Int) < l.length := by omega
        have ga : l[i]? = some l[i] := List.getElem?_eq_getElem hlt
        have hw : IntKind.i64.wrap (i + 1) = ((i + 1 : Nat) : Int) := wrap_k hlt (by omega)
        have wl : IntKind.i64.wrap ((w.length : Int) - 1) = ((w.length - 1 : Nat) : Int) := by rw [wrap_in (by omega) (by omega)]; omega
        have wi : ((w.length - 1 : Nat) : Int) < w.length := by omega
        have gw : w[w.length - 1]? = some (w.getD (w.length - 1) 0) := getD_sm (by omega)
        cases hc : (l[i].1 == w.getD (w.length - 1) 0) with
        | false =>
          simp only [go_sem, ↓reduceIte, Nat.reduceEqDiff, Nat.reduceAdd, Nat.reduceMul, Nat.reduceBEq, Option.getD_none, Int.reduceToNat, Nat.reduceSub, Nat.reduceLT, Nat.reduceLeDiff, Int.reduceLE, Int.reduceLT, reduceCtorEq, hi', ga, wl, wi, gw, hc, hw, j0, j1, j2, g8, gm, g7, gr, q0, q7, q25, q26, q27, q9, qm, qr]
          exact ⟨(i + 1, t, u), by dsimp only; omega, by dsimp only; omega, hu.mono (by omega), by simp only [go_sem, ↓reduceIte, Nat.reduceEqDiff, Nat.reduceAdd, Nat.reduceMul, Nat.reduceBEq, Option.getD_none, Int.reduceToNat, Nat.reduceSub, Nat.reduceLT, Nat.reduceLeDiff, Int.reduceLE, Int.reduceLT, reduceCtorEq, j0, j1, j2, g8, gm, g7, gr, q0, q7, q25, q26, q27, q9, qm, qr], by simp only [go_sem, ↓reduceIte, Nat.reduceEqDiff, Nat.reduceAdd, Nat.reduceMul, Nat.reduceBEq, Option.getD_none, Int.reduceToNat, Nat.reduceSub, Nat.reduceLT, Nat.reduceLeDiff, Int.reduceLE, Int.reduceLT, reduceCtorEq, j0, j1, j2, g8, gm, g7, gr, q0, q7, q25, q26, q27, q9, qm, qr], by simp only [go_sem, ↓reduceIte, Nat.reduceEqDiff, Nat.reduceAdd, Nat.reduceMul, Nat.reduceBEq, Option.getD_none, Int.reduceToNat, Nat.reduceSub, Nat.reduceLT, Nat.reduceLeDiff, Int.reduceLE, Int.reduceLT, reduceCtorEq, j0, j1, j2, g8, gm, g7, gr, q0, q7, q25, q26, q27, q9, qm, qr], by simp only [go_sem, ↓reduceIte, Nat.reduceEqDiff, Nat.reduceAdd, Nat.reduceMul, Nat.reduceBEq, Option.getD_none, Int.reduceToNat, Nat.reduceSub, Nat.reduceLT, Nat.reduceLeDiff, Int.reduceLE, Int.reduceLT, reduceCtorEq, j0, j1, j2, g8, gm, g7, gr, q0, q7, q25, q26, q27, q9, qm, qr]⟩
        | true =>
          have f2 := spec_pl1Cur_one.fc u 2 (m := m + 100 * j + 2 * (30 - (i + 1))) (hu.mono (by omega))
          have o2 : CurOk (pickC u 2) (m + 100 * j + 2 * (30 - (i + 1))) := pickC_ok (hu.mono (by omega))
          generalize pickC u 2 = u2 at f2 o2
          simp only [go_sem, ↓reduceIte, Nat.reduceEqDiff, Nat.reduceAdd, Nat.reduceMul, Nat.reduceBEq, Option.getD_none, Int.reduceToNat, Nat.reduceSub, Nat.reduceLT, Nat.reduceLeDiff, Int.reduceLE, Int.reduceLT, reduceCtorEq, hi', ga, wl, wi, gw, hc, j0, j1, j2, g8, gm, g7, gr, q0, q7, q25, q26, q27, q9, qm, qr]
          refine coW_c f2 ?_
          cases (pickV u 2 == 0) with
          | false =>
            simp only [go_sem, ↓reduceIte, Nat.reduceEqDiff, Nat.reduceAdd, Nat.reduceMul, Nat.reduceBEq, Option.getD_none, Int.reduceToNat, Nat.reduceSub, Nat.reduceLT, Nat.reduceLeDiff, Int.reduceLE, Int.reduceLT, reduceCtorEq, hw, j0, j1, j2, g8, gm, g7, gr, q0, q7, q25, q26, q27, q9, qm, qr]
            exact ⟨(i + 1, t, u2), by dsimp only; omega, by dsimp only; omega, o2, by simp only [go_sem, ↓reduceIte, Nat.reduceEqDiff, Nat.reduceAdd, Nat.reduceMul, Nat.reduceBEq, Option.getD_none, Int.reduceToNat, Nat.reduceSub, Nat.reduceLT, Nat.reduceLeDiff, Int.reduceLE, Int.reduceLT, reduceCtorEq, j0, j1, j2, g8, gm, g7, gr, q0, q7, q25, q26, q27, q9, qm, qr], by simp only [go_sem, ↓reduceIte, Nat.reduceEqDiff, Nat.reduceAdd, Nat.reduceMul, Nat.reduceBEq, Option.getD_none, Int.reduceToNat, Nat.reduceSub, Nat.reduceLT, Nat.reduceLeDiff, Int.reduceLE, Int.reduceLT, reduceCtorEq, j0, j1, j2, g8, gm, g7, gr, q0, q7, q25, q26, q27, q9, qm, qr], by simp only [go_sem, ↓reduceIte, Nat.reduceEqDiff, Nat.reduceAdd, Nat.reduceMul, Nat.reduceBEq, Option.getD_none, Int.reduceToNat, Nat.reduceSub, Nat.reduceLT, Nat.reduceLeDiff, Int.reduceLE, Int.reduceLT, reduceCtorEq, j0, j1, j2, g8, gm, g7, gr, q0, q7, q25, q26, q27, q9, qm, qr], by simp only [go_sem, ↓reduceIte, Nat.reduceEqDiff, Nat.reduceAdd, Nat.reduceMul, Nat.reduceBEq, Option.getD_none, Int.reduceToNat, Nat.reduceSub, Nat.reduceLT, Nat.reduceLeDiff, Int.reduceLE, Int.reduceLT, reduceCtorEq, j0, j1, j2, g8, gm, g7, gr, q0, q7, q25, q26, q27, q9, qm, qr]⟩
          | true =>
            simp only [go_sem, ↓reduceIte, Nat.reduceEqDiff, Nat.reduceAdd, Nat.reduceMul, Nat.reduceBEq, Option.getD_none, Int.reduceToNat, Nat.reduceSub, Nat.reduceLT, Nat.reduceLeDiff, Int.reduceLE, Int.reduceLT, reduceCtorEq, hw, j0, j1, j2, g8, gm, g7, gr, q0, q7, q25, q26, q27, q9, qm, qr]
            exact ⟨(i + 1, l[i].2, u2), by dsimp only; omega, by dsimp only; omega, o2, by simp only [go_sem, ↓reduceIte, Nat.reduceEqDiff, Nat.reduceAdd, Nat.reduceMul, Nat.reduceBEq, Option.getD_none, Int.reduceToNat, Nat.reduceSub, Nat.reduceLT, Nat.reduceLeDiff, Int.reduceLE, Int.reduceLT, reduceCtorEq, j0, j1, j2, g8, gm, g7, gr, q0, q7, q25, q26, q27, q9, qm, qr], by simp only [go_sem, ↓reduceIte, Nat.reduceEqDiff, Nat.reduceAdd, Nat.reduceMul, Nat.reduceBEq, Option.getD_none, Int.reduceToNat, Nat.reduceSub, Nat.reduceLT, Nat.reduceLeDiff, Int.reduceLE, Int.reduceLT, reduceCtorEq, j0, j1, j2, g8, gm, g7, gr, q0, q7, q25, q26, q27, q9, qm, qr], by simp only [go_sem, ↓reduceIte, Nat.reduceEqDiff, Nat.reduceAdd, Nat.reduceMul, Nat.reduceBEq, Option.getD_none, Int.reduceToNat, Nat.reduceSub, Nat.reduceLT, Nat.reduceLeDiff, Int.reduceLE, Int.reduceLT, reduceCtorEq, j0, j1, j2, g8, gm, g7, gr, q0, q7, q25, q26, q27, q9, qm, qr], by simp only [go_sem, ↓reduceIte, Nat.reduceEqDiff, Nat.reduceAdd, Nat.reduceMul, Nat.reduceBEq, Option.getD_none, Int.reduceToNat, Nat.reduceSub, Nat.reduceLT, Nat.reduceLeDiff, Int.reduceLE, Int.reduceLT, reduceCtorEq, j0, j1, j2, g8, gm, g7, gr, q0, q7, q25, q26, q27, q9, qm, qr]⟩
      · obtain rfl : i = l.length := by omega
        simp only [go_sem, ↓reduceIte, Nat.reduceEqDiff, Nat.reduceAdd, Nat.reduceMul, Nat.reduceBEq, Option.getD_none, Int.reduceToNat, Nat.reduceSub, Nat.reduceLT, Nat.reduceLeDiff, Int.reduceLE, Int.reduceLT, reduceCtorEq, Int.lt_irrefl, j0, j1, j2, g8, gm, g7, gr, q0, q7, q25, q26, q27, q9, qm, qr]
        exact ⟨t, u, hu.mono (by omega), rfl, rfl⟩
    · rintro e s3 M3 ⟨rfl, t, u, hu, q9, qm, qr⟩ ho
      have q0 : s3 0 = .ptr 0 0 0 none := by rw [ho 0 rfl]; simp only [go_sem, ↓reduceIte, Nat.reduceEqDiff, Nat.reduceAdd, Nat.reduceMul, Nat.reduceBEq, Option.getD_none, Int.reduceToNat, Nat.reduceSub, Nat.reduceLT, Nat.reduceLeDiff, Int.reduceLE, Int.reduceLT, reduceCtorEq, j0, j1, j2, g8, gm, g7, gr]
      have q7 : s3 7 = .sl 320 v 0 w.length 1 := by rw [ho 7 rfl]; simp only [go_sem, ↓reduceIte, Nat.reduceEqDiff, Nat.reduceAdd, Nat.reduceMul, Nat.reduceBEq, Option.getD_none, Int.reduceToNat, Nat.reduceSub, Nat.reduceLT, Nat.reduceLeDiff, Int.reduceLE, Int.reduceLT, reduceCtorEq, j0, j1, j2, g8, gm, g7, gr]
      have q8 : s3 8 = aI ((j + 1 : Nat) : Int) := by rw [ho 8 rfl]; simp only [go_sem, ↓reduceIte, Nat.reduceEqDiff, Nat.reduceAdd, Nat.reduceMul, Nat.reduceBEq, Option.getD_none, Int.reduceToNat, Nat.reduceSub, Nat.reduceLT, Nat.reduceLeDiff, Int.reduceLE, Int.reduceLT, reduceCtorEq, j0, j1, j2, g8, gm, g7, gr]
      clear ho
      have hbb : (w.length + 1) * 8 ≤ 70368744177664 := by omega
      have sn : w.map Ii ++ [Ii t] = (w ++ [t]).map Ii := by simp
      simp only [go_sem, ↓reduceIte, Nat.reduceEqDiff, Nat.reduceAdd, Nat.reduceMul, Nat.reduceBEq, Option.getD_none, Int.reduceToNat, Nat.reduceSub, Nat.reduceLT, Nat.reduceLeDiff, Int.reduceLE, Int.reduceLT, reduceCtorEq, hw, hbb, take_map_len, j0, j1, j2, g8, gm, g7, gr, q0, q7, q8, q9, qm, qr]
      exact ⟨(j, w ++ [t], u), by dsimp only; omega, by dsimp only; omega, by simp; omega, hu, by simp only [go_sem, ↓reduceIte, Nat.reduceEqDiff, Nat.reduceAdd, Nat.reduceMul, Nat.reduceBEq, Option.getD_none, Int.reduceToNat, Nat.reduceSub, Nat.reduceLT, Nat.reduceLeDiff, Int.reduceLE, Int.reduceLT, reduceCtorEq, j0, j1, j2, g8, gm, g7, gr, q0, q7, q8, q9, qm, qr], by simp only [go_sem, ↓reduceIte, Nat.reduceEqDiff, Nat.reduceAdd, Nat.reduceMul, Nat.reduceBEq, Option.getD_none, Int.reduceToNat, Nat.reduceSub, Nat.reduceLT, Nat.reduceLeDiff, Int.reduceLE, Int.reduceLT, reduceCtorEq, j0, j1, j2, g8, gm, g7, gr, q0, q7, q8, q9, qm, qr], _, by simp only [go_sem, ↓reduceIte, Nat.reduceEqDiff, Nat.reduceAdd, Nat.reduceMul, Nat.reduceBEq, Option.getD_none, Int.reduceToNat, Nat.reduceSub, Nat.reduceLT, Nat.reduceLeDiff, Int.reduceLE, Int.reduceLT, reduceCtorEq, List.length_append, j0, j1, j2, g8, gm, g7, gr, q0, q7, q8, q9, qm, qr]; rfl, by simp only [go_sem, ↓reduceIte, Nat.reduceEqDiff, Nat.reduceAdd, Nat.reduceMul, Nat.reduceBEq, Option.getD_none, Int.reduceToNat, Nat.reduceSub, Nat.reduceLT, Nat.reduceLeDiff, Int.reduceLE, Int.reduceLT, reduceCtorEq, j0, j1, j2, g8, gm, g7, gr, q0, q7, q8, q9, qm, qr]; rw [← sn]⟩
theorem iw_ex (code : List Int) (hl : code.length ≤ 9223372036854775807) (h8 : ∀ b ∈ code, 0 ≤ b ∧ b ≤ 255) :
    ∃ (n : Int) (l : List (Int × Int)) (w : List Int), (0 ≤ n ∧ n ≤ 7) ∧ l.length ≤ 30 ∧ w.length ≤ 8 ∧ FCt prog F_spec_DrawIsWalk [.ro] [.sl 1 (code.map Ub)] (.tup [Ii n, .rs 2 (l.map arcD), ints w]) [] := by
  obtain ⟨n, l, c1, hn, hl2, o1, f1⟩ := arcs_ex (curS code) (m := 2000) (curS_ok hl h8 (by omega))
  obtain ⟨w, c2, hw, o2, f2⟩ := walk_ex c1 n l hl2 (m := 20) (o1.mono (by omega))
  refine ⟨n, l, w, hn, hl2, hw, ?_⟩
  refine fct_run spec_DrawIsWalk.ok rfl ?_
  simp only [go_sem, ↓reduceIte, Nat.reduceEqDiff, Nat.reduceAdd, Nat.reduceMul, Nat.reduceBEq, Option.getD_none, Int.reduceToNat, Nat.reduceSub, Nat.reduceLT, Nat.reduceLeDiff, Int.reduceLE, Int.reduceLT, reduceCtorEq]
  refine coW_c f1 ?_
  simp only [go_sem, ↓reduceIte, Nat.reduceEqDiff, Nat.reduceAdd, Nat.reduceMul, Nat.reduceBEq, Option.getD_none, Int.reduceToNat, Nat.reduceSub, Nat.reduceLT, Nat.reduceLeDiff, Int.reduceLE, Int.reduceLT, reduceCtorEq, take_map_len]
  refine coW_c f2 ?_
  simp only [go_sem, ↓reduceIte, Nat.reduceEqDiff, Nat.reduceAdd, Nat.reduceMul, Nat.reduceBEq, Option.getD_none, Int.reduceToNat, Nat.reduceSub, Nat.reduceLT, Nat.reduceLeDiff, Int.reduceLE, Int.reduceLT, reduceCtorEq, take_map_len]
theorem lo_ex (code : List Int) (hl : code.length ≤ 9223372036854775807) (h8 : ∀ b ∈ code, 0 ≤ b ∧ b ≤ 255) :
    ∃ (n : Int) (l : List (Int × Int)) (g : Int), (0 ≤ n ∧ n ≤ 7) ∧ l.length ≤ 30 ∧ (0 ≤ g ∧ g < 10) ∧ FCt prog F_spec_DrawLayOut [.ro] [.sl 1 (code.map Ub)] (.tup [Ii n, arcs l, Ii g]) [] := by
  obtain ⟨n, l, c1, hn, hl2, o1, f1⟩ := arcs_ex (curS code) (m := 20) (curS_ok hl h8 (by omega))
  have f2 := spec_pl1Cur_pick.fc c1 10 (m := 18) o1
  have p2 := pickV_in (c := c1) (n := 10) (by omega)
  refine ⟨n, l, pickV c1 10, hn, hl2, p2, ?_⟩
  refine fct_run spec_DrawLayOut.ok rfl ?_
  simp only [go_sem, ↓reduceIte, Nat.reduceEqDiff, Nat.reduceAdd, Nat.reduceMul, Nat.reduceBEq, Option.getD_none, Int.reduceToNat, Nat.reduceSub, Nat.reduceLT, Nat.reduceLeDiff, Int.reduceLE, Int.reduceLT, reduceCtorEq]
  refine coW_c f1 ?_
  simp only [go_sem, ↓reduceIte, Nat.reduceEqDiff, Nat.reduceAdd, Nat.reduceMul, Nat.reduceBEq, Option.getD_none, Int.reduceToNat, Nat.reduceSub, Nat.reduceLT, Nat.reduceLeDiff, Int.reduceLE, Int.reduceLT, reduceCtorEq, take_map_len]
  refine coW_c f2 ?_
  simp only [go_sem, ↓reduceIte, Nat.reduceEqDiff, Nat.reduceAdd, Nat.reduceMul, Nat.reduceBEq, Option.getD_none, Int.reduceToNat, Nat.reduceSub, Nat.reduceLT, Nat.reduceLeDiff, Int.reduceLE, Int.reduceLT, reduceCtorEq, take_map_len]
end Go.Vm.Ytdebllkmblakkaa
/- Rows of bytes as the laws are handed them. -/
namespace Go.Vm.Ytdebllkmblakkaa
open Go Go.Vm

theorem hasByte {d : D} (h : HasTy (.int .u8) d) : ∃ n : Int, d = .int .u8 n ∧ (0 ≤ n ∧ n ≤ 255) := by
  simp only [HasTy] at h
  obtain ⟨n, rfl, h⟩ := h
  refine ⟨n, rfl, ?_⟩
  simp [Lit.wf, IntKind.has, IntKind.min, IntKind.max, IntKind.signed, IntKind.bits] at h
  exact ⟨by omega, by omega⟩
theorem hasBytes {d : D} (h : HasTy (.sl (.int .u8)) d) : ∃ l : List Int, d = .sl 1 (l.map (fun n => (.int .u8 n : D))) ∧ l.length ≤ 9223372036854775807 ∧ ∀ b ∈ l, 0 ≤ b ∧ b ≤ 255 :=
  hasSl (f := fun n => (.int .u8 n : D)) (p := fun b => 0 ≤ b ∧ b ≤ 255) (fun _ h => hasByte h) h
end Go.Vm.Ytdebllkmblakkaa
