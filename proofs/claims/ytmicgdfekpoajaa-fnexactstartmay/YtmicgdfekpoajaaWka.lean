/- What the functions that the law reaches return: part 1 (the conditions stand at each). -/
import Derived.Test.YtmicgdfekpoajaaIr
/- Words for data: whole numbers, rows of them. -/
namespace Go.Vm
open Go
set_option linter.unusedSimpArgs false
set_option linter.unusedVariables false

abbrev Ii (n : Int) : D := .int .i64 n
abbrev Bb (b : Bool) : D := .bool b
abbrev ints (l : List Int) : D := .sl 1 (l.map Ii)
abbrev aI (n : Int) : AV := .dat none (.int .i64 n)
/-- a whole number of 64 bits -/
def i64 (n : Int) : Prop := -9223372036854775808 ≤ n ∧ n ≤ 9223372036854775807
theorem wrap_k {k m : Nat} (h : k < m) (hm : m ≤ 9223372036854775807) : IntKind.i64.wrap ((k : Int) + 1) = ((k + 1 : Nat) : Int) := by
  rw [wrap_in (by omega) (by omega)]; rfl
theorem take_succ' {α : Type} {l : List α} {k : Nat} (h : k < l.length) : l.take (k + 1) = l.take k ++ [l[k]] := by
  rw [List.take_succ_eq_append_getElem h]
section
variable {α : Type} {f : α → D} {z : D} {l : List α} {k : Nat}
theorem take_map_len : (l.map f).take l.length = l.map f := by rw [List.take_of_length_le (by simp)]
end
/-- a row that is written over from the left -/
def ovr {α : Type} (A B : List α) (k : Nat) : List α := A.take k ++ B.drop k
section
variable {α : Type} {A B : List α} {k : Nat}
theorem ovr_zero : ovr A B 0 = B := by simp [ovr]
theorem ovr_all (h : A.length = B.length) : ovr A B B.length = A := by simp [ovr, ← h]
theorem ovr_len (h : A.length = B.length) (hk : k ≤ B.length) : (ovr A B k).length = B.length := by simp [ovr]; omega
theorem ovr_get (h : A.length = B.length) (hk : k < B.length) : (ovr A B k)[k]? = B[k]? := by
  have e : (A.take k).length = k := by rw [List.length_take]; omega
  rw [ovr, List.getElem?_append_right (by omega), e, Nat.sub_self, List.getElem?_drop]; rfl
theorem ovr_set {x : α} (h : A.length = B.length) (hk : k < B.length) (hx : A[k]? = some x) : (ovr A B k).set k x = ovr A B (k + 1) := by
  have e : (A.take k).length = k := by rw [List.length_take]; omega
  have hd : B.drop k = B[k] :: B.drop (k + 1) := List.drop_eq_getElem_cons hk
  have hkA : k < A.length := by omega
  have hx' : A[k] = x := by rw [List.getElem?_eq_getElem hkA] at hx; exact Option.some.inj hx
  rw [ovr, ovr, List.set_append_right _ _ (by omega), e, Nat.sub_self, hd, List.set_cons_zero, take_succ' hkA, hx', List.append_assoc]; rfl
end
/-- a row that grows: nil at first, then under one name -/
def RowAt (x : AV) (M : Mem) (nm sz : Nat) (ds : List D) : Prop := (ds = [] ∧ x = .nil sz) ∨ ∃ v, x = .sl nm v 0 ds.length sz ∧ M.m nm = some (.arr v true sz ds)
theorem RowAt.nil {M : Mem} {nm sz : Nat} : RowAt (.nil sz) M nm sz [] := .inl ⟨rfl, rfl⟩
theorem RowAt.sl {x : AV} {M : Mem} {nm sz v n : Nat} {ds : List D} (hx : x = .sl nm v 0 n sz) (hn : n = ds.length) (hm : M.m nm = some (.arr v true sz ds)) : RowAt x M nm sz ds := .inr ⟨v, by rw [hx, hn], hm⟩
section
variable {α : Type} {f : Int → α → α} {c : α → Nat}
end
theorem noRsL_all : ∀ {ds : List D}, (∀ d ∈ ds, noRs d = true) → noRsL ds = true
  | [], _ => rfl
  | d :: ds, h => by simp only [noRsL, Bool.and_eq_true]; exact ⟨h d List.mem_cons_self, noRsL_all fun x hx => h x (List.mem_cons_of_mem _ hx)⟩
theorem noRs_sl {sz : Nat} {ds : List D} (h : ∀ d ∈ ds, noRs d = true) : noRs (.sl sz ds) = true := by simp only [noRs]; exact noRsL_all h
/-! ### function values -/
section
variable {P : Program} {s : Nat → AV} {M : Mem} {nb ib : Nat}
end
end Go.Vm
/- Walks: small functions. -/
namespace Go.Vm.Ytmicgdfekpoajaa
open Go Go.Vm
set_option maxRecDepth 10000
set_option linter.unusedSimpArgs false
set_option linter.unusedVariables false

end Go.Vm.Ytmicgdfekpoajaa
/- Walks: rules are copied and weighed. -/
namespace Go.Vm.Ytmicgdfekpoajaa
open Go Go.Vm
set_option maxRecDepth 10000
set_option linter.unusedSimpArgs false
set_option linter.unusedVariables false

/-- a rule -/
structure RuleD where
  ifs : List Int
  thn : Int
  deriving DecidableEq
abbrev RuleD.d (r : RuleD) : D := .agg [ints r.ifs, Ii r.thn]
abbrev rules (l : List RuleD) : D := .sl 2 (l.map RuleD.d)
end Go.Vm.Ytmicgdfekpoajaa
/- Walks: rules are looked at. -/
namespace Go.Vm.Ytmicgdfekpoajaa
open Go Go.Vm
set_option maxRecDepth 10000
set_option linter.unusedSimpArgs false
set_option linter.unusedVariables false

end Go.Vm.Ytmicgdfekpoajaa
/- Walks: rules are looked at, by the program and by the reference. -/
namespace Go.Vm.Ytmicgdfekpoajaa
open Go Go.Vm
set_option maxRecDepth 10000
set_option linter.unusedSimpArgs false
set_option linter.unusedVariables false

end Go.Vm.Ytmicgdfekpoajaa
/- Walks: valid rules; rules are compared. -/
namespace Go.Vm.Ytmicgdfekpoajaa
open Go Go.Vm
set_option maxRecDepth 10000
set_option linter.unusedSimpArgs false
set_option linter.unusedVariables false

end Go.Vm.Ytmicgdfekpoajaa
/- Walks: results are marked and read again. -/
namespace Go.Vm.Ytmicgdfekpoajaa
open Go Go.Vm
set_option maxRecDepth 10000
set_option linter.unusedSimpArgs false
set_option linter.unusedVariables false

end Go.Vm.Ytmicgdfekpoajaa
/- Walks: intervals and known bits, reduced by each other. -/
namespace Go.Vm.Ytmicgdfekpoajaa
open Go Go.Vm
set_option maxRecDepth 10000
set_option linter.unusedSimpArgs false
set_option linter.unusedVariables false

abbrev pr (a b : Int) : D := .agg [Ii a, Ii b]
end Go.Vm.Ytmicgdfekpoajaa
/- Walks: arcs. -/
namespace Go.Vm.Ytmicgdfekpoajaa
open Go Go.Vm
set_option maxRecDepth 10000
set_option linter.unusedSimpArgs false
set_option linter.unusedVariables false

abbrev arcD (a : Int × Int) : D := pr a.1 a.2
abbrev arcs (l : List (Int × Int)) : D := .sl 2 (l.map arcD)
end Go.Vm.Ytmicgdfekpoajaa
/- Walks: valid arcs. -/
namespace Go.Vm.Ytmicgdfekpoajaa
open Go Go.Vm
set_option maxRecDepth 10000
set_option linter.unusedSimpArgs false
set_option linter.unusedVariables false

end Go.Vm.Ytmicgdfekpoajaa
/- Walks: rows of rows; clauses. -/
namespace Go.Vm.Ytmicgdfekpoajaa
open Go Go.Vm
set_option maxRecDepth 10000
set_option linter.unusedSimpArgs false
set_option linter.unusedVariables false

end Go.Vm.Ytmicgdfekpoajaa
/- Walks: sorted rows. -/
namespace Go.Vm.Ytmicgdfekpoajaa
open Go Go.Vm
set_option maxRecDepth 10000
set_option linter.unusedSimpArgs false
set_option linter.unusedVariables false

/-- where x belongs -/
def putK (l : List Int) (x : Int) : Nat := l.findIdx (fun y => !decide (y < x))
def putI (l : List Int) (x : Int) : List Int := if l[putK l x]? = some x then l else l.take (putK l x) ++ x :: l.drop (putK l x)
end Go.Vm.Ytmicgdfekpoajaa
/- Walks: what is reached. -/
namespace Go.Vm.Ytmicgdfekpoajaa
open Go Go.Vm
set_option maxRecDepth 10000
set_option linter.unusedSimpArgs false
set_option linter.unusedVariables false

end Go.Vm.Ytmicgdfekpoajaa
/- Walks: facts and rules that hold. -/
namespace Go.Vm.Ytmicgdfekpoajaa
open Go Go.Vm
set_option maxRecDepth 10000
set_option linter.unusedSimpArgs false
set_option linter.unusedVariables false

abbrev bools (l : List Bool) : D := .sl 1 (l.map Bb)
def hasI (so : List Int) (x : Int) : Bool := so.any (· == x)
end Go.Vm.Ytmicgdfekpoajaa
/- Walks: lists of the places where a condition holds. -/
namespace Go.Vm.Ytmicgdfekpoajaa
open Go Go.Vm
set_option maxRecDepth 10000
set_option linter.unusedSimpArgs false
set_option linter.unusedVariables false

/-- the numbers below n for which p holds -/
def listI (n : Nat) (p : Nat → Bool) : List Int := ((List.range n).filter p).map fun (i : Nat) => (i : Int)
theorem noRs_bools {l : List Bool} : noRs (bools l) = true := noRs_sl (by
  intro d hd; obtain ⟨x, _, rfl⟩ := List.mem_map.1 hd; rfl)
end Go.Vm.Ytmicgdfekpoajaa
/- Walks: what is reached, by rows of marks. -/
namespace Go.Vm.Ytmicgdfekpoajaa
open Go Go.Vm
set_option maxRecDepth 10000
set_option linter.unusedSimpArgs false
set_option linter.unusedVariables false

end Go.Vm.Ytmicgdfekpoajaa
/- Plain law: rows of marks and sorted rows. -/
namespace Go.Vm.Ytmicgdfekpoajaa
open Go Go.Vm
set_option maxRecDepth 10000
set_option linter.unusedSimpArgs false
set_option linter.unusedVariables false

end Go.Vm.Ytmicgdfekpoajaa
/- Walks: what is reached within so many steps. -/
namespace Go.Vm.Ytmicgdfekpoajaa
open Go Go.Vm
set_option maxRecDepth 10000
set_option linter.unusedSimpArgs false
set_option linter.unusedVariables false

end Go.Vm.Ytmicgdfekpoajaa
/- Walks: arcs that lead back. -/
namespace Go.Vm.Ytmicgdfekpoajaa
open Go Go.Vm
set_option maxRecDepth 10000
set_option linter.unusedSimpArgs false
set_option linter.unusedVariables false

end Go.Vm.Ytmicgdfekpoajaa
/- Walks: the laws' own helpers, in one form. -/
namespace Go.Vm.Ytmicgdfekpoajaa
open Go Go.Vm
set_option maxRecDepth 10000
set_option linter.unusedSimpArgs false
set_option linter.unusedVariables false

theorem noRs_agg {fs : List D} (h : ∀ d ∈ fs, noRs d = true) : noRs (.agg fs) = true := by simp only [noRs]; exact noRsL_all h
end Go.Vm.Ytmicgdfekpoajaa
/- Walks: the laws' own helpers, in one form: rules, rows of rows. -/
namespace Go.Vm.Ytmicgdfekpoajaa
open Go Go.Vm
set_option maxRecDepth 10000
set_option linter.unusedSimpArgs false
set_option linter.unusedVariables false

end Go.Vm.Ytmicgdfekpoajaa
/- Walks: what is put into a row that is handed over; the least facts. -/
namespace Go.Vm.Ytmicgdfekpoajaa
open Go Go.Vm
set_option maxRecDepth 10000
set_option linter.unusedSimpArgs false
set_option linter.unusedVariables false

end Go.Vm.Ytmicgdfekpoajaa
/- Walks: do rules hold among facts? -/
namespace Go.Vm.Ytmicgdfekpoajaa
open Go Go.Vm
set_option maxRecDepth 10000
set_option linter.unusedSimpArgs false
set_option linter.unusedVariables false

end Go.Vm.Ytmicgdfekpoajaa
/- Plain law: the least facts. -/
namespace Go.Vm.Ytmicgdfekpoajaa
open Go Go.Vm
set_option maxRecDepth 10000
set_option linter.unusedSimpArgs false
set_option linter.unusedVariables false

/-- how many are not there -/
def lackN (n : Nat) (so : List Int) : Nat := ((List.range (n + 1)).filter fun (i : Nat) => !hasI so (i : Int)).length
theorem lack_le {n : Nat} {so : List Int} : lackN n so ≤ n + 1 := by
  unfold lackN
  exact Nat.le_trans (List.length_filter_le _ _) (by simp)
/-- a rule that gives a new fact -/
def readyR (so : List Int) (r : RuleD) : Bool := decide (r.thn > 0) && !hasI so r.thn && r.ifs.all (hasI so)
def ruleAt (l : List RuleD) (i : Nat) : RuleD := l.getD i ⟨[], 0⟩
def leastI (l : List RuleD) : Nat → List Int → List Int → List Int × List Int
  | 0, so, ap => (so, ap)
  | f + 1, so, ap => match l.findIdx? (readyR so) with
    | none => (so, ap)
    | some i => leastI l f (putI so (ruleAt l i).thn) (ap ++ [(i : Int)])
/-- the least facts and what was applied -/
def leastP (l : List RuleD) : List Int × List Int := leastI l 14 [] []
/-- what is known all along -/
structure LeastOk (n : Nat) (l : List RuleD) (so ap : List Int) : Prop where
  same : leastI l 14 so ap = leastP l
  sort : so = listI (n + 1) fun i => hasI so (i : Int)
  few : so.length ≤ ap.length
  left : ap.length + lackN n so ≤ n + 1
  apl : ∀ i ∈ ap, 0 ≤ i ∧ i < l.length ∧ 0 < (ruleAt l i.toNat).thn
theorem LeastOk.start {n : Nat} {l : List RuleD} : LeastOk n l [] [] where
  same := rfl
  sort := by
    have : listI (n + 1) (fun i => hasI [] (i : Int)) = [] := by
      unfold listI; rw [List.filter_eq_nil_iff.2 (by intro i _; simp [hasI])]; rfl
    rw [this]
  few := by simp
  left := by have := lack_le (n := n) (so := []); simpa using this
  apl := by simp
end Go.Vm.Ytmicgdfekpoajaa
/- Walks: the least facts. -/
namespace Go.Vm.Ytmicgdfekpoajaa
open Go Go.Vm
set_option maxRecDepth 10000
set_option linter.unusedSimpArgs false
set_option linter.unusedVariables false

end Go.Vm.Ytmicgdfekpoajaa
/- Walks: the least facts by the reference; why a fact holds. -/
namespace Go.Vm.Ytmicgdfekpoajaa
open Go Go.Vm
set_option maxRecDepth 10000
set_option linter.unusedSimpArgs false
set_option linter.unusedVariables false

end Go.Vm.Ytmicgdfekpoajaa
/- Walks: literals and clauses. -/
namespace Go.Vm.Ytmicgdfekpoajaa
open Go Go.Vm
set_option maxRecDepth 10000
set_option linter.unusedSimpArgs false
set_option linter.unusedVariables false

end Go.Vm.Ytmicgdfekpoajaa
/- Walks: rules as clauses. -/
namespace Go.Vm.Ytmicgdfekpoajaa
open Go Go.Vm
set_option maxRecDepth 10000
set_option linter.unusedSimpArgs false
set_option linter.unusedVariables false

end Go.Vm.Ytmicgdfekpoajaa
/- Walks: copies, and what is struck out of a row. -/
namespace Go.Vm.Ytmicgdfekpoajaa
open Go Go.Vm
set_option maxRecDepth 10000
set_option linter.unusedSimpArgs false
set_option linter.unusedVariables false

end Go.Vm.Ytmicgdfekpoajaa
/- Walks: what two sets of facts share; Horn clauses. -/
namespace Go.Vm.Ytmicgdfekpoajaa
open Go Go.Vm
set_option maxRecDepth 10000
set_option linter.unusedSimpArgs false
set_option linter.unusedVariables false

end Go.Vm.Ytmicgdfekpoajaa
/- Walks: the laws' own helpers for what may be. -/
namespace Go.Vm.Ytmicgdfekpoajaa
open Go Go.Vm
set_option maxRecDepth 10000
set_option linter.unusedSimpArgs false
set_option linter.unusedVariables false

abbrev strD (x : (Int × Int)) : D := .agg [Ii x.1, Ii x.2]
abbrev knownD (x : (Int × Int)) : D := .agg [Ii x.1, Ii x.2]
theorem laws_eqStretch.fcu (x : (Int × Int)) :
    FCt prog F_laws_eqStretch [.ro, .ro] [strD x, strD x] (Bb true) [] := by
  refine fct_run laws_eqStretch.ok rfl ?_
  simp only [go_sem, ↓reduceIte, Nat.reduceEqDiff, Nat.reduceAdd, Nat.reduceMul, Nat.reduceBEq, Option.getD_none, Int.reduceToNat, Nat.reduceSub, Nat.reduceLT, Nat.reduceLeDiff, Int.reduceLE, Int.reduceLT, reduceCtorEq]
theorem laws_eqKnown.fcu (x : (Int × Int)) :
    FCt prog F_laws_eqKnown [.ro, .ro] [knownD x, knownD x] (Bb true) [] := by
  refine fct_run laws_eqKnown.ok rfl ?_
  simp only [go_sem, ↓reduceIte, Nat.reduceEqDiff, Nat.reduceAdd, Nat.reduceMul, Nat.reduceBEq, Option.getD_none, Int.reduceToNat, Nat.reduceSub, Nat.reduceLT, Nat.reduceLeDiff, Int.reduceLE, Int.reduceLT, reduceCtorEq]

abbrev strs (l : List (Int × Int)) : D := .sl 2 (l.map strD)
theorem noRs_strs {l : List (Int × Int)} : noRs (strs l) = true := noRs_sl (by
  intro d hd
  obtain ⟨x, _, rfl⟩ := List.mem_map.1 hd
  exact rfl)
def mkStretchS (n : Int) (l : List (Int × Int)) : List (Int × Int) := (List.range l.length).map fun (i : Nat) => ⟨n + 2 * (i : Int), n + 2 * (i : Int) + 1⟩
theorem mkStretchS_len {n : Int} {l : List (Int × Int)} : (mkStretchS n l).length = l.length := by simp [mkStretchS]
theorem mkStretchS_take {n : Int} {l : List (Int × Int)} : ((mkStretchS n l).map strD).take l.length = (mkStretchS n l).map strD := List.take_of_length_le (by simp [mkStretchS_len])
abbrev knowns (l : List (Int × Int)) : D := .sl 2 (l.map knownD)
theorem noRs_knowns {l : List (Int × Int)} : noRs (knowns l) = true := noRs_sl (by
  intro d hd
  obtain ⟨x, _, rfl⟩ := List.mem_map.1 hd
  exact rfl)
def mkKnownS (n : Int) (l : List (Int × Int)) : List (Int × Int) := (List.range l.length).map fun (i : Nat) => ⟨n + 2 * (i : Int), n + 2 * (i : Int) + 1⟩
theorem mkKnownS_len {n : Int} {l : List (Int × Int)} : (mkKnownS n l).length = l.length := by simp [mkKnownS]
theorem mkKnownS_take {n : Int} {l : List (Int × Int)} : ((mkKnownS n l).map knownD).take l.length = (mkKnownS n l).map knownD := List.take_of_length_le (by simp [mkKnownS_len])
def mkBoolS (n : Int) (l : List Bool) : List Bool := (List.range l.length).map fun (i : Nat) => (n + (i : Int)).tmod 3 == 0
theorem mkBoolS_len {n : Int} {l : List Bool} : (mkBoolS n l).length = l.length := by simp [mkBoolS]
theorem mkBoolS_take {n : Int} {l : List Bool} : ((mkBoolS n l).map Bb).take l.length = (mkBoolS n l).map Bb := List.take_of_length_le (by simp [mkBoolS_len])
theorem laws_eqStretchS.fcu (x : List (Int × Int)) (h : x.length ≤ 1048576) :
    FCt prog F_laws_eqStretchS [.ro, .ro] [strs x, strs x] (Bb true) [] := by
  refine fct_run laws_eqStretchS.ok rfl ?_
  have h0 := h
  simp only [go_sem, ↓reduceIte, Nat.reduceEqDiff, Nat.reduceAdd, Nat.reduceMul, Nat.reduceBEq, Option.getD_none, Int.reduceToNat, Nat.reduceSub, Nat.reduceLT, Nat.reduceLeDiff, Int.reduceLE, Int.reduceLT, reduceCtorEq]
  refine R_loop (α := Nat) (fun k s' M' => k ≤ x.length ∧ s' 5 = aI k) (fun k => x.length - k) 0 ⟨by omega, by simp only [go_sem, ↓reduceIte, Nat.reduceEqDiff, Nat.reduceAdd, Nat.reduceMul, Nat.reduceBEq, Option.getD_none, Int.reduceToNat, Nat.reduceSub, Nat.reduceLT, Nat.reduceLeDiff, Int.reduceLE, Int.reduceLT, reduceCtorEq]; rfl⟩ ?_
  rintro k s' M' ⟨hk, h5⟩ ho
  unfold laws_eqStretchS.b0
  have k0 : s' 0 = .dat none (strs x) := by rw [ho 0 rfl]; simp only [go_sem, ↓reduceIte, Nat.reduceEqDiff, Nat.reduceAdd, Nat.reduceMul, Nat.reduceBEq, Option.getD_none, Int.reduceToNat, Nat.reduceSub, Nat.reduceLT, Nat.reduceLeDiff, Int.reduceLE, Int.reduceLT, reduceCtorEq]
  have k1 : s' 1 = .dat none (strs x) := by rw [ho 1 rfl]; simp only [go_sem, ↓reduceIte, Nat.reduceEqDiff, Nat.reduceAdd, Nat.reduceMul, Nat.reduceBEq, Option.getD_none, Int.reduceToNat, Nat.reduceSub, Nat.reduceLT, Nat.reduceLeDiff, Int.reduceLE, Int.reduceLT, reduceCtorEq]
  clear ho
  by_cases hlt : k < x.length
  · have hi' : (k : Int) < x.length := by omega
    have ga : x[k]? = some x[k] := List.getElem?_eq_getElem hlt
    have hw : IntKind.i64.wrap (k + 1) = ((k + 1 : Nat) : Int) := wrap_k hlt (by omega)
    simp only [go_sem, ↓reduceIte, Nat.reduceEqDiff, Nat.reduceAdd, Nat.reduceMul, Nat.reduceBEq, Option.getD_none, Int.reduceToNat, Nat.reduceSub, Nat.reduceLT, Nat.reduceLeDiff, Int.reduceLE, Int.reduceLT, reduceCtorEq, h5, hi', ga, hw, k0, k1]
    refine fcW_bool (laws_eqStretch.fcu _) ?_
    simp only [go_sem, ↓reduceIte, Nat.reduceEqDiff, Nat.reduceAdd, Nat.reduceMul, Nat.reduceBEq, Option.getD_none, Int.reduceToNat, Nat.reduceSub, Nat.reduceLT, Nat.reduceLeDiff, Int.reduceLE, Int.reduceLT, reduceCtorEq, h5, hw, k0, k1]
    exact ⟨k + 1, by dsimp only; omega, by omega, by simp only [go_sem, ↓reduceIte, Nat.reduceEqDiff, Nat.reduceAdd, Nat.reduceMul, Nat.reduceBEq, Option.getD_none, Int.reduceToNat, Nat.reduceSub, Nat.reduceLT, Nat.reduceLeDiff, Int.reduceLE, Int.reduceLT, reduceCtorEq, k0, k1]⟩
  · have hi' : ¬ (k : Int) < x.length := by omega
    obtain rfl : k = x.length := by omega
    simp only [go_sem, ↓reduceIte, Nat.reduceEqDiff, Nat.reduceAdd, Nat.reduceMul, Nat.reduceBEq, Option.getD_none, Int.reduceToNat, Nat.reduceSub, Nat.reduceLT, Nat.reduceLeDiff, Int.reduceLE, Int.reduceLT, reduceCtorEq, h5, hi', k0, k1]
theorem laws_eqKnownS.fcu (x : List (Int × Int)) (h : x.length ≤ 1048576) :
    FCt prog F_laws_eqKnownS [.ro, .ro] [knowns x, knowns x] (Bb true) [] := by
  refine fct_run laws_eqKnownS.ok rfl ?_
  have h0 := h
  simp only [go_sem, ↓reduceIte, Nat.reduceEqDiff, Nat.reduceAdd, Nat.reduceMul, Nat.reduceBEq, Option.getD_none, Int.reduceToNat, Nat.reduceSub, Nat.reduceLT, Nat.reduceLeDiff, Int.reduceLE, Int.reduceLT, reduceCtorEq]
  refine R_loop (α := Nat) (fun k s' M' => k ≤ x.length ∧ s' 5 = aI k) (fun k => x.length - k) 0 ⟨by omega, by simp only [go_sem, ↓reduceIte, Nat.reduceEqDiff, Nat.reduceAdd, Nat.reduceMul, Nat.reduceBEq, Option.getD_none, Int.reduceToNat, Nat.reduceSub, Nat.reduceLT, Nat.reduceLeDiff, Int.reduceLE, Int.reduceLT, reduceCtorEq]; rfl⟩ ?_
  rintro k s' M' ⟨hk, h5⟩ ho
  unfold laws_eqKnownS.b0
  have k0 : s' 0 = .dat none (knowns x) := by rw [ho 0 rfl]; simp only [go_sem, ↓reduceIte, Nat.reduceEqDiff, Nat.reduceAdd, Nat.reduceMul, Nat.reduceBEq, Option.getD_none, Int.reduceToNat, Nat.reduceSub, Nat.reduceLT, Nat.reduceLeDiff, Int.reduceLE, Int.reduceLT, reduceCtorEq]
  have k1 : s' 1 = .dat none (knowns x) := by rw [ho 1 rfl]; simp only [go_sem, ↓reduceIte, Nat.reduceEqDiff, Nat.reduceAdd, Nat.reduceMul, Nat.reduceBEq, Option.getD_none, Int.reduceToNat, Nat.reduceSub, Nat.reduceLT, Nat.reduceLeDiff, Int.reduceLE, Int.reduceLT, reduceCtorEq]
  clear ho
  by_cases hlt : k < x.length
  · have hi' : (k : Int) < x.length := by omega
    have ga : x[k]? = some x[k] := List.getElem?_eq_getElem hlt
    have hw : IntKind.i64.wrap (k + 1) = ((k + 1 : Nat) : Int) := wrap_k hlt (by omega)
    simp only [go_sem, ↓reduceIte, Nat.reduceEqDiff, Nat.reduceAdd, Nat.reduceMul, Nat.reduceBEq, Option.getD_none, Int.reduceToNat, Nat.reduceSub, Nat.reduceLT, Nat.reduceLeDiff, Int.reduceLE, Int.reduceLT, reduceCtorEq, h5, hi', ga, hw, k0, k1]
    refine fcW_bool (laws_eqKnown.fcu _) ?_
    simp only [go_sem, ↓reduceIte, Nat.reduceEqDiff, Nat.reduceAdd, Nat.reduceMul, Nat.reduceBEq, Option.getD_none, Int.reduceToNat, Nat.reduceSub, Nat.reduceLT, Nat.reduceLeDiff, Int.reduceLE, Int.reduceLT, reduceCtorEq, h5, hw, k0, k1]
    exact ⟨k + 1, by dsimp only; omega, by omega, by simp only [go_sem, ↓reduceIte, Nat.reduceEqDiff, Nat.reduceAdd, Nat.reduceMul, Nat.reduceBEq, Option.getD_none, Int.reduceToNat, Nat.reduceSub, Nat.reduceLT, Nat.reduceLeDiff, Int.reduceLE, Int.reduceLT, reduceCtorEq, k0, k1]⟩
  · have hi' : ¬ (k : Int) < x.length := by omega
    obtain rfl : k = x.length := by omega
    simp only [go_sem, ↓reduceIte, Nat.reduceEqDiff, Nat.reduceAdd, Nat.reduceMul, Nat.reduceBEq, Option.getD_none, Int.reduceToNat, Nat.reduceSub, Nat.reduceLT, Nat.reduceLeDiff, Int.reduceLE, Int.reduceLT, reduceCtorEq, h5, hi', k0, k1]
theorem laws_eqBoolS.fcu (x : List Bool) (h : x.length ≤ 1048576) :
    FCt prog F_laws_eqBoolS [.ro, .ro] [bools x, bools x] (Bb true) [] := by
  refine fct_run laws_eqBoolS.ok rfl ?_
  have h0 := h
  simp only [go_sem, ↓reduceIte, Nat.reduceEqDiff, Nat.reduceAdd, Nat.reduceMul, Nat.reduceBEq, Option.getD_none, Int.reduceToNat, Nat.reduceSub, Nat.reduceLT, Nat.reduceLeDiff, Int.reduceLE, Int.reduceLT, reduceCtorEq]
  refine R_loop (α := Nat) (fun k s' M' => k ≤ x.length ∧ s' 5 = aI k) (fun k => x.length - k) 0 ⟨by omega, by simp only [go_sem, ↓reduceIte, Nat.reduceEqDiff, Nat.reduceAdd, Nat.reduceMul, Nat.reduceBEq, Option.getD_none, Int.reduceToNat, Nat.reduceSub, Nat.reduceLT, Nat.reduceLeDiff, Int.reduceLE, Int.reduceLT, reduceCtorEq]; rfl⟩ ?_
  rintro k s' M' ⟨hk, h5⟩ ho
  unfold laws_eqBoolS.b0
  have k0 : s' 0 = .dat none (bools x) := by rw [ho 0 rfl]; simp only [go_sem, ↓reduceIte, Nat.reduceEqDiff, Nat.reduceAdd, Nat.reduceMul, Nat.reduceBEq, Option.getD_none, Int.reduceToNat, Nat.reduceSub, Nat.reduceLT, Nat.reduceLeDiff, Int.reduceLE, Int.reduceLT, reduceCtorEq]
  have k1 : s' 1 = .dat none (bools x) := by rw [ho 1 rfl]; simp only [go_sem, ↓reduceIte, Nat.reduceEqDiff, Nat.reduceAdd, Nat.reduceMul, Nat.reduceBEq, Option.getD_none, Int.reduceToNat, Nat.reduceSub, Nat.reduceLT, Nat.reduceLeDiff, Int.reduceLE, Int.reduceLT, reduceCtorEq]
  clear ho
  by_cases hlt : k < x.length
  · have hi' : (k : Int) < x.length := by omega
    have ga : x[k]? = some x[k] := List.getElem?_eq_getElem hlt
    have hw : IntKind.i64.wrap (k + 1) = ((k + 1 : Nat) : Int) := wrap_k hlt (by omega)
    have hbb : (x[k] == x[k]) = true := by simp
    simp only [go_sem, ↓reduceIte, Nat.reduceEqDiff, Nat.reduceAdd, Nat.reduceMul, Nat.reduceBEq, Option.getD_none, Int.reduceToNat, Nat.reduceSub, Nat.reduceLT, Nat.reduceLeDiff, Int.reduceLE, Int.reduceLT, reduceCtorEq, h5, hi', ga, hw, hbb, k0, k1]
    exact ⟨k + 1, by dsimp only; omega, by omega, by simp only [go_sem, ↓reduceIte, Nat.reduceEqDiff, Nat.reduceAdd, Nat.reduceMul, Nat.reduceBEq, Option.getD_none, Int.reduceToNat, Nat.reduceSub, Nat.reduceLT, Nat.reduceLeDiff, Int.reduceLE, Int.reduceLT, reduceCtorEq, k0, k1]⟩
  · have hi' : ¬ (k : Int) < x.length := by omega
    obtain rfl : k = x.length := by omega
    simp only [go_sem, ↓reduceIte, Nat.reduceEqDiff, Nat.reduceAdd, Nat.reduceMul, Nat.reduceBEq, Option.getD_none, Int.reduceToNat, Nat.reduceSub, Nat.reduceLT, Nat.reduceLeDiff, Int.reduceLE, Int.reduceLT, reduceCtorEq, h5, hi', k0, k1]
theorem laws_markStretchS.fcu (x : List (Int × Int)) (n : Int) (h : x.length ≤ 1048576) (hc : (2 * x.length) ≤ 16777216) (hn : 0 ≤ n ∧ n + ((2 * x.length) : Nat) ≤ 576460752303423488) :
    FCt prog F_laws_markStretchS [.io, .ro] [strs x, Ii n] (Ii (n + ((2 * x.length) : Nat))) [strs (mkStretchS n x)] := by
  refine fct_run laws_markStretchS.ok rfl ?_
  have hL : ((mkStretchS n x).map strD).length = (x.map strD).length := by simp [mkStretchS_len]
  simp only [go_sem, ↓reduceIte, Nat.reduceEqDiff, Nat.reduceAdd, Nat.reduceMul, Nat.reduceBEq, Option.getD_none, Int.reduceToNat, Nat.reduceSub, Nat.reduceLT, Nat.reduceLeDiff, Int.reduceLE, Int.reduceLT, reduceCtorEq]
  refine R_loop (α := Nat) (fun k s' M' => k ≤ x.length ∧ s' 5 = aI k ∧ s' 1 = aI (n + 2 * k) ∧ M'.m 0 = some (.arr 0 true 2 (ovr ((mkStretchS n x).map strD) (x.map strD) k))) (fun k => x.length - k) 0
    ⟨by omega, by simp only [go_sem, ↓reduceIte, Nat.reduceEqDiff, Nat.reduceAdd, Nat.reduceMul, Nat.reduceBEq, Option.getD_none, Int.reduceToNat, Nat.reduceSub, Nat.reduceLT, Nat.reduceLeDiff, Int.reduceLE, Int.reduceLT, reduceCtorEq]; rfl, by simp only [go_sem, ↓reduceIte, Nat.reduceEqDiff, Nat.reduceAdd, Nat.reduceMul, Nat.reduceBEq, Option.getD_none, Int.reduceToNat, Nat.reduceSub, Nat.reduceLT, Nat.reduceLeDiff, Int.reduceLE, Int.reduceLT, reduceCtorEq]; simp, by simp only [go_sem, ↓reduceIte, Nat.reduceEqDiff, Nat.reduceAdd, Nat.reduceMul, Nat.reduceBEq, Option.getD_none, Int.reduceToNat, Nat.reduceSub, Nat.reduceLT, Nat.reduceLeDiff, Int.reduceLE, Int.reduceLT, reduceCtorEq]; simp [ovr_zero]⟩ ?_
  rintro k s' M' ⟨hk, h5, h1, hm⟩ ho
  unfold laws_markStretchS.b0
  have k0 : s' 0 = .sl 0 0 0 x.length 2 := by rw [ho 0 rfl]; simp only [go_sem, ↓reduceIte, Nat.reduceEqDiff, Nat.reduceAdd, Nat.reduceMul, Nat.reduceBEq, Option.getD_none, Int.reduceToNat, Nat.reduceSub, Nat.reduceLT, Nat.reduceLeDiff, Int.reduceLE, Int.reduceLT, reduceCtorEq]
  clear ho
  by_cases hlt : k < x.length
  · have hi' : (k : Int) < x.length := by omega
    have ga : x[k]? = some x[k] := List.getElem?_eq_getElem hlt
    have hw : IntKind.i64.wrap (k + 1) = ((k + 1 : Nat) : Int) := wrap_k hlt (by omega)
    have hw1 : IntKind.i64.wrap (n + 2 * k + 1) = n + 2 * k + 1 := by rw [wrap_in (by omega) (by omega)]; try omega
    have hw2 : IntKind.i64.wrap (n + 2 * k + 1 + 1) = n + 2 * (k + 1 : Nat) := by rw [wrap_in (by omega) (by omega)]; try omega
    have hmk : (mkStretchS n x)[k]? = some (⟨n + 2 * (k : Int), n + 2 * (k : Int) + 1⟩) := by simp [mkStretchS, hlt]
    have hg : (ovr ((mkStretchS n x).map strD) (x.map strD) k)[k]? = some (strD x[k]) := by rw [ovr_get hL (by simpa using hlt)]; simp [hlt]
    have hkl : k < (ovr ((mkStretchS n x).map strD) (x.map strD) k).length := by rw [ovr_len hL (by simp; omega)]; simpa using hlt
    have hg2 : ∀ d, ((ovr ((mkStretchS n x).map strD) (x.map strD) k).set k d)[k]? = some d := fun d => by rw [List.getElem?_set, if_pos rfl, if_pos hkl]
    have hs : (ovr ((mkStretchS n x).map strD) (x.map strD) k).set k (.agg [.int .i64 (n + 2 * k), .int .i64 (n + 2 * k + 1)]) = ovr ((mkStretchS n x).map strD) (x.map strD) (k + 1) := ovr_set hL (by simpa using hlt) (by rw [List.getElem?_map, hmk]; rfl)
    simp only [go_sem, ↓reduceIte, Nat.reduceEqDiff, Nat.reduceAdd, Nat.reduceMul, Nat.reduceBEq, Option.getD_none, Int.reduceToNat, Nat.reduceSub, Nat.reduceLT, Nat.reduceLeDiff, Int.reduceLE, Int.reduceLT, reduceCtorEq, hi', hw, hw1, hw2, hg, hg2, List.set_set, hs, k0, h1, h5, hm]
    exact ⟨k + 1, by dsimp only; omega, by omega, by simp only [go_sem, ↓reduceIte, Nat.reduceEqDiff, Nat.reduceAdd, Nat.reduceMul, Nat.reduceBEq, Option.getD_none, Int.reduceToNat, Nat.reduceSub, Nat.reduceLT, Nat.reduceLeDiff, Int.reduceLE, Int.reduceLT, reduceCtorEq, k0, h1, h5, hm], by simp only [go_sem, ↓reduceIte, Nat.reduceEqDiff, Nat.reduceAdd, Nat.reduceMul, Nat.reduceBEq, Option.getD_none, Int.reduceToNat, Nat.reduceSub, Nat.reduceLT, Nat.reduceLeDiff, Int.reduceLE, Int.reduceLT, reduceCtorEq, k0, h1, h5, hm], by simp only [go_sem, ↓reduceIte, Nat.reduceEqDiff, Nat.reduceAdd, Nat.reduceMul, Nat.reduceBEq, Option.getD_none, Int.reduceToNat, Nat.reduceSub, Nat.reduceLT, Nat.reduceLeDiff, Int.reduceLE, Int.reduceLT, reduceCtorEq, k0, h1, h5, hm]⟩
  · have hi' : ¬ (k : Int) < x.length := by omega
    obtain rfl : k = x.length := by omega
    have hall : ovr ((mkStretchS n x).map strD) (x.map strD) x.length = (mkStretchS n x).map strD := by have := ovr_all hL; simpa using this
    have htk : ((mkStretchS n x).map strD).take x.length = (mkStretchS n x).map strD := List.take_of_length_le (by simp [mkStretchS_len])
    have hce : (((2 * x.length) : Nat) : Int) = 2 * x.length := by omega
    simp only [go_sem, ↓reduceIte, Nat.reduceEqDiff, Nat.reduceAdd, Nat.reduceMul, Nat.reduceBEq, Option.getD_none, Int.reduceToNat, Nat.reduceSub, Nat.reduceLT, Nat.reduceLeDiff, Int.reduceLE, Int.reduceLT, reduceCtorEq, hi', hall, mkStretchS_len, htk, hce, k0, h1, h5, hm]
    try rfl
theorem laws_markKnownS.fcu (x : List (Int × Int)) (n : Int) (h : x.length ≤ 1048576) (hc : (2 * x.length) ≤ 16777216) (hn : 0 ≤ n ∧ n + ((2 * x.length) : Nat) ≤ 576460752303423488) :
    FCt prog F_laws_markKnownS [.io, .ro] [knowns x, Ii n] (Ii (n + ((2 * x.length) : Nat))) [knowns (mkKnownS n x)] := by
  refine fct_run laws_markKnownS.ok rfl ?_
  have hL : ((mkKnownS n x).map knownD).length = (x.map knownD).length := by simp [mkKnownS_len]
  simp only [go_sem, ↓reduceIte, Nat.reduceEqDiff, Nat.reduceAdd, Nat.reduceMul, Nat.reduceBEq, Option.getD_none, Int.reduceToNat, Nat.reduceSub, Nat.reduceLT, Nat.reduceLeDiff, Int.reduceLE, Int.reduceLT, reduceCtorEq]
  refine R_loop (α := Nat) (fun k s' M' => k ≤ x.length ∧ s' 5 = aI k ∧ s' 1 = aI (n + 2 * k) ∧ M'.m 0 = some (.arr 0 true 2 (ovr ((mkKnownS n x).map knownD) (x.map knownD) k))) (fun k => x.length - k) 0
    ⟨by omega, by simp only [go_sem, ↓reduceIte, Nat.reduceEqDiff, Nat.reduceAdd, Nat.reduceMul, Nat.reduceBEq, Option.getD_none, Int.reduceToNat, Nat.reduceSub, Nat.reduceLT, Nat.reduceLeDiff, Int.reduceLE, Int.reduceLT, reduceCtorEq]; rfl, by simp only [go_sem, ↓reduceIte, Nat.reduceEqDiff, Nat.reduceAdd, Nat.reduceMul, Nat.reduceBEq, Option.getD_none, Int.reduceToNat, Nat.reduceSub, Nat.reduceLT, Nat.reduceLeDiff, Int.reduceLE, Int.reduceLT, reduceCtorEq]; simp, by simp only [go_sem, ↓reduceIte, Nat.reduceEqDiff, Nat.reduceAdd, Nat.reduceMul, Nat.reduceBEq, Option.getD_none, Int.reduceToNat, Nat.reduceSub, Nat.reduceLT, Nat.reduceLeDiff, Int.reduceLE, Int.reduceLT, reduceCtorEq]; simp [ovr_zero]⟩ ?_
  rintro k s' M' ⟨hk, h5, h1, hm⟩ ho
  unfold laws_markKnownS.b0
  have k0 : s' 0 = .sl 0 0 0 x.length 2 := by rw [ho 0 rfl]; simp only [go_sem, ↓reduceIte, Nat.reduceEqDiff, Nat.reduceAdd, Nat.reduceMul, Nat.reduceBEq, Option.getD_none, Int.reduceToNat, Nat.reduceSub, Nat.reduceLT, Nat.reduceLeDiff, Int.reduceLE, Int.reduceLT, reduceCtorEq]
  clear ho
  by_cases hlt : k < x.length
  · have hi' : (k : Int) < x.length := by omega
    have ga : x[k]? = some x[k] := List.getElem?_eq_getElem hlt
    have hw : IntKind.i64.wrap (k + 1) = ((k + 1 : Nat) : Int) := wrap_k hlt (by omega)
    have hw1 : IntKind.i64.wrap (n + 2 * k + 1) = n + 2 * k + 1 := by rw [wrap_in (by omega) (by omega)]; try omega
    have hw2 : IntKind.i64.wrap (n + 2 * k + 1 + 1) = n + 2 * (k + 1 : Nat) := by rw [wrap_in (by omega) (by omega)]; try omega
    have hmk : (mkKnownS n x)[k]? = some (⟨n + 2 * (k : Int), n + 2 * (k : Int) + 1⟩) := by simp [mkKnownS, hlt]
    have hg : (ovr ((mkKnownS n x).map knownD) (x.map knownD) k)[k]? = some (knownD x[k]) := by rw [ovr_get hL (by simpa using hlt)]; simp [hlt]
    have hkl : k < (ovr ((mkKnownS n x).map knownD) (x.map knownD) k).length := by rw [ovr_len hL (by simp; omega)]; simpa using hlt
    have hg2 : ∀ d, ((ovr ((mkKnownS n x).map knownD) (x.map knownD) k).set k d)[k]? = some d := fun d => by rw [List.getElem?_set, if_pos rfl, if_pos hkl]
    have hs : (ovr ((mkKnownS n x).map knownD) (x.map knownD) k).set k (.agg [.int .i64 (n + 2 * k), .int .i64 (n + 2 * k + 1)]) = ovr ((mkKnownS n x).map knownD) (x.map knownD) (k + 1) := ovr_set hL (by simpa using hlt) (by rw [List.getElem?_map, hmk]; rfl)
    simp only [go_sem, ↓reduceIte, Nat.reduceEqDiff, Nat.reduceAdd, Nat.reduceMul, Nat.reduceBEq, Option.getD_none, Int.reduceToNat, Nat.reduceSub, Nat.reduceLT, Nat.reduceLeDiff, Int.reduceLE, Int.reduceLT, reduceCtorEq, hi', hw, hw1, hw2, hg, hg2, List.set_set, hs, k0, h1, h5, hm]
    exact ⟨k + 1, by dsimp only; omega, by omega, by simp only [go_sem, ↓reduceIte, Nat.reduceEqDiff, Nat.reduceAdd, Nat.reduceMul, Nat.reduceBEq, Option.getD_none, Int.reduceToNat, Nat.reduceSub, Nat.reduceLT, Nat.reduceLeDiff, Int.reduceLE, Int.reduceLT, reduceCtorEq, k0, h1, h5, hm], by simp only [go_sem, ↓reduceIte, Nat.reduceEqDiff, Nat.reduceAdd, Nat.reduceMul, Nat.reduceBEq, Option.getD_none, Int.reduceToNat, Nat.reduceSub, Nat.reduceLT, Nat.reduceLeDiff, Int.reduceLE, Int.reduceLT, reduceCtorEq, k0, h1, h5, hm], by simp only [go_sem, ↓reduceIte, Nat.reduceEqDiff, Nat.reduceAdd, Nat.reduceMul, Nat.reduceBEq, Option.getD_none, Int.reduceToNat, Nat.reduceSub, Nat.reduceLT, Nat.reduceLeDiff, Int.reduceLE, Int.reduceLT, reduceCtorEq, k0, h1, h5, hm]⟩
  · have hi' : ¬ (k : Int) < x.length := by omega
    obtain rfl : k = x.length := by omega
    have hall : ovr ((mkKnownS n x).map knownD) (x.map knownD) x.length = (mkKnownS n x).map knownD := by have := ovr_all hL; simpa using this
    have htk : ((mkKnownS n x).map knownD).take x.length = (mkKnownS n x).map knownD := List.take_of_length_le (by simp [mkKnownS_len])
    have hce : (((2 * x.length) : Nat) : Int) = 2 * x.length := by omega
    simp only [go_sem, ↓reduceIte, Nat.reduceEqDiff, Nat.reduceAdd, Nat.reduceMul, Nat.reduceBEq, Option.getD_none, Int.reduceToNat, Nat.reduceSub, Nat.reduceLT, Nat.reduceLeDiff, Int.reduceLE, Int.reduceLT, reduceCtorEq, hi', hall, mkKnownS_len, htk, hce, k0, h1, h5, hm]
    try rfl
theorem laws_markBoolS.fcu (x : List Bool) (n : Int) (h : x.length ≤ 1048576) (hc : x.length ≤ 16777216) (hn : 0 ≤ n ∧ n + (x.length : Nat) ≤ 576460752303423488) :
    FCt prog F_laws_markBoolS [.io, .ro] [bools x, Ii n] (Ii (n + (x.length : Nat))) [bools (mkBoolS n x)] := by
  refine fct_run laws_markBoolS.ok rfl ?_
  have hL : ((mkBoolS n x).map Bb).length = (x.map Bb).length := by simp [mkBoolS_len]
  simp only [go_sem, ↓reduceIte, Nat.reduceEqDiff, Nat.reduceAdd, Nat.reduceMul, Nat.reduceBEq, Option.getD_none, Int.reduceToNat, Nat.reduceSub, Nat.reduceLT, Nat.reduceLeDiff, Int.reduceLE, Int.reduceLT, reduceCtorEq]
  refine R_loop (α := Nat) (fun k s' M' => k ≤ x.length ∧ s' 5 = aI k ∧ s' 1 = aI (n + k) ∧ M'.m 0 = some (.arr 0 true 1 (ovr ((mkBoolS n x).map Bb) (x.map Bb) k))) (fun k => x.length - k) 0
    ⟨by omega, by simp only [go_sem, ↓reduceIte, Nat.reduceEqDiff, Nat.reduceAdd, Nat.reduceMul, Nat.reduceBEq, Option.getD_none, Int.reduceToNat, Nat.reduceSub, Nat.reduceLT, Nat.reduceLeDiff, Int.reduceLE, Int.reduceLT, reduceCtorEq]; rfl, by simp only [go_sem, ↓reduceIte, Nat.reduceEqDiff, Nat.reduceAdd, Nat.reduceMul, Nat.reduceBEq, Option.getD_none, Int.reduceToNat, Nat.reduceSub, Nat.reduceLT, Nat.reduceLeDiff, Int.reduceLE, Int.reduceLT, reduceCtorEq]; simp, by simp only [go_sem, ↓reduceIte, Nat.reduceEqDiff, Nat.reduceAdd, Nat.reduceMul, Nat.reduceBEq, Option.getD_none, Int.reduceToNat, Nat.reduceSub, Nat.reduceLT, Nat.reduceLeDiff, Int.reduceLE, Int.reduceLT, reduceCtorEq]; simp [ovr_zero]⟩ ?_
  rintro k s' M' ⟨hk, h5, h1, hm⟩ ho
  unfold laws_markBoolS.b0
  have k0 : s' 0 = .sl 0 0 0 x.length 1 := by rw [ho 0 rfl]; simp only [go_sem, ↓reduceIte, Nat.reduceEqDiff, Nat.reduceAdd, Nat.reduceMul, Nat.reduceBEq, Option.getD_none, Int.reduceToNat, Nat.reduceSub, Nat.reduceLT, Nat.reduceLeDiff, Int.reduceLE, Int.reduceLT, reduceCtorEq]
  clear ho
  by_cases hlt : k < x.length
  · have hi' : (k : Int) < x.length := by omega
    have ga : x[k]? = some x[k] := List.getElem?_eq_getElem hlt
    have hw : IntKind.i64.wrap (k + 1) = ((k + 1 : Nat) : Int) := wrap_k hlt (by omega)
    have hw1 : IntKind.i64.wrap (n + k + 1) = n + (k + 1 : Nat) := by rw [wrap_in (by omega) (by omega)]; try omega
    have hmk : (mkBoolS n x)[k]? = some (((n + (k : Int)).tmod 3 == 0)) := by simp [mkBoolS, hlt]
    have hg : (ovr ((mkBoolS n x).map Bb) (x.map Bb) k)[k]? = some (Bb x[k]) := by rw [ovr_get hL (by simpa using hlt)]; simp [hlt]
    have hkl : k < (ovr ((mkBoolS n x).map Bb) (x.map Bb) k).length := by rw [ovr_len hL (by simp; omega)]; simpa using hlt
    have hg2 : ∀ d, ((ovr ((mkBoolS n x).map Bb) (x.map Bb) k).set k d)[k]? = some d := fun d => by rw [List.getElem?_set, if_pos rfl, if_pos hkl]
    have hs : (ovr ((mkBoolS n x).map Bb) (x.map Bb) k).set k (.bool ((n + (k : Int)).tmod 3 == 0)) = ovr ((mkBoolS n x).map Bb) (x.map Bb) (k + 1) := ovr_set hL (by simpa using hlt) (by rw [List.getElem?_map, hmk]; rfl)
    simp only [go_sem, ↓reduceIte, Nat.reduceEqDiff, Nat.reduceAdd, Nat.reduceMul, Nat.reduceBEq, Option.getD_none, Int.reduceToNat, Nat.reduceSub, Nat.reduceLT, Nat.reduceLeDiff, Int.reduceLE, Int.reduceLT, reduceCtorEq, hi', hw, hw1, hg, hg2, List.set_set, hs, show ¬ (3 : Int) = 0 by omega, k0, h1, h5, hm]
    exact ⟨k + 1, by dsimp only; omega, by omega, by simp only [go_sem, ↓reduceIte, Nat.reduceEqDiff, Nat.reduceAdd, Nat.reduceMul, Nat.reduceBEq, Option.getD_none, Int.reduceToNat, Nat.reduceSub, Nat.reduceLT, Nat.reduceLeDiff, Int.reduceLE, Int.reduceLT, reduceCtorEq, k0, h1, h5, hm], by simp only [go_sem, ↓reduceIte, Nat.reduceEqDiff, Nat.reduceAdd, Nat.reduceMul, Nat.reduceBEq, Option.getD_none, Int.reduceToNat, Nat.reduceSub, Nat.reduceLT, Nat.reduceLeDiff, Int.reduceLE, Int.reduceLT, reduceCtorEq, k0, h1, h5, hm], by simp only [go_sem, ↓reduceIte, Nat.reduceEqDiff, Nat.reduceAdd, Nat.reduceMul, Nat.reduceBEq, Option.getD_none, Int.reduceToNat, Nat.reduceSub, Nat.reduceLT, Nat.reduceLeDiff, Int.reduceLE, Int.reduceLT, reduceCtorEq, k0, h1, h5, hm]⟩
  · have hi' : ¬ (k : Int) < x.length := by omega
    obtain rfl : k = x.length := by omega
    have hall : ovr ((mkBoolS n x).map Bb) (x.map Bb) x.length = (mkBoolS n x).map Bb := by have := ovr_all hL; simpa using this
    have htk : ((mkBoolS n x).map Bb).take x.length = (mkBoolS n x).map Bb := List.take_of_length_le (by simp [mkBoolS_len])
    have hce : ((x.length : Nat) : Int) = x.length := by omega
    simp only [go_sem, ↓reduceIte, Nat.reduceEqDiff, Nat.reduceAdd, Nat.reduceMul, Nat.reduceBEq, Option.getD_none, Int.reduceToNat, Nat.reduceSub, Nat.reduceLT, Nat.reduceLeDiff, Int.reduceLE, Int.reduceLT, reduceCtorEq, hi', hall, mkBoolS_len, htk, hce, k0, h1, h5, hm]
    try rfl
theorem laws_heldStretchS.fcu (x : List (Int × Int)) (n : Int) (h : x.length ≤ 1048576) (hc : (2 * x.length) ≤ 16777216) (hn : 0 ≤ n ∧ n + ((2 * x.length) : Nat) ≤ 576460752303423488) :
    FCt prog F_laws_heldStretchS [.ro, .ro] [strs (mkStretchS n x), Ii n] (Ii (n + ((2 * x.length) : Nat))) [] := by
  refine fct_run laws_heldStretchS.ok rfl ?_
  simp only [go_sem, ↓reduceIte, Nat.reduceEqDiff, Nat.reduceAdd, Nat.reduceMul, Nat.reduceBEq, Option.getD_none, Int.reduceToNat, Nat.reduceSub, Nat.reduceLT, Nat.reduceLeDiff, Int.reduceLE, Int.reduceLT, reduceCtorEq]
  refine R_loop (α := Nat) (fun k s' M' => k ≤ x.length ∧ s' 5 = aI k ∧ s' 1 = aI (n + 2 * k)) (fun k => x.length - k) 0 ⟨by omega, by simp only [go_sem, ↓reduceIte, Nat.reduceEqDiff, Nat.reduceAdd, Nat.reduceMul, Nat.reduceBEq, Option.getD_none, Int.reduceToNat, Nat.reduceSub, Nat.reduceLT, Nat.reduceLeDiff, Int.reduceLE, Int.reduceLT, reduceCtorEq]; rfl, by simp only [go_sem, ↓reduceIte, Nat.reduceEqDiff, Nat.reduceAdd, Nat.reduceMul, Nat.reduceBEq, Option.getD_none, Int.reduceToNat, Nat.reduceSub, Nat.reduceLT, Nat.reduceLeDiff, Int.reduceLE, Int.reduceLT, reduceCtorEq]; simp⟩ ?_
  rintro k s' M' ⟨hk, h5, h1⟩ ho
  unfold laws_heldStretchS.b0
  have k0 : s' 0 = .dat none (strs (mkStretchS n x)) := by rw [ho 0 rfl]; simp only [go_sem, ↓reduceIte, Nat.reduceEqDiff, Nat.reduceAdd, Nat.reduceMul, Nat.reduceBEq, Option.getD_none, Int.reduceToNat, Nat.reduceSub, Nat.reduceLT, Nat.reduceLeDiff, Int.reduceLE, Int.reduceLT, reduceCtorEq]
  clear ho
  by_cases hlt : k < x.length
  · have hi' : (k : Int) < x.length := by omega
    have hw : IntKind.i64.wrap (k + 1) = ((k + 1 : Nat) : Int) := wrap_k hlt (by omega)
    have hw1 : IntKind.i64.wrap (n + 2 * k + 1) = n + 2 * k + 1 := by rw [wrap_in (by omega) (by omega)]; try omega
    have hw2 : IntKind.i64.wrap (n + 2 * k + 1 + 1) = n + 2 * (k + 1 : Nat) := by rw [wrap_in (by omega) (by omega)]; try omega
    have hmk : (mkStretchS n x)[k]? = some (⟨n + 2 * (k : Int), n + 2 * (k : Int) + 1⟩) := by simp [mkStretchS, hlt]
    simp only [go_sem, ↓reduceIte, Nat.reduceEqDiff, Nat.reduceAdd, Nat.reduceMul, Nat.reduceBEq, Option.getD_none, Int.reduceToNat, Nat.reduceSub, Nat.reduceLT, Nat.reduceLeDiff, Int.reduceLE, Int.reduceLT, reduceCtorEq, hi', hw, hw1, hw2, hmk, k0, h1, h5, mkStretchS_len]
    exact ⟨k + 1, by dsimp only; omega, by omega, by simp only [go_sem, ↓reduceIte, Nat.reduceEqDiff, Nat.reduceAdd, Nat.reduceMul, Nat.reduceBEq, Option.getD_none, Int.reduceToNat, Nat.reduceSub, Nat.reduceLT, Nat.reduceLeDiff, Int.reduceLE, Int.reduceLT, reduceCtorEq, k0, h1, h5, mkStretchS_len], by simp only [go_sem, ↓reduceIte, Nat.reduceEqDiff, Nat.reduceAdd, Nat.reduceMul, Nat.reduceBEq, Option.getD_none, Int.reduceToNat, Nat.reduceSub, Nat.reduceLT, Nat.reduceLeDiff, Int.reduceLE, Int.reduceLT, reduceCtorEq, k0, h1, h5, mkStretchS_len]⟩
  · have hi' : ¬ (k : Int) < x.length := by omega
    obtain rfl : k = x.length := by omega
    have hce : (((2 * x.length) : Nat) : Int) = 2 * x.length := by omega
    simp only [go_sem, ↓reduceIte, Nat.reduceEqDiff, Nat.reduceAdd, Nat.reduceMul, Nat.reduceBEq, Option.getD_none, Int.reduceToNat, Nat.reduceSub, Nat.reduceLT, Nat.reduceLeDiff, Int.reduceLE, Int.reduceLT, reduceCtorEq, hi', hce, k0, h1, h5, mkStretchS_len]
theorem laws_heldKnownS.fcu (x : List (Int × Int)) (n : Int) (h : x.length ≤ 1048576) (hc : (2 * x.length) ≤ 16777216) (hn : 0 ≤ n ∧ n + ((2 * x.length) : Nat) ≤ 576460752303423488) :
    FCt prog F_laws_heldKnownS [.ro, .ro] [knowns (mkKnownS n x), Ii n] (Ii (n + ((2 * x.length) : Nat))) [] := by
  refine fct_run laws_heldKnownS.ok rfl ?_
  simp only [go_sem, ↓reduceIte, Nat.reduceEqDiff, Nat.reduceAdd, Nat.reduceMul, Nat.reduceBEq, Option.getD_none, Int.reduceToNat, Nat.reduceSub, Nat.reduceLT, Nat.reduceLeDiff, Int.reduceLE, Int.reduceLT, reduceCtorEq]
  refine R_loop (α := Nat) (fun k s' M' => k ≤ x.length ∧ s' 5 = aI k ∧ s' 1 = aI (n + 2 * k)) (fun k => x.length - k) 0 ⟨by omega, by simp only [go_sem, ↓reduceIte, Nat.reduceEqDiff, Nat.reduceAdd, Nat.reduceMul, Nat.reduceBEq, Option.getD_none, Int.reduceToNat, Nat.reduceSub, Nat.reduceLT, Nat.reduceLeDiff, Int.reduceLE, Int.reduceLT, reduceCtorEq]; rfl, by simp only [go_sem, ↓reduceIte, Nat.reduceEqDiff, Nat.reduceAdd, Nat.reduceMul, Nat.reduceBEq, Option.getD_none, Int.reduceToNat, Nat.reduceSub, Nat.reduceLT, Nat.reduceLeDiff, Int.reduceLE, Int.reduceLT, reduceCtorEq]; simp⟩ ?_
  rintro k s' M' ⟨hk, h5, h1⟩ ho
  unfold laws_heldKnownS.b0
  have k0 : s' 0 = .dat none (knowns (mkKnownS n x)) := by rw [ho 0 rfl]; simp only [go_sem, ↓reduceIte, Nat.reduceEqDiff, Nat.reduceAdd, Nat.reduceMul, Nat.reduceBEq, Option.getD_none, Int.reduceToNat, Nat.reduceSub, Nat.reduceLT, Nat.reduceLeDiff, Int.reduceLE, Int.reduceLT, reduceCtorEq]
  clear ho
  by_cases hlt : k < x.length
  · have hi' : (k : Int) < x.length := by omega
    have hw : IntKind.i64.wrap (k + 1) = ((k + 1 : Nat) : Int) := wrap_k hlt (by omega)
    have hw1 : IntKind.i64.wrap (n + 2 * k + 1) = n + 2 * k + 1 := by rw [wrap_in (by omega) (by omega)]; try omega
    have hw2 : IntKind.i64.wrap (n + 2 * k + 1 + 1) = n + 2 * (k + 1 : Nat) := by rw [wrap_in (by omega) (by omega)]; try omega
    have hmk : (mkKnownS n x)[k]? = some (⟨n + 2 * (k : Int), n + 2 * (k : Int) + 1⟩) := by simp [mkKnownS, hlt]
    simp only [go_sem, ↓reduceIte, Nat.reduceEqDiff, Nat.reduceAdd, Nat.reduceMul, Nat.reduceBEq, Option.getD_none, Int.reduceToNat, Nat.reduceSub, Nat.reduceLT, Nat.reduceLeDiff, Int.reduceLE, Int.reduceLT, reduceCtorEq, hi', hw, hw1, hw2, hmk, k0, h1, h5, mkKnownS_len]
    exact ⟨k + 1, by dsimp only; omega, by omega, by simp only [go_sem, ↓reduceIte, Nat.reduceEqDiff, Nat.reduceAdd, Nat.reduceMul, Nat.reduceBEq, Option.getD_none, Int.reduceToNat, Nat.reduceSub, Nat.reduceLT, Nat.reduceLeDiff, Int.reduceLE, Int.reduceLT, reduceCtorEq, k0, h1, h5, mkKnownS_len], by simp only [go_sem, ↓reduceIte, Nat.reduceEqDiff, Nat.reduceAdd, Nat.reduceMul, Nat.reduceBEq, Option.getD_none, Int.reduceToNat, Nat.reduceSub, Nat.reduceLT, Nat.reduceLeDiff, Int.reduceLE, Int.reduceLT, reduceCtorEq, k0, h1, h5, mkKnownS_len]⟩
  · have hi' : ¬ (k : Int) < x.length := by omega
    obtain rfl : k = x.length := by omega
    have hce : (((2 * x.length) : Nat) : Int) = 2 * x.length := by omega
    simp only [go_sem, ↓reduceIte, Nat.reduceEqDiff, Nat.reduceAdd, Nat.reduceMul, Nat.reduceBEq, Option.getD_none, Int.reduceToNat, Nat.reduceSub, Nat.reduceLT, Nat.reduceLeDiff, Int.reduceLE, Int.reduceLT, reduceCtorEq, hi', hce, k0, h1, h5, mkKnownS_len]
theorem laws_heldBoolS.fcu (x : List Bool) (n : Int) (h : x.length ≤ 1048576) (hc : x.length ≤ 16777216) (hn : 0 ≤ n ∧ n + (x.length : Nat) ≤ 576460752303423488) :
    FCt prog F_laws_heldBoolS [.ro, .ro] [bools (mkBoolS n x), Ii n] (Ii (n + (x.length : Nat))) [] := by
  refine fct_run laws_heldBoolS.ok rfl ?_
  simp only [go_sem, ↓reduceIte, Nat.reduceEqDiff, Nat.reduceAdd, Nat.reduceMul, Nat.reduceBEq, Option.getD_none, Int.reduceToNat, Nat.reduceSub, Nat.reduceLT, Nat.reduceLeDiff, Int.reduceLE, Int.reduceLT, reduceCtorEq]
  refine R_loop (α := Nat) (fun k s' M' => k ≤ x.length ∧ s' 5 = aI k ∧ s' 1 = aI (n + k)) (fun k => x.length - k) 0 ⟨by omega, by simp only [go_sem, ↓reduceIte, Nat.reduceEqDiff, Nat.reduceAdd, Nat.reduceMul, Nat.reduceBEq, Option.getD_none, Int.reduceToNat, Nat.reduceSub, Nat.reduceLT, Nat.reduceLeDiff, Int.reduceLE, Int.reduceLT, reduceCtorEq]; rfl, by simp only [go_sem, ↓reduceIte, Nat.reduceEqDiff, Nat.reduceAdd, Nat.reduceMul, Nat.reduceBEq, Option.getD_none, Int.reduceToNat, Nat.reduceSub, Nat.reduceLT, Nat.reduceLeDiff, Int.reduceLE, Int.reduceLT, reduceCtorEq]; simp⟩ ?_
  rintro k s' M' ⟨hk, h5, h1⟩ ho
  unfold laws_heldBoolS.b0
  have k0 : s' 0 = .dat none (bools (mkBoolS n x)) := by rw [ho 0 rfl]; simp only [go_sem, ↓reduceIte, Nat.reduceEqDiff, Nat.reduceAdd, Nat.reduceMul, Nat.reduceBEq, Option.getD_none, Int.reduceToNat, Nat.reduceSub, Nat.reduceLT, Nat.reduceLeDiff, Int.reduceLE, Int.reduceLT, reduceCtorEq]
  clear ho
  by_cases hlt : k < x.length
  · have hi' : (k : Int) < x.length := by omega
    have hw : IntKind.i64.wrap (k + 1) = ((k + 1 : Nat) : Int) := wrap_k hlt (by omega)
    have hw1 : IntKind.i64.wrap (n + k + 1) = n + (k + 1 : Nat) := by rw [wrap_in (by omega) (by omega)]; try omega
    have hmk : (mkBoolS n x)[k]? = some (((n + (k : Int)).tmod 3 == 0)) := by simp [mkBoolS, hlt]
    simp only [go_sem, ↓reduceIte, Nat.reduceEqDiff, Nat.reduceAdd, Nat.reduceMul, Nat.reduceBEq, Option.getD_none, Int.reduceToNat, Nat.reduceSub, Nat.reduceLT, Nat.reduceLeDiff, Int.reduceLE, Int.reduceLT, reduceCtorEq, hi', hw, hw1, hmk, show ¬ (3 : Int) = 0 by omega, k0, h1, h5, mkBoolS_len]
    exact ⟨k + 1, by dsimp only; omega, by omega, by simp only [go_sem, ↓reduceIte, Nat.reduceEqDiff, Nat.reduceAdd, Nat.reduceMul, Nat.reduceBEq, Option.getD_none, Int.reduceToNat, Nat.reduceSub, Nat.reduceLT, Nat.reduceLeDiff, Int.reduceLE, Int.reduceLT, reduceCtorEq, k0, h1, h5, mkBoolS_len], by simp only [go_sem, ↓reduceIte, Nat.reduceEqDiff, Nat.reduceAdd, Nat.reduceMul, Nat.reduceBEq, Option.getD_none, Int.reduceToNat, Nat.reduceSub, Nat.reduceLT, Nat.reduceLeDiff, Int.reduceLE, Int.reduceLT, reduceCtorEq, k0, h1, h5, mkBoolS_len]⟩
  · have hi' : ¬ (k : Int) < x.length := by omega
    obtain rfl : k = x.length := by omega
    have hce : ((x.length : Nat) : Int) = x.length := by omega
    simp only [go_sem, ↓reduceIte, Nat.reduceEqDiff, Nat.reduceAdd, Nat.reduceMul, Nat.reduceBEq, Option.getD_none, Int.reduceToNat, Nat.reduceSub, Nat.reduceLT, Nat.reduceLeDiff, Int.reduceLE, Int.reduceLT, reduceCtorEq, hi', hce, k0, h1, h5, mkBoolS_len]

structure MayD where
  reg : List (Int × Int)
  bits : List (Int × Int)
  cell : List (Int × Int)
  isset : List Bool
  deriving DecidableEq
abbrev MayD.d (x : MayD) : D := .agg [strs x.reg, knowns x.bits, strs x.cell, bools x.isset]
theorem noRs_May {x : MayD} : noRs (MayD.d x) = true := noRs_agg fun d hd => by
  rcases List.mem_cons.1 hd with rfl | hd
  · exact noRs_strs
  rcases List.mem_cons.1 hd with rfl | hd
  · exact noRs_knowns
  rcases List.mem_cons.1 hd with rfl | hd
  · exact noRs_strs
  rcases List.mem_cons.1 hd with rfl | hd
  · exact noRs_bools
  cases hd
def wMay (x : MayD) : Nat := x.reg.length + x.bits.length + x.cell.length + x.isset.length
def cMay (x : MayD) : Nat := (2 * x.reg.length) + (2 * x.bits.length) + (2 * x.cell.length) + x.isset.length
def mkMay (n : Int) (x : MayD) : MayD := { x with reg := mkStretchS (n) x.reg, bits := mkKnownS (n + (2 * x.reg.length)) x.bits, cell := mkStretchS (n + (2 * x.reg.length) + (2 * x.bits.length)) x.cell, isset := mkBoolS (n + (2 * x.reg.length) + (2 * x.bits.length) + (2 * x.cell.length)) x.isset }
theorem cMay_le (x : MayD) : cMay x ≤ 8 * wMay x := by
  unfold cMay wMay; omega
theorem laws_eqMay.fcu (x : MayD) (h : wMay x ≤ 1048576) :
    FCt prog F_laws_eqMay [.ro, .ro] [MayD.d x, MayD.d x] (Bb true) [] := by
  refine fct_run laws_eqMay.ok rfl ?_
  unfold wMay at h
  simp only [go_sem, ↓reduceIte, Nat.reduceEqDiff, Nat.reduceAdd, Nat.reduceMul, Nat.reduceBEq, Option.getD_none, Int.reduceToNat, Nat.reduceSub, Nat.reduceLT, Nat.reduceLeDiff, Int.reduceLE, Int.reduceLT, reduceCtorEq]
  refine fcW_bool (laws_eqStretchS.fcu x.reg (by omega)) ?_
  simp only [go_sem, ↓reduceIte, Nat.reduceEqDiff, Nat.reduceAdd, Nat.reduceMul, Nat.reduceBEq, Option.getD_none, Int.reduceToNat, Nat.reduceSub, Nat.reduceLT, Nat.reduceLeDiff, Int.reduceLE, Int.reduceLT, reduceCtorEq]
  refine fcW_bool (laws_eqKnownS.fcu x.bits (by omega)) ?_
  simp only [go_sem, ↓reduceIte, Nat.reduceEqDiff, Nat.reduceAdd, Nat.reduceMul, Nat.reduceBEq, Option.getD_none, Int.reduceToNat, Nat.reduceSub, Nat.reduceLT, Nat.reduceLeDiff, Int.reduceLE, Int.reduceLT, reduceCtorEq]
  refine fcW_bool (laws_eqStretchS.fcu x.cell (by omega)) ?_
  simp only [go_sem, ↓reduceIte, Nat.reduceEqDiff, Nat.reduceAdd, Nat.reduceMul, Nat.reduceBEq, Option.getD_none, Int.reduceToNat, Nat.reduceSub, Nat.reduceLT, Nat.reduceLeDiff, Int.reduceLE, Int.reduceLT, reduceCtorEq]
  refine fcW_bool (laws_eqBoolS.fcu x.isset (by omega)) ?_
  simp only [go_sem, ↓reduceIte, Nat.reduceEqDiff, Nat.reduceAdd, Nat.reduceMul, Nat.reduceBEq, Option.getD_none, Int.reduceToNat, Nat.reduceSub, Nat.reduceLT, Nat.reduceLeDiff, Int.reduceLE, Int.reduceLT, reduceCtorEq]
theorem laws_markMay.fcu (x : MayD) (n : Int) (h : wMay x ≤ 1048576) (hc : cMay x ≤ 16777216) (hn : 0 ≤ n ∧ n + (cMay x : Nat) ≤ 576460752303423488) :
    FCt prog F_laws_markMay [.io, .ro] [MayD.d x, Ii n] (Ii (n + (cMay x : Nat))) [MayD.d (mkMay n x)] := by
  refine fct_run laws_markMay.ok rfl ?_
  unfold wMay at h
  unfold cMay at hc hn ⊢
  unfold mkMay
  simp only [go_sem, ↓reduceIte, Nat.reduceEqDiff, Nat.reduceAdd, Nat.reduceMul, Nat.reduceBEq, Option.getD_none, Int.reduceToNat, Nat.reduceSub, Nat.reduceLT, Nat.reduceLeDiff, Int.reduceLE, Int.reduceLT, reduceCtorEq, take_map_len]
  refine coW_of (laws_markStretchS.fcu x.reg (n) (by omega) (by omega) (by omega)) rfl (by simp only [noRsL, noRs_strs, Bool.and_self]) ?_
  simp only [go_sem, ↓reduceIte, Nat.reduceEqDiff, Nat.reduceAdd, Nat.reduceMul, Nat.reduceBEq, Option.getD_none, Int.reduceToNat, Nat.reduceSub, Nat.reduceLT, Nat.reduceLeDiff, Int.reduceLE, Int.reduceLT, reduceCtorEq, mkBoolS_len, mkBoolS_take, mkKnownS_len, mkKnownS_take, mkStretchS_len, mkStretchS_take, take_map_len]
  refine coW_of (laws_markKnownS.fcu x.bits (n + ((2 * x.reg.length) : Nat)) (by omega) (by omega) (by omega)) rfl (by simp only [noRsL, noRs_knowns, Bool.and_self]) ?_
  simp only [go_sem, ↓reduceIte, Nat.reduceEqDiff, Nat.reduceAdd, Nat.reduceMul, Nat.reduceBEq, Option.getD_none, Int.reduceToNat, Nat.reduceSub, Nat.reduceLT, Nat.reduceLeDiff, Int.reduceLE, Int.reduceLT, reduceCtorEq, mkBoolS_len, mkBoolS_take, mkKnownS_len, mkKnownS_take, mkStretchS_len, mkStretchS_take, take_map_len]
  refine coW_of (laws_markStretchS.fcu x.cell (n + ((2 * x.reg.length) : Nat) + ((2 * x.bits.length) : Nat)) (by omega) (by omega) (by omega)) rfl (by simp only [noRsL, noRs_strs, Bool.and_self]) ?_
  simp only [go_sem, ↓reduceIte, Nat.reduceEqDiff, Nat.reduceAdd, Nat.reduceMul, Nat.reduceBEq, Option.getD_none, Int.reduceToNat, Nat.reduceSub, Nat.reduceLT, Nat.reduceLeDiff, Int.reduceLE, Int.reduceLT, reduceCtorEq, mkBoolS_len, mkBoolS_take, mkKnownS_len, mkKnownS_take, mkStretchS_len, mkStretchS_take, take_map_len]
  refine coW_of (laws_markBoolS.fcu x.isset (n + ((2 * x.reg.length) : Nat) + ((2 * x.bits.length) : Nat) + ((2 * x.cell.length) : Nat)) (by omega) (by omega) (by omega)) rfl (by simp only [noRsL, noRs_bools, Bool.and_self]) ?_
  simp only [go_sem, ↓reduceIte, Nat.reduceEqDiff, Nat.reduceAdd, Nat.reduceMul, Nat.reduceBEq, Option.getD_none, Int.reduceToNat, Nat.reduceSub, Nat.reduceLT, Nat.reduceLeDiff, Int.reduceLE, Int.reduceLT, reduceCtorEq, mkBoolS_len, mkBoolS_take, mkKnownS_len, mkKnownS_take, mkStretchS_len, mkStretchS_take, take_map_len]
  try simp [Int.add_assoc, List.take_of_length_le, mkBoolS_len, mkKnownS_len, mkStretchS_len]
theorem laws_heldMay.fcu (x : MayD) (n : Int) (h : wMay x ≤ 1048576) (hc : cMay x ≤ 16777216) (hn : 0 ≤ n ∧ n + (cMay x : Nat) ≤ 576460752303423488) :
    FCt prog F_laws_heldMay [.ro, .ro] [MayD.d (mkMay n x), Ii n] (Ii (n + (cMay x : Nat))) [] := by
  refine fct_run laws_heldMay.ok rfl ?_
  unfold wMay at h
  unfold cMay at hc hn ⊢
  unfold mkMay
  simp only [go_sem, ↓reduceIte, Nat.reduceEqDiff, Nat.reduceAdd, Nat.reduceMul, Nat.reduceBEq, Option.getD_none, Int.reduceToNat, Nat.reduceSub, Nat.reduceLT, Nat.reduceLeDiff, Int.reduceLE, Int.reduceLT, reduceCtorEq]
  refine fcW_int (laws_heldStretchS.fcu x.reg (n) (by omega) (by omega) (by omega)) ?_
  have hng : ¬ (n + ((2 * x.reg.length) : Nat) < 0) := by omega
  simp only [go_sem, ↓reduceIte, Nat.reduceEqDiff, Nat.reduceAdd, Nat.reduceMul, Nat.reduceBEq, Option.getD_none, Int.reduceToNat, Nat.reduceSub, Nat.reduceLT, Nat.reduceLeDiff, Int.reduceLE, Int.reduceLT, reduceCtorEq, hng]
  refine fcW_int (laws_heldKnownS.fcu x.bits (n + ((2 * x.reg.length) : Nat)) (by omega) (by omega) (by omega)) ?_
  have hng : ¬ (n + ((2 * x.reg.length) : Nat) + ((2 * x.bits.length) : Nat) < 0) := by omega
  simp only [go_sem, ↓reduceIte, Nat.reduceEqDiff, Nat.reduceAdd, Nat.reduceMul, Nat.reduceBEq, Option.getD_none, Int.reduceToNat, Nat.reduceSub, Nat.reduceLT, Nat.reduceLeDiff, Int.reduceLE, Int.reduceLT, reduceCtorEq, hng]
  refine fcW_int (laws_heldStretchS.fcu x.cell (n + ((2 * x.reg.length) : Nat) + ((2 * x.bits.length) : Nat)) (by omega) (by omega) (by omega)) ?_
  have hng : ¬ (n + ((2 * x.reg.length) : Nat) + ((2 * x.bits.length) : Nat) + ((2 * x.cell.length) : Nat) < 0) := by omega
  simp only [go_sem, ↓reduceIte, Nat.reduceEqDiff, Nat.reduceAdd, Nat.reduceMul, Nat.reduceBEq, Option.getD_none, Int.reduceToNat, Nat.reduceSub, Nat.reduceLT, Nat.reduceLeDiff, Int.reduceLE, Int.reduceLT, reduceCtorEq, hng]
  refine fcW_int (laws_heldBoolS.fcu x.isset (n + ((2 * x.reg.length) : Nat) + ((2 * x.bits.length) : Nat) + ((2 * x.cell.length) : Nat)) (by omega) (by omega) (by omega)) ?_
  have hng : ¬ (n + ((2 * x.reg.length) : Nat) + ((2 * x.bits.length) : Nat) + ((2 * x.cell.length) : Nat) + (x.isset.length : Nat) < 0) := by omega
  simp only [go_sem, ↓reduceIte, Nat.reduceEqDiff, Nat.reduceAdd, Nat.reduceMul, Nat.reduceBEq, Option.getD_none, Int.reduceToNat, Nat.reduceSub, Nat.reduceLT, Nat.reduceLeDiff, Int.reduceLE, Int.reduceLT, reduceCtorEq, hng]
  try simp [Int.add_assoc]

end Go.Vm.Ytmicgdfekpoajaa
/- Walks: good may-states. -/
namespace Go.Vm.Ytmicgdfekpoajaa
open Go Go.Vm
set_option maxRecDepth 10000
set_option linter.unusedSimpArgs false
set_option linter.unusedVariables false

end Go.Vm.Ytmicgdfekpoajaa
/- Walks: the may-state at the start. -/
namespace Go.Vm.Ytmicgdfekpoajaa
open Go Go.Vm
set_option maxRecDepth 10000
set_option linter.unusedSimpArgs false
set_option linter.unusedVariables false

theorem bits_Mul64.fc16 : FCt prog F_bits_Mul64 [.ro, .ro] [.int .u64 1, .int .u64 16] (.tup [.int .u64 0, .int .u64 16]) [] := by
  refine fct_run bits_Mul64.ok rfl ?_
  simp only [go_sem, ↓reduceIte, Nat.reduceEqDiff, Nat.reduceAdd, Nat.reduceMul, Nat.reduceBEq, Option.getD_none, Int.reduceToNat, Nat.reduceSub, Nat.reduceLT, Nat.reduceLeDiff, Int.reduceLE, Int.reduceLT, reduceCtorEq]
  rfl
theorem bits_Mul.fc16 : FCt prog F_bits_Mul [.ro, .ro] [.int .u64 1, .int .u64 16] (.tup [.int .u64 0, .int .u64 16]) [] := by
  refine fct_run bits_Mul.ok rfl ?_
  simp only [go_sem, ↓reduceIte, Nat.reduceEqDiff, Nat.reduceAdd, Nat.reduceMul, Nat.reduceBEq, Option.getD_none, Int.reduceToNat, Nat.reduceSub, Nat.reduceLT, Nat.reduceLeDiff, Int.reduceLE, Int.reduceLT, reduceCtorEq]
  refine fcW_bd bits_Mul64.fc16 rfl ?_
  simp only [go_sem, ↓reduceIte, Nat.reduceEqDiff, Nat.reduceAdd, Nat.reduceMul, Nat.reduceBEq, Option.getD_none, Int.reduceToNat, Nat.reduceSub, Nat.reduceLT, Nat.reduceLeDiff, Int.reduceLE, Int.reduceLT, reduceCtorEq]

theorem slices_Repeat__sStretch_Stretch.fc16 (x : (Int × Int)) : FCt prog F_slices_Repeat__sStretch_Stretch [.ro, .ro] [strs [x], Ii 16] (strs (List.replicate 16 x)) [] := by
  refine fct_run slices_Repeat__sStretch_Stretch.ok rfl ?_
  have w1 : IntKind.u64.wrap ((1 : Nat) : Int) = 1 := by decide
  have w2 : IntKind.u64.wrap 16 = 16 := by decide
  have w3 : IntKind.i64.wrap 16 = 16 := by decide
  have hd1 : ¬ ((0 : Int) > 0) := by omega
  have hd2 : ¬ ((16 : Int) > 9223372036854775807) := by omega
  have hd3 : ¬ ((16 : Int) < 0) := by omega
  have hb : (16 : Int) * (16 : Nat) ≤ 70368744177664 := by omega
  simp only [go_sem, ↓reduceIte, Nat.reduceEqDiff, Nat.reduceAdd, Nat.reduceMul, Nat.reduceBEq, Option.getD_none, Int.reduceToNat, Nat.reduceSub, Nat.reduceLT, Nat.reduceLeDiff, Int.reduceLE, Int.reduceLT, reduceCtorEq, w1, w2, w3, hd1, hd2, hd3]
  refine fcW_bd bits_Mul.fc16 rfl ?_
  have hz1 : ((List.replicate 16 (D.agg [.int .i64 0, .int .i64 0])).take 1).all isSc = true := rfl
  simp only [go_sem, ↓reduceIte, Nat.reduceEqDiff, Nat.reduceAdd, Nat.reduceMul, Nat.reduceBEq, Option.getD_none, Int.reduceToNat, Nat.reduceSub, Nat.reduceLT, Nat.reduceLeDiff, Int.reduceLE, Int.reduceLT, reduceCtorEq, w1, w2, w3, hd1, hd2, hd3, hb, Int.le_refl, List.length_replicate, hz1]
  have hsc : ∀ (a b : Nat), (((List.replicate a (strD x) ++ List.replicate b (D.agg [.int .i64 0, .int .i64 0]))).all isSc) = true := fun a b => List.all_eq_true.2 fun d hd => by
    rcases List.mem_append.1 hd with h | h
    · rw [List.eq_of_mem_replicate h]; rfl
    · rw [List.eq_of_mem_replicate h]; rfl
  refine R_loop (α := Nat) (fun c s' M' => 1 ≤ c ∧ c ≤ 16 ∧ s' 8 = aI c ∧ ∃ v, s' 7 = .sl 1728 v 0 16 2 ∧ M'.m 1728 = some (.arr v true 2 (List.replicate c (strD x) ++ List.replicate (16 - c) (D.agg [.int .i64 0, .int .i64 0])))) (fun c => 16 - c) 1
    ⟨by omega, by omega, by simp only [go_sem, ↓reduceIte, Nat.reduceEqDiff, Nat.reduceAdd, Nat.reduceMul, Nat.reduceBEq, Option.getD_none, Int.reduceToNat, Nat.reduceSub, Nat.reduceLT, Nat.reduceLeDiff, Int.reduceLE, Int.reduceLT, reduceCtorEq]; rfl, _, by simp only [go_sem, ↓reduceIte, Nat.reduceEqDiff, Nat.reduceAdd, Nat.reduceMul, Nat.reduceBEq, Option.getD_none, Int.reduceToNat, Nat.reduceSub, Nat.reduceLT, Nat.reduceLeDiff, Int.reduceLE, Int.reduceLT, reduceCtorEq]; rfl, by simp only [go_sem, ↓reduceIte, Nat.reduceEqDiff, Nat.reduceAdd, Nat.reduceMul, Nat.reduceBEq, Option.getD_none, Int.reduceToNat, Nat.reduceSub, Nat.reduceLT, Nat.reduceLeDiff, Int.reduceLE, Int.reduceLT, reduceCtorEq]; rfl⟩ ?_
  rintro c s' M' ⟨hc1, hc, h8, v, h7, hm⟩ ho
  clear ho
  unfold slices_Repeat__sStretch_Stretch.b0
  have hR : (List.replicate c (strD x)).all isSc = true := by have := hsc c 0; simpa using this
  have hrl : (List.replicate c (strD x) ++ List.replicate (16 - c) (D.agg [.int .i64 0, .int .i64 0])).length = 16 := by simp; omega
  have hrt : (List.replicate c (strD x) ++ List.replicate (16 - c) (D.agg [.int .i64 0, .int .i64 0])).take c = List.replicate c (strD x) := by rw [List.take_append_of_le_length (by simp)]; exact List.take_of_length_le (by simp)
  have hrs : ∀ a b, (((List.replicate c (strD x) ++ List.replicate (16 - c) (D.agg [.int .i64 0, .int .i64 0])).drop a).take b).all isSc = true := fun a b => List.all_eq_true.2 fun d hd => List.all_eq_true.1 (hsc c (16 - c)) d (List.mem_of_mem_drop (List.mem_of_mem_take hd))
  have hyl : ((List.replicate c (strD x)).take (16 - c)).length = min c (16 - c) := by simp [Nat.min_comm]
  by_cases hlt : c < 16
  · have hi' : (c : Int) < 16 := by omega
    have heq : List.replicate c (strD x) ++ (List.replicate c (strD x)).take (16 - c) ++ (List.replicate c (strD x) ++ List.replicate (16 - c) (D.agg [.int .i64 0, .int .i64 0])).drop (c + min c (16 - c)) = List.replicate (c + min c (16 - c)) (strD x) ++ List.replicate (16 - (c + min c (16 - c))) (D.agg [.int .i64 0, .int .i64 0]) := by
      rw [List.drop_append, List.take_replicate, List.drop_replicate, List.drop_replicate, List.length_replicate]
      have e0 : c - (c + min c (16 - c)) = 0 := by omega
      have e1 : 16 - c - (c + min c (16 - c) - c) = 16 - (c + min c (16 - c)) := by omega
      rw [e0, e1, Nat.min_comm (16 - c) c, List.replicate_append_replicate]
      simp
    have q1 : (c : Int) ≤ 16 := by omega
    have q2 : (((16 : Nat) : Int) - (c : Int)).toNat = 16 - c := by omega
    have q3 : ¬ 16 - c = 0 := by omega
    have q4 : c + min c (16 - c) ≤ 16 := by omega
    have q5 : IntKind.i64.wrap ((c : Int) + ((min c (16 - c) : Nat) : Int)) = ((c + min c (16 - c) : Nat) : Int) := by rw [wrap_in (by omega) (by omega)]; omega
    have q6 : ((16 : Nat) : Int) = 16 := rfl
    have q7 : ((16 : Int) - (c : Int)).toNat = 16 - c := by omega
    have q8 : c ≤ 16 := hc
    generalize hrow : List.replicate c (strD x) ++ List.replicate (16 - c) (D.agg [.int .i64 0, .int .i64 0]) = row at hm hrl hrt hrs heq
    simp only [go_sem, ↓reduceIte, Nat.reduceEqDiff, Nat.reduceAdd, Nat.reduceMul, Nat.reduceBEq, Option.getD_none, Int.reduceToNat, Nat.reduceSub, Nat.reduceLT, Nat.reduceLeDiff, Int.reduceLE, Int.reduceLT, reduceCtorEq, h8, h7, hm, hi', hrl, hrt, hrs, hR, hyl, q1, q2, q3, q4, q5, q6, q7, q8, List.length_replicate, Nat.zero_add, Nat.zero_le, Int.le_refl]
    refine ⟨c + min c (16 - c), by dsimp only; omega, by omega, q4, by simp only [go_sem, ↓reduceIte, Nat.reduceEqDiff, Nat.reduceAdd, Nat.reduceMul, Nat.reduceBEq, Option.getD_none, Int.reduceToNat, Nat.reduceSub, Nat.reduceLT, Nat.reduceLeDiff, Int.reduceLE, Int.reduceLT, reduceCtorEq], v, by simp only [go_sem, ↓reduceIte, Nat.reduceEqDiff, Nat.reduceAdd, Nat.reduceMul, Nat.reduceBEq, Option.getD_none, Int.reduceToNat, Nat.reduceSub, Nat.reduceLT, Nat.reduceLeDiff, Int.reduceLE, Int.reduceLT, reduceCtorEq, h7], by simp only [go_sem, ↓reduceIte, Nat.reduceEqDiff, Nat.reduceAdd, Nat.reduceMul, Nat.reduceBEq, Option.getD_none, Int.reduceToNat, Nat.reduceSub, Nat.reduceLT, Nat.reduceLeDiff, Int.reduceLE, Int.reduceLT, reduceCtorEq, heq]⟩
  · have hi' : ¬ (c : Int) < 16 := by omega
    obtain rfl : c = 16 := by omega
    have e : List.replicate 16 (strD x) ++ List.replicate (16 - 16) (D.agg [.int .i64 0, .int .i64 0]) = (List.replicate 16 x).map strD := by rw [Nat.sub_self, List.replicate_zero, List.append_nil, List.map_replicate]
    rw [e] at hm hrl
    have e2 : ((List.replicate 16 x).map strD).take 16 = (List.replicate 16 x).map strD := List.take_of_length_le (by omega)
    have e3 : (List.replicate 16 x).length = 16 := by simp
    have q6 : ((16 : Nat) : Int) = 16 := rfl
    have q7 : ¬ ((16 : Int) < 16) := by omega
    simp only [go_sem, ↓reduceIte, Nat.reduceEqDiff, Nat.reduceAdd, Nat.reduceMul, Nat.reduceBEq, Option.getD_none, Int.reduceToNat, Nat.reduceSub, Nat.reduceLT, Nat.reduceLeDiff, Int.reduceLE, Int.reduceLT, reduceCtorEq, h8, h7, hm, q6, q7, e2, e3]

theorem impl_allWords.fc : FCt prog F_impl_allWords [] [] (pr 0 65535) [] := by
  refine fct_run impl_allWords.ok rfl ?_
  simp only [go_sem, ↓reduceIte, Nat.reduceEqDiff, Nat.reduceAdd, Nat.reduceMul, Nat.reduceBEq, Option.getD_none, Int.reduceToNat, Nat.reduceSub, Nat.reduceLT, Nat.reduceLeDiff, Int.reduceLE, Int.reduceLT, reduceCtorEq]
theorem spec_l9All.fc : FCt prog F_spec_l9All [] [] (pr 0 65535) [] := by
  refine fct_run spec_l9All.ok rfl ?_
  simp only [go_sem, ↓reduceIte, Nat.reduceEqDiff, Nat.reduceAdd, Nat.reduceMul, Nat.reduceBEq, Option.getD_none, Int.reduceToNat, Nat.reduceSub, Nat.reduceLT, Nat.reduceLeDiff, Int.reduceLE, Int.reduceLT, reduceCtorEq]
theorem spec_l13Const.fc (n : Int) : FCt prog F_spec_l13Const [.ro] [Ii n] (.tup [pr n n, pr n 0]) [] := by
  refine fct_run spec_l13Const.ok rfl ?_
  simp only [go_sem, ↓reduceIte, Nat.reduceEqDiff, Nat.reduceAdd, Nat.reduceMul, Nat.reduceBEq, Option.getD_none, Int.reduceToNat, Nat.reduceSub, Nat.reduceLT, Nat.reduceLeDiff, Int.reduceLE, Int.reduceLT, reduceCtorEq]
def startM : MayD := { reg := List.replicate 6 (0, 0), bits := List.replicate 6 (0, 0), cell := List.replicate 16 (0, 65535), isset := List.replicate 16 false }
theorem impl_StartMay.fc : FCt prog F_impl_StartMay [] [] startM.d [] := by
  refine fct_run impl_StartMay.ok rfl ?_
  have c1 : (6 : Int) * (16 : Nat) ≤ 70368744177664 := by omega
  have c2 : (16 : Int) * (1 : Nat) ≤ 70368744177664 := by omega
  simp only [go_sem, ↓reduceIte, Nat.reduceEqDiff, Nat.reduceAdd, Nat.reduceMul, Nat.reduceBEq, Option.getD_none, Int.reduceToNat, Nat.reduceSub, Nat.reduceLT, Nat.reduceLeDiff, Int.reduceLE, Int.reduceLT, reduceCtorEq, c1, c2, Int.le_refl, List.length_replicate, Nat.le_refl]
  refine fcW_bd impl_allWords.fc rfl ?_
  simp only [go_sem, ↓reduceIte, Nat.reduceEqDiff, Nat.reduceAdd, Nat.reduceMul, Nat.reduceBEq, Option.getD_none, Int.reduceToNat, Nat.reduceSub, Nat.reduceLT, Nat.reduceLeDiff, Int.reduceLE, Int.reduceLT, reduceCtorEq, c1, c2, Int.le_refl, List.length_replicate, Nat.le_refl]
  refine fcW_bd (slices_Repeat__sStretch_Stretch.fc16 (0, 65535)) noRs_strs ?_
  simp only [go_sem, ↓reduceIte, Nat.reduceEqDiff, Nat.reduceAdd, Nat.reduceMul, Nat.reduceBEq, Option.getD_none, Int.reduceToNat, Nat.reduceSub, Nat.reduceLT, Nat.reduceLeDiff, Int.reduceLE, Int.reduceLT, reduceCtorEq, c1, c2, Int.le_refl, List.length_replicate, Nat.le_refl]
  rfl
theorem rep_succ {α : Type} {k : Nat} {z : α} : List.replicate k z ++ [z] = List.replicate (k + 1) z := List.replicate_succ'.symm
theorem rep_take {α : Type} {k : Nat} {z : α} : (List.replicate k z).take k = List.replicate k z := List.take_of_length_le (by simp)
theorem spec_StartMay.fc : FCt prog F_spec_StartMay [] [] startM.d [] := by
  refine fct_run spec_StartMay.ok rfl ?_
  have c6 : ((6 : Nat) : Int) = 6 := rfl
  have c16 : ((16 : Nat) : Int) = 16 := rfl
  simp only [go_sem, ↓reduceIte, Nat.reduceEqDiff, Nat.reduceAdd, Nat.reduceMul, Nat.reduceBEq, Option.getD_none, Int.reduceToNat, Nat.reduceSub, Nat.reduceLT, Nat.reduceLeDiff, Int.reduceLE, Int.reduceLT, reduceCtorEq]
  refine R_loop (α := Nat) (fun k s' M' => k ≤ 6 ∧ s' 2 = aI k ∧ ∃ w v0 v1 w0, M'.m 128 = some (.box w (.agg [if k = 0 then .nil 2 else .sl 1152 v0 0 k 2, if k = 0 then .nil 2 else .sl 1600 v1 0 k 2, .nil 2, .nil 1])) ∧ s' 1 = .ptr 128 w 0 none ∧ M'.m 64 = some (.box w0 (.agg [.nil 2, .nil 2, .nil 2, .nil 1])) ∧ s' 0 = .ptr 64 w0 0 none ∧
      (k ≠ 0 → M'.m 1152 = some (.arr v0 true 2 (List.replicate k (strD (0, 0)))) ∧ M'.m 1600 = some (.arr v1 true 2 (List.replicate k (strD (0, 0)))))) (fun k => 6 - k) 0
    ⟨by omega, by simp only [go_sem, ↓reduceIte, Nat.reduceEqDiff, Nat.reduceAdd, Nat.reduceMul, Nat.reduceBEq, Option.getD_none, Int.reduceToNat, Nat.reduceSub, Nat.reduceLT, Nat.reduceLeDiff, Int.reduceLE, Int.reduceLT, reduceCtorEq]; rfl, _, 0, 0, _, by rw [if_pos rfl, if_pos rfl]; simp only [go_sem, ↓reduceIte, Nat.reduceEqDiff, Nat.reduceAdd, Nat.reduceMul, Nat.reduceBEq, Option.getD_none, Int.reduceToNat, Nat.reduceSub, Nat.reduceLT, Nat.reduceLeDiff, Int.reduceLE, Int.reduceLT, reduceCtorEq]; rfl, by simp only [go_sem, ↓reduceIte, Nat.reduceEqDiff, Nat.reduceAdd, Nat.reduceMul, Nat.reduceBEq, Option.getD_none, Int.reduceToNat, Nat.reduceSub, Nat.reduceLT, Nat.reduceLeDiff, Int.reduceLE, Int.reduceLT, reduceCtorEq], by simp only [go_sem, ↓reduceIte, Nat.reduceEqDiff, Nat.reduceAdd, Nat.reduceMul, Nat.reduceBEq, Option.getD_none, Int.reduceToNat, Nat.reduceSub, Nat.reduceLT, Nat.reduceLeDiff, Int.reduceLE, Int.reduceLT, reduceCtorEq]; rfl, by simp only [go_sem, ↓reduceIte, Nat.reduceEqDiff, Nat.reduceAdd, Nat.reduceMul, Nat.reduceBEq, Option.getD_none, Int.reduceToNat, Nat.reduceSub, Nat.reduceLT, Nat.reduceLeDiff, Int.reduceLE, Int.reduceLT, reduceCtorEq], fun h => absurd rfl h⟩ ?_
  rintro k s' M' ⟨hk, h2, w, v0, v1, w0, hm, h1, hm0, h0, hq⟩ ho
  clear ho
  unfold spec_StartMay.b0
  by_cases hlt : k < 6
  · have hi' : (k : Int) < 6 := by omega
    have hw : IntKind.i64.wrap (k + 1) = ((k + 1 : Nat) : Int) := by rw [wrap_in (by omega) (by omega)]; omega
    have hb : (k + 1) * 16 ≤ 70368744177664 := by omega
    simp only [go_sem, ↓reduceIte, Nat.reduceEqDiff, Nat.reduceAdd, Nat.reduceMul, Nat.reduceBEq, Option.getD_none, Int.reduceToNat, Nat.reduceSub, Nat.reduceLT, Nat.reduceLeDiff, Int.reduceLE, Int.reduceLT, reduceCtorEq, hi', h2, hm, h1, hm0, h0]
    refine fcW_bd (spec_l13Const.fc 0) rfl ?_
    by_cases hk0 : k = 0
    · subst hk0
      rw [if_pos rfl, if_pos rfl] at hm
      simp only [go_sem, ↓reduceIte, Nat.reduceEqDiff, Nat.reduceAdd, Nat.reduceMul, Nat.reduceBEq, Option.getD_none, Int.reduceToNat, Nat.reduceSub, Nat.reduceLT, Nat.reduceLeDiff, Int.reduceLE, Int.reduceLT, reduceCtorEq, hw, h2, hm, h1, hm0, h0]
      refine ⟨1, by dsimp only; omega, by omega, by simp only [go_sem, ↓reduceIte, Nat.reduceEqDiff, Nat.reduceAdd, Nat.reduceMul, Nat.reduceBEq, Option.getD_none, Int.reduceToNat, Nat.reduceSub, Nat.reduceLT, Nat.reduceLeDiff, Int.reduceLE, Int.reduceLT, reduceCtorEq, h2, hm, h1, hm0, h0]; try rfl, w, _, _, w0, by rw [if_neg (Nat.succ_ne_zero 0), if_neg (Nat.succ_ne_zero 0)]; simp only [go_sem, ↓reduceIte, Nat.reduceEqDiff, Nat.reduceAdd, Nat.reduceMul, Nat.reduceBEq, Option.getD_none, Int.reduceToNat, Nat.reduceSub, Nat.reduceLT, Nat.reduceLeDiff, Int.reduceLE, Int.reduceLT, reduceCtorEq, h2, hm, h1, hm0, h0]; rfl, by simp only [go_sem, ↓reduceIte, Nat.reduceEqDiff, Nat.reduceAdd, Nat.reduceMul, Nat.reduceBEq, Option.getD_none, Int.reduceToNat, Nat.reduceSub, Nat.reduceLT, Nat.reduceLeDiff, Int.reduceLE, Int.reduceLT, reduceCtorEq, h2, hm, h1, hm0, h0], by simp only [go_sem, ↓reduceIte, Nat.reduceEqDiff, Nat.reduceAdd, Nat.reduceMul, Nat.reduceBEq, Option.getD_none, Int.reduceToNat, Nat.reduceSub, Nat.reduceLT, Nat.reduceLeDiff, Int.reduceLE, Int.reduceLT, reduceCtorEq, h2, hm, h1, hm0, h0], by simp only [go_sem, ↓reduceIte, Nat.reduceEqDiff, Nat.reduceAdd, Nat.reduceMul, Nat.reduceBEq, Option.getD_none, Int.reduceToNat, Nat.reduceSub, Nat.reduceLT, Nat.reduceLeDiff, Int.reduceLE, Int.reduceLT, reduceCtorEq, h2, hm, h1, hm0, h0], fun _ => ⟨by simp only [go_sem, ↓reduceIte, Nat.reduceEqDiff, Nat.reduceAdd, Nat.reduceMul, Nat.reduceBEq, Option.getD_none, Int.reduceToNat, Nat.reduceSub, Nat.reduceLT, Nat.reduceLeDiff, Int.reduceLE, Int.reduceLT, reduceCtorEq, h2, hm, h1, hm0, h0]; rfl, by simp only [go_sem, ↓reduceIte, Nat.reduceEqDiff, Nat.reduceAdd, Nat.reduceMul, Nat.reduceBEq, Option.getD_none, Int.reduceToNat, Nat.reduceSub, Nat.reduceLT, Nat.reduceLeDiff, Int.reduceLE, Int.reduceLT, reduceCtorEq, h2, hm, h1, hm0, h0]; rfl⟩⟩
    · rw [if_neg hk0, if_neg hk0] at hm
      obtain ⟨q0, q1⟩ := hq hk0
      simp only [go_sem, ↓reduceIte, Nat.reduceEqDiff, Nat.reduceAdd, Nat.reduceMul, Nat.reduceBEq, Option.getD_none, Int.reduceToNat, Nat.reduceSub, Nat.reduceLT, Nat.reduceLeDiff, Int.reduceLE, Int.reduceLT, reduceCtorEq, hw, q0, q1, List.length_replicate, Nat.le_refl, hb, rep_take, rep_succ, h2, hm, h1, hm0, h0]
      refine ⟨k + 1, by dsimp only; omega, by omega, by simp only [go_sem, ↓reduceIte, Nat.reduceEqDiff, Nat.reduceAdd, Nat.reduceMul, Nat.reduceBEq, Option.getD_none, Int.reduceToNat, Nat.reduceSub, Nat.reduceLT, Nat.reduceLeDiff, Int.reduceLE, Int.reduceLT, reduceCtorEq, h2, hm, h1, hm0, h0], w, _, _, w0, by rw [if_neg (Nat.succ_ne_zero k), if_neg (Nat.succ_ne_zero k)]; simp only [go_sem, ↓reduceIte, Nat.reduceEqDiff, Nat.reduceAdd, Nat.reduceMul, Nat.reduceBEq, Option.getD_none, Int.reduceToNat, Nat.reduceSub, Nat.reduceLT, Nat.reduceLeDiff, Int.reduceLE, Int.reduceLT, reduceCtorEq, h2, hm, h1, hm0, h0]; rfl, by simp only [go_sem, ↓reduceIte, Nat.reduceEqDiff, Nat.reduceAdd, Nat.reduceMul, Nat.reduceBEq, Option.getD_none, Int.reduceToNat, Nat.reduceSub, Nat.reduceLT, Nat.reduceLeDiff, Int.reduceLE, Int.reduceLT, reduceCtorEq, h2, hm, h1, hm0, h0], by simp only [go_sem, ↓reduceIte, Nat.reduceEqDiff, Nat.reduceAdd, Nat.reduceMul, Nat.reduceBEq, Option.getD_none, Int.reduceToNat, Nat.reduceSub, Nat.reduceLT, Nat.reduceLeDiff, Int.reduceLE, Int.reduceLT, reduceCtorEq, h2, hm, h1, hm0, h0], by simp only [go_sem, ↓reduceIte, Nat.reduceEqDiff, Nat.reduceAdd, Nat.reduceMul, Nat.reduceBEq, Option.getD_none, Int.reduceToNat, Nat.reduceSub, Nat.reduceLT, Nat.reduceLeDiff, Int.reduceLE, Int.reduceLT, reduceCtorEq, h2, hm, h1, hm0, h0], fun _ => ⟨by simp only [go_sem, ↓reduceIte, Nat.reduceEqDiff, Nat.reduceAdd, Nat.reduceMul, Nat.reduceBEq, Option.getD_none, Int.reduceToNat, Nat.reduceSub, Nat.reduceLT, Nat.reduceLeDiff, Int.reduceLE, Int.reduceLT, reduceCtorEq, h2, hm, h1, hm0, h0]; try exact congrArg (fun z => some (Obj.arr _ true 2 z)) rep_succ, by simp only [go_sem, ↓reduceIte, Nat.reduceEqDiff, Nat.reduceAdd, Nat.reduceMul, Nat.reduceBEq, Option.getD_none, Int.reduceToNat, Nat.reduceSub, Nat.reduceLT, Nat.reduceLeDiff, Int.reduceLE, Int.reduceLT, reduceCtorEq, h2, hm, h1, hm0, h0]; try exact congrArg (fun z => some (Obj.arr _ true 2 z)) rep_succ⟩⟩
  obtain rfl : k = 6 := by omega
  obtain ⟨q0, q1⟩ := hq (by omega)
  rw [if_neg (by omega), if_neg (by omega)] at hm
  simp only [go_sem, ↓reduceIte, Nat.reduceEqDiff, Nat.reduceAdd, Nat.reduceMul, Nat.reduceBEq, Option.getD_none, Int.reduceToNat, Nat.reduceSub, Nat.reduceLT, Nat.reduceLeDiff, Int.reduceLE, Int.reduceLT, reduceCtorEq, c6, h2, hm, h1, hm0, h0]
  refine R_loop (α := Nat) (fun k s' M' => k ≤ 16 ∧ s' 5 = aI k ∧ (∃ w v2 v3 w0, M'.m 128 = some (.box w (.agg [.sl 1152 v0 0 6 2, .sl 1600 v1 0 6 2, if k = 0 then .nil 2 else .sl 2432 v2 0 k 2, if k = 0 then .nil 1 else .sl 2816 v3 0 k 1])) ∧ s' 1 = .ptr 128 w 0 none ∧ M'.m 64 = some (.box w0 (.agg [.nil 2, .nil 2, .nil 2, .nil 1])) ∧ s' 0 = .ptr 64 w0 0 none ∧
      (k ≠ 0 → M'.m 2432 = some (.arr v2 true 2 (List.replicate k (strD (0, 65535)))) ∧ M'.m 2816 = some (.arr v3 true 1 (List.replicate k (Bb false))))) ∧ M'.m 1152 = some (.arr v0 true 2 (List.replicate 6 (strD (0, 0)))) ∧ M'.m 1600 = some (.arr v1 true 2 (List.replicate 6 (strD (0, 0))))) (fun k => 16 - k) 0
    ⟨by omega, by simp only [go_sem, ↓reduceIte, Nat.reduceEqDiff, Nat.reduceAdd, Nat.reduceMul, Nat.reduceBEq, Option.getD_none, Int.reduceToNat, Nat.reduceSub, Nat.reduceLT, Nat.reduceLeDiff, Int.reduceLE, Int.reduceLT, reduceCtorEq, h2, hm, h1, hm0, h0]; rfl, ⟨_, 0, 0, _, by rw [if_pos rfl, if_pos rfl]; simp only [go_sem, ↓reduceIte, Nat.reduceEqDiff, Nat.reduceAdd, Nat.reduceMul, Nat.reduceBEq, Option.getD_none, Int.reduceToNat, Nat.reduceSub, Nat.reduceLT, Nat.reduceLeDiff, Int.reduceLE, Int.reduceLT, reduceCtorEq, h2, hm, h1, hm0, h0]; rfl, by simp only [go_sem, ↓reduceIte, Nat.reduceEqDiff, Nat.reduceAdd, Nat.reduceMul, Nat.reduceBEq, Option.getD_none, Int.reduceToNat, Nat.reduceSub, Nat.reduceLT, Nat.reduceLeDiff, Int.reduceLE, Int.reduceLT, reduceCtorEq, h2, hm, h1, hm0, h0], by simp only [go_sem, ↓reduceIte, Nat.reduceEqDiff, Nat.reduceAdd, Nat.reduceMul, Nat.reduceBEq, Option.getD_none, Int.reduceToNat, Nat.reduceSub, Nat.reduceLT, Nat.reduceLeDiff, Int.reduceLE, Int.reduceLT, reduceCtorEq, h2, hm, h1, hm0, h0]; rfl, by simp only [go_sem, ↓reduceIte, Nat.reduceEqDiff, Nat.reduceAdd, Nat.reduceMul, Nat.reduceBEq, Option.getD_none, Int.reduceToNat, Nat.reduceSub, Nat.reduceLT, Nat.reduceLeDiff, Int.reduceLE, Int.reduceLT, reduceCtorEq, h2, hm, h1, hm0, h0], fun h => absurd rfl h⟩, by simp only [go_sem, ↓reduceIte, Nat.reduceEqDiff, Nat.reduceAdd, Nat.reduceMul, Nat.reduceBEq, Option.getD_none, Int.reduceToNat, Nat.reduceSub, Nat.reduceLT, Nat.reduceLeDiff, Int.reduceLE, Int.reduceLT, reduceCtorEq, q0, h2, hm, h1, hm0, h0], by simp only [go_sem, ↓reduceIte, Nat.reduceEqDiff, Nat.reduceAdd, Nat.reduceMul, Nat.reduceBEq, Option.getD_none, Int.reduceToNat, Nat.reduceSub, Nat.reduceLT, Nat.reduceLeDiff, Int.reduceLE, Int.reduceLT, reduceCtorEq, q1, h2, hm, h1, hm0, h0]⟩ ?_
  clear hm h1 hm0 h0 hq q0 q1
  rintro k s2 M2 ⟨hk, h5, ⟨w, v2, v3, w0, hm, h1, hm0, h0, hq⟩, p0, p1⟩ ho
  clear ho
  unfold spec_StartMay.b1
  by_cases hlt : k < 16
  · have hi' : (k : Int) < 16 := by omega
    have hw : IntKind.i64.wrap (k + 1) = ((k + 1 : Nat) : Int) := by rw [wrap_in (by omega) (by omega)]; omega
    have hb : (k + 1) * 16 ≤ 70368744177664 := by omega
    have hb1 : (k + 1) * 1 ≤ 70368744177664 := by omega
    by_cases hk0 : k = 0
    · subst hk0
      rw [if_pos rfl, if_pos rfl] at hm
      simp only [go_sem, ↓reduceIte, Nat.reduceEqDiff, Nat.reduceAdd, Nat.reduceMul, Nat.reduceBEq, Option.getD_none, Int.reduceToNat, Nat.reduceSub, Nat.reduceLT, Nat.reduceLeDiff, Int.reduceLE, Int.reduceLT, reduceCtorEq, hi', h2, hm, h1, hm0, h0, h5, hm, h1, hm0, h0, p0, p1]
      refine fcW_bd spec_l9All.fc rfl ?_
      simp only [go_sem, ↓reduceIte, Nat.reduceEqDiff, Nat.reduceAdd, Nat.reduceMul, Nat.reduceBEq, Option.getD_none, Int.reduceToNat, Nat.reduceSub, Nat.reduceLT, Nat.reduceLeDiff, Int.reduceLE, Int.reduceLT, reduceCtorEq, hw, h2, hm, h1, hm0, h0, h5, hm, h1, hm0, h0, p0, p1]
      refine ⟨1, by dsimp only; omega, by omega, by simp only [go_sem, ↓reduceIte, Nat.reduceEqDiff, Nat.reduceAdd, Nat.reduceMul, Nat.reduceBEq, Option.getD_none, Int.reduceToNat, Nat.reduceSub, Nat.reduceLT, Nat.reduceLeDiff, Int.reduceLE, Int.reduceLT, reduceCtorEq, h2, hm, h1, hm0, h0, h5, hm, h1, hm0, h0, p0, p1]; try rfl, ⟨w, _, _, w0, by rw [if_neg (Nat.succ_ne_zero 0), if_neg (Nat.succ_ne_zero 0)]; simp only [go_sem, ↓reduceIte, Nat.reduceEqDiff, Nat.reduceAdd, Nat.reduceMul, Nat.reduceBEq, Option.getD_none, Int.reduceToNat, Nat.reduceSub, Nat.reduceLT, Nat.reduceLeDiff, Int.reduceLE, Int.reduceLT, reduceCtorEq, h2, hm, h1, hm0, h0, h5, hm, h1, hm0, h0, p0, p1]; rfl, by simp only [go_sem, ↓reduceIte, Nat.reduceEqDiff, Nat.reduceAdd, Nat.reduceMul, Nat.reduceBEq, Option.getD_none, Int.reduceToNat, Nat.reduceSub, Nat.reduceLT, Nat.reduceLeDiff, Int.reduceLE, Int.reduceLT, reduceCtorEq, h2, hm, h1, hm0, h0, h5, hm, h1, hm0, h0, p0, p1], by simp only [go_sem, ↓reduceIte, Nat.reduceEqDiff, Nat.reduceAdd, Nat.reduceMul, Nat.reduceBEq, Option.getD_none, Int.reduceToNat, Nat.reduceSub, Nat.reduceLT, Nat.reduceLeDiff, Int.reduceLE, Int.reduceLT, reduceCtorEq, h2, hm, h1, hm0, h0, h5, hm, h1, hm0, h0, p0, p1], by simp only [go_sem, ↓reduceIte, Nat.reduceEqDiff, Nat.reduceAdd, Nat.reduceMul, Nat.reduceBEq, Option.getD_none, Int.reduceToNat, Nat.reduceSub, Nat.reduceLT, Nat.reduceLeDiff, Int.reduceLE, Int.reduceLT, reduceCtorEq, h2, hm, h1, hm0, h0, h5, hm, h1, hm0, h0, p0, p1], fun _ => ⟨by simp only [go_sem, ↓reduceIte, Nat.reduceEqDiff, Nat.reduceAdd, Nat.reduceMul, Nat.reduceBEq, Option.getD_none, Int.reduceToNat, Nat.reduceSub, Nat.reduceLT, Nat.reduceLeDiff, Int.reduceLE, Int.reduceLT, reduceCtorEq, h2, hm, h1, hm0, h0, h5, hm, h1, hm0, h0, p0, p1]; rfl, by simp only [go_sem, ↓reduceIte, Nat.reduceEqDiff, Nat.reduceAdd, Nat.reduceMul, Nat.reduceBEq, Option.getD_none, Int.reduceToNat, Nat.reduceSub, Nat.reduceLT, Nat.reduceLeDiff, Int.reduceLE, Int.reduceLT, reduceCtorEq, h2, hm, h1, hm0, h0, h5, hm, h1, hm0, h0, p0, p1]; rfl⟩⟩, by simp only [go_sem, ↓reduceIte, Nat.reduceEqDiff, Nat.reduceAdd, Nat.reduceMul, Nat.reduceBEq, Option.getD_none, Int.reduceToNat, Nat.reduceSub, Nat.reduceLT, Nat.reduceLeDiff, Int.reduceLE, Int.reduceLT, reduceCtorEq, h2, hm, h1, hm0, h0, h5, hm, h1, hm0, h0, p0, p1], by simp only [go_sem, ↓reduceIte, Nat.reduceEqDiff, Nat.reduceAdd, Nat.reduceMul, Nat.reduceBEq, Option.getD_none, Int.reduceToNat, Nat.reduceSub, Nat.reduceLT, Nat.reduceLeDiff, Int.reduceLE, Int.reduceLT, reduceCtorEq, h2, hm, h1, hm0, h0, h5, hm, h1, hm0, h0, p0, p1]⟩
    · rw [if_neg hk0, if_neg hk0] at hm
      obtain ⟨q2, q3⟩ := hq hk0
      simp only [go_sem, ↓reduceIte, Nat.reduceEqDiff, Nat.reduceAdd, Nat.reduceMul, Nat.reduceBEq, Option.getD_none, Int.reduceToNat, Nat.reduceSub, Nat.reduceLT, Nat.reduceLeDiff, Int.reduceLE, Int.reduceLT, reduceCtorEq, hi', q2, q3, h2, hm, h1, hm0, h0, h5, hm, h1, hm0, h0, p0, p1]
      refine fcW_bd spec_l9All.fc rfl ?_
      simp only [go_sem, ↓reduceIte, Nat.reduceEqDiff, Nat.reduceAdd, Nat.reduceMul, Nat.reduceBEq, Option.getD_none, Int.reduceToNat, Nat.reduceSub, Nat.reduceLT, Nat.reduceLeDiff, Int.reduceLE, Int.reduceLT, reduceCtorEq, hw, q2, q3, List.length_replicate, Nat.le_refl, hb, hb1, rep_take, rep_succ, h2, hm, h1, hm0, h0, h5, hm, h1, hm0, h0, p0, p1]
      refine ⟨k + 1, by dsimp only; omega, by omega, by simp only [go_sem, ↓reduceIte, Nat.reduceEqDiff, Nat.reduceAdd, Nat.reduceMul, Nat.reduceBEq, Option.getD_none, Int.reduceToNat, Nat.reduceSub, Nat.reduceLT, Nat.reduceLeDiff, Int.reduceLE, Int.reduceLT, reduceCtorEq, h2, hm, h1, hm0, h0, h5, hm, h1, hm0, h0, p0, p1], ⟨w, _, _, w0, by rw [if_neg (Nat.succ_ne_zero k), if_neg (Nat.succ_ne_zero k)]; simp only [go_sem, ↓reduceIte, Nat.reduceEqDiff, Nat.reduceAdd, Nat.reduceMul, Nat.reduceBEq, Option.getD_none, Int.reduceToNat, Nat.reduceSub, Nat.reduceLT, Nat.reduceLeDiff, Int.reduceLE, Int.reduceLT, reduceCtorEq, h2, hm, h1, hm0, h0, h5, hm, h1, hm0, h0, p0, p1]; rfl, by simp only [go_sem, ↓reduceIte, Nat.reduceEqDiff, Nat.reduceAdd, Nat.reduceMul, Nat.reduceBEq, Option.getD_none, Int.reduceToNat, Nat.reduceSub, Nat.reduceLT, Nat.reduceLeDiff, Int.reduceLE, Int.reduceLT, reduceCtorEq, h2, hm, h1, hm0, h0, h5, hm, h1, hm0, h0, p0, p1], by simp only [go_sem, ↓reduceIte, Nat.reduceEqDiff, Nat.reduceAdd, Nat.reduceMul, Nat.reduceBEq, Option.getD_none, Int.reduceToNat, Nat.reduceSub, Nat.reduceLT, Nat.reduceLeDiff, Int.reduceLE, Int.reduceLT, reduceCtorEq, h2, hm, h1, hm0, h0, h5, hm, h1, hm0, h0, p0, p1], by simp only [go_sem, ↓reduceIte, Nat.reduceEqDiff, Nat.reduceAdd, Nat.reduceMul, Nat.reduceBEq, Option.getD_none, Int.reduceToNat, Nat.reduceSub, Nat.reduceLT, Nat.reduceLeDiff, Int.reduceLE, Int.reduceLT, reduceCtorEq, h2, hm, h1, hm0, h0, h5, hm, h1, hm0, h0, p0, p1], fun _ => ⟨by simp only [go_sem, ↓reduceIte, Nat.reduceEqDiff, Nat.reduceAdd, Nat.reduceMul, Nat.reduceBEq, Option.getD_none, Int.reduceToNat, Nat.reduceSub, Nat.reduceLT, Nat.reduceLeDiff, Int.reduceLE, Int.reduceLT, reduceCtorEq, h2, hm, h1, hm0, h0, h5, hm, h1, hm0, h0, p0, p1]; try exact congrArg (fun z => some (Obj.arr _ true 2 z)) rep_succ, by simp only [go_sem, ↓reduceIte, Nat.reduceEqDiff, Nat.reduceAdd, Nat.reduceMul, Nat.reduceBEq, Option.getD_none, Int.reduceToNat, Nat.reduceSub, Nat.reduceLT, Nat.reduceLeDiff, Int.reduceLE, Int.reduceLT, reduceCtorEq, h2, hm, h1, hm0, h0, h5, hm, h1, hm0, h0, p0, p1]; try exact congrArg (fun z => some (Obj.arr _ true 1 z)) rep_succ⟩⟩, by simp only [go_sem, ↓reduceIte, Nat.reduceEqDiff, Nat.reduceAdd, Nat.reduceMul, Nat.reduceBEq, Option.getD_none, Int.reduceToNat, Nat.reduceSub, Nat.reduceLT, Nat.reduceLeDiff, Int.reduceLE, Int.reduceLT, reduceCtorEq, h2, hm, h1, hm0, h0, h5, hm, h1, hm0, h0, p0, p1], by simp only [go_sem, ↓reduceIte, Nat.reduceEqDiff, Nat.reduceAdd, Nat.reduceMul, Nat.reduceBEq, Option.getD_none, Int.reduceToNat, Nat.reduceSub, Nat.reduceLT, Nat.reduceLeDiff, Int.reduceLE, Int.reduceLT, reduceCtorEq, h2, hm, h1, hm0, h0, h5, hm, h1, hm0, h0, p0, p1]⟩
  obtain rfl : k = 16 := by omega
  obtain ⟨q2, q3⟩ := hq (by omega)
  rw [if_neg (by omega), if_neg (by omega)] at hm
  simp only [go_sem, ↓reduceIte, Nat.reduceEqDiff, Nat.reduceAdd, Nat.reduceMul, Nat.reduceBEq, Option.getD_none, Int.reduceToNat, Nat.reduceSub, Nat.reduceLT, Nat.reduceLeDiff, Int.reduceLE, Int.reduceLT, reduceCtorEq, c16, q2, q3, List.length_replicate, Nat.le_refl, h2, hm, h1, hm0, h0, h5, hm, h1, hm0, h0, p0, p1]
  rfl
end Go.Vm.Ytmicgdfekpoajaa
