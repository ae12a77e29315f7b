/- The law FnExactHoldsIn returns true at all arguments (no condition); its row. -/
import Derived.Test.YtedcnkglldmkbaaWka
import Derived.Test.YtedcnkglldmkbaaRows
namespace Go.Vm.Ytedcnkglldmkbaa
open Go Go.Vm
set_option maxRecDepth 10000
set_option linter.unusedSimpArgs false
set_option linter.unusedVariables false

abbrev RuleT : Ty := .st [.sl (.int .i64), .int .i64]
theorem hasRule {d : D} (h : HasTy RuleT d) : ∃ r : RuleD, d = r.d ∧ r.ifs.length ≤ 9223372036854775807 := by
  simp only [HasTy] at h
  obtain ⟨xs, rfl, h⟩ := h
  simp only [HasTys] at h
  obtain ⟨d1, ds1, rfl, h1, d2, ds2, rfl, h2, rfl⟩ := h
  obtain ⟨l, rfl, hl, _⟩ := hasInts h1
  obtain ⟨n, rfl, _⟩ := hasInt h2
  exact ⟨⟨l, n⟩, rfl, hl⟩
theorem hasRules {d : D} (h : HasTy (.sl RuleT) d) : ∃ l : List RuleD, d = rules l ∧ l.length ≤ 9223372036854775807 ∧ ∀ r ∈ l, r.ifs.length ≤ 9223372036854775807 := by
  simp only [HasTy] at h
  obtain ⟨xs, rfl, hl, h⟩ := h
  have : ∀ xs : List D, (∀ x ∈ xs, HasTy RuleT x) → ∃ l : List RuleD, xs = l.map RuleD.d ∧ ∀ n ∈ l, n.ifs.length ≤ 9223372036854775807 := by
    intro xs
    induction xs with
    | nil => intro _; exact ⟨[], rfl, by simp⟩
    | cons x xs ih =>
      intro h
      obtain ⟨n, rfl, hn⟩ := hasRule (h x List.mem_cons_self)
      obtain ⟨l, rfl, hl⟩ := ih fun y hy => h y (List.mem_cons_of_mem _ hy)
      exact ⟨n :: l, rfl, fun m hm => by
        rcases List.mem_cons.1 hm with rfl | hm
        · exact hn
        · exact hl m hm⟩
  obtain ⟨l, rfl, hn⟩ := this xs (by simpa only [HasTy] using h)
  exact ⟨l, rfl, by simpa [maxLen] using hl, hn⟩
theorem laws_FnExactHoldsIn.fc (n : Int) (l : List RuleD) (so : List Int) (hl : l.length ≤ 9223372036854775807) (hr : ∀ r ∈ l, r.ifs.length ≤ 9223372036854775807) (hs : so.length ≤ 9223372036854775807) :
    FCt prog F_laws_FnExactHoldsIn [.ro, .ro, .ro] [Ii n, rules l, ints so] (Bb true) [] := by
  refine fct_run laws_FnExactHoldsIn.ok rfl ?_
  simp only [go_sem, ↓reduceIte, Nat.reduceEqDiff, Nat.reduceAdd, Nat.reduceMul, Nat.reduceBEq, Option.getD_none, Int.reduceToNat, Nat.reduceSub, Nat.reduceLT, Nat.reduceLeDiff, Int.reduceLE, Int.reduceLT, reduceCtorEq]
  by_cases h0 : (so.length : Int) > 1048576
  · simp only [go_sem, ↓reduceIte, Nat.reduceEqDiff, Nat.reduceAdd, Nat.reduceMul, Nat.reduceBEq, Option.getD_none, Int.reduceToNat, Nat.reduceSub, Nat.reduceLT, Nat.reduceLeDiff, Int.reduceLE, Int.reduceLT, reduceCtorEq, h0]
  simp only [go_sem, ↓reduceIte, Nat.reduceEqDiff, Nat.reduceAdd, Nat.reduceMul, Nat.reduceBEq, Option.getD_none, Int.reduceToNat, Nat.reduceSub, Nat.reduceLT, Nat.reduceLeDiff, Int.reduceLE, Int.reduceLT, reduceCtorEq, h0]
  refine fcW_int (laws_szRuleS.fc l _ (by omega) hl hr) ?_
  by_cases h1 : (1048576 : Int) - l.length < 0
  · simp only [go_sem, ↓reduceIte, Nat.reduceEqDiff, Nat.reduceAdd, Nat.reduceMul, Nat.reduceBEq, Option.getD_none, Int.reduceToNat, Nat.reduceSub, Nat.reduceLT, Nat.reduceLeDiff, Int.reduceLE, Int.reduceLT, reduceCtorEq, h0, h1]
  by_cases h2 : szRules l (1048576 - l.length) < 0
  · simp only [go_sem, ↓reduceIte, Nat.reduceEqDiff, Nat.reduceAdd, Nat.reduceMul, Nat.reduceBEq, Option.getD_none, Int.reduceToNat, Nat.reduceSub, Nat.reduceLT, Nat.reduceLeDiff, Int.reduceLE, Int.reduceLT, reduceCtorEq, h0, h1, h2]
  have hl' : l.length ≤ 4294967296 := by omega
  have hs' : so.length ≤ 4294967296 := by omega
  have hr' : ∀ r ∈ l, r.ifs.length ≤ 4294967296 := fun r hm => by have := szRules_small h2 r hm; omega
  obtain ⟨a, b, hab⟩ : ∃ a b, holdsI n l so = .tup [Bb a, Bb b] := by
    unfold holdsI
    split
    · exact ⟨_, _, rfl⟩
    · exact ⟨_, _, rfl⟩
  have hsp := spec_HoldsIn.fc n l so hl' hr' hs'
  have him := impl_HoldsIn.fc n l so hl' hr' hs'
  rw [hab] at hsp him
  have hna : (a != a) = false := by cases a <;> rfl
  have hnb : (b != b) = false := by cases b <;> rfl
  simp only [go_sem, ↓reduceIte, Nat.reduceEqDiff, Nat.reduceAdd, Nat.reduceMul, Nat.reduceBEq, Option.getD_none, Int.reduceToNat, Nat.reduceSub, Nat.reduceLT, Nat.reduceLeDiff, Int.reduceLE, Int.reduceLT, reduceCtorEq, h0, h1, h2, take_map_len]
  refine fcW_bd (laws_toRuleS.fc l hl' hr') noRs_rules ?_
  simp only [go_sem, ↓reduceIte, Nat.reduceEqDiff, Nat.reduceAdd, Nat.reduceMul, Nat.reduceBEq, Option.getD_none, Int.reduceToNat, Nat.reduceSub, Nat.reduceLT, Nat.reduceLeDiff, Int.reduceLE, Int.reduceLT, reduceCtorEq, h0, h1, h2, take_map_len]
  refine fcW_bd (laws_toIntS.fc so hs') noRs_ints ?_
  simp only [go_sem, ↓reduceIte, Nat.reduceEqDiff, Nat.reduceAdd, Nat.reduceMul, Nat.reduceBEq, Option.getD_none, Int.reduceToNat, Nat.reduceSub, Nat.reduceLT, Nat.reduceLeDiff, Int.reduceLE, Int.reduceLT, reduceCtorEq, h0, h1, h2, take_map_len]
  refine fcW_bd hsp rfl ?_
  simp only [go_sem, ↓reduceIte, Nat.reduceEqDiff, Nat.reduceAdd, Nat.reduceMul, Nat.reduceBEq, Option.getD_none, Int.reduceToNat, Nat.reduceSub, Nat.reduceLT, Nat.reduceLeDiff, Int.reduceLE, Int.reduceLT, reduceCtorEq, h0, h1, h2, take_map_len]
  refine fcW_bd (laws_toRuleS.fc l hl' hr') noRs_rules ?_
  simp only [go_sem, ↓reduceIte, Nat.reduceEqDiff, Nat.reduceAdd, Nat.reduceMul, Nat.reduceBEq, Option.getD_none, Int.reduceToNat, Nat.reduceSub, Nat.reduceLT, Nat.reduceLeDiff, Int.reduceLE, Int.reduceLT, reduceCtorEq, h0, h1, h2, take_map_len]
  refine fcW_bd (laws_toIntS.fc so hs') noRs_ints ?_
  simp only [go_sem, ↓reduceIte, Nat.reduceEqDiff, Nat.reduceAdd, Nat.reduceMul, Nat.reduceBEq, Option.getD_none, Int.reduceToNat, Nat.reduceSub, Nat.reduceLT, Nat.reduceLeDiff, Int.reduceLE, Int.reduceLT, reduceCtorEq, h0, h1, h2, take_map_len]
  refine fcW_bd him rfl ?_
  simp only [go_sem, ↓reduceIte, Nat.reduceEqDiff, Nat.reduceAdd, Nat.reduceMul, Nat.reduceBEq, Option.getD_none, Int.reduceToNat, Nat.reduceSub, Nat.reduceLT, Nat.reduceLeDiff, Int.reduceLE, Int.reduceLT, reduceCtorEq, h0, h1, h2, take_map_len]
  refine fcW_bd (laws_toRuleS.fc l hl' hr') noRs_rules ?_
  simp only [go_sem, ↓reduceIte, Nat.reduceEqDiff, Nat.reduceAdd, Nat.reduceMul, Nat.reduceBEq, Option.getD_none, Int.reduceToNat, Nat.reduceSub, Nat.reduceLT, Nat.reduceLeDiff, Int.reduceLE, Int.reduceLT, reduceCtorEq, h0, h1, h2, take_map_len]
  refine fcW_bool (laws_eqRuleS.fc l l hl' hr') ?_
  simp only [go_sem, ↓reduceIte, Nat.reduceEqDiff, Nat.reduceAdd, Nat.reduceMul, Nat.reduceBEq, Option.getD_none, Int.reduceToNat, Nat.reduceSub, Nat.reduceLT, Nat.reduceLeDiff, Int.reduceLE, Int.reduceLT, reduceCtorEq, h0, h1, h2, take_map_len]
  refine fcW_bd (laws_toIntS.fc so hs') noRs_ints ?_
  simp only [go_sem, ↓reduceIte, Nat.reduceEqDiff, Nat.reduceAdd, Nat.reduceMul, Nat.reduceBEq, Option.getD_none, Int.reduceToNat, Nat.reduceSub, Nat.reduceLT, Nat.reduceLeDiff, Int.reduceLE, Int.reduceLT, reduceCtorEq, h0, h1, h2, take_map_len]
  refine fcW_bool (laws_eqIntS.fc so so hs') ?_
  simp only [go_sem, ↓reduceIte, Nat.reduceEqDiff, Nat.reduceAdd, Nat.reduceMul, Nat.reduceBEq, Option.getD_none, Int.reduceToNat, Nat.reduceSub, Nat.reduceLT, Nat.reduceLeDiff, Int.reduceLE, Int.reduceLT, reduceCtorEq, h0, h1, h2, take_map_len]
end Go.Vm.Ytedcnkglldmkbaa
namespace Go.Proofs.Ytedcnkglldmkbaa
open Go Go.Vm
theorem holdsIn_own : ownKnob Try.prog.godebug = none := by kernel_rfl
theorem holdsIn_laid : laidOutB Try.prog = true := by kernel_rfl
set_option maxRecDepth 100000 in
theorem holdsIn_lifted (os : Os) (started : os.Started) (H : Type) (enc : TypeId × Value → H) :
    ReturnsInHanded {} Try.checked os 8 .any (Rows.fnExactHoldsInSpec.pre6 enc Try.prog Try.f8 Rows.fnExactHoldsInRow.domain false) (Rows.fnExactHoldsInSpec.post enc Try.prog Try.f8 false true false false) := by
  refine returnsInHanded_of_change_sized (C := Try.checked) holdsIn_own started (by kernel_rfl) Try.func8
    (ChangeSpec.witness6 (enc := enc) (C := Try.checked) false ⟨#[], #[.int .i64 0, .slice none 0 0, .slice none 0 0], []⟩ 8 (by kernel_rfl) (by kernel_rfl) (by kernel_rfl) (by kernel_rfl)) ?_
  intro W base args ds gs before hval hW _ _ _
  refine law_contract (C := Try.checked) (f := 8) [.int .i64, .sl Vm.Ytedcnkglldmkbaa.RuleT, .sl (.int .i64)] (rt := 4) rfl (by kernel_rfl) rfl (by kernel_rfl) holdsIn_laid (fun H ds h => ?_) (fun ds h => ?_) hval hW
  · match ds, h with
    | [_, _, _], _ => rfl
  · simp only [HasTys] at h
    obtain ⟨d1, ds1, rfl, h1, d2, ds2, rfl, h2, d3, ds3, rfl, h3, rfl⟩ := h
    obtain ⟨n, rfl, _⟩ := hasInt h1
    obtain ⟨l, rfl, hl, hr⟩ := Vm.Ytedcnkglldmkbaa.hasRules h2
    obtain ⟨so, rfl, hs, _⟩ := hasInts h3
    exact Vm.Ytedcnkglldmkbaa.laws_FnExactHoldsIn.fc n l so hl hr hs
theorem holdsIn_over : Rows.fnExactHoldsInRow.holds Try.pinned (OpenSpec.ofChange Rows.fnExactHoldsInSpec) :=
  OpenClaim.holds_of_wide 8 Try.f8 rfl rfl rfl rfl rfl rfl rfl ⟨rfl, rfl, rfl, rfl, rfl⟩ rfl rfl rfl rfl rfl (by kernel_rfl) Try.func8 (by kernel_rfl)
    (of_decide_eq_true (by kernel_rfl)) (by unfold Func.isWrapper; first | (rw [if_pos (by decide +kernel)]; kernel_rfl) | (rw [if_neg (by decide +kernel)]; exact ⟨rfl, rfl⟩))
    (fun os started H enc _ => holdsIn_lifted os started H enc)
/-- The law FnExactHoldsIn holds as given. -/
theorem holdsIn_holds : Rows.FnExactHoldsInSaid := holdsIn_over
#print axioms holdsIn_holds
end Go.Proofs.Ytedcnkglldmkbaa
