/- The law FnExactWhyOf returns true at all arguments (no condition); its row. -/
import Derived.Test.YtedcnkglldmkbaaWka
import Derived.Test.YtedcnkglldmkbaaRows
namespace Go.Vm.Ytedcnkglldmkbaa
open Go Go.Vm
set_option maxRecDepth 10000
set_option linter.unusedSimpArgs false
set_option linter.unusedVariables false

theorem whyD_tup (n : Int) (l : List RuleD) (x : Int) : ∃ R b, whyD n l x = .tup [ints R, Bb b] ∧ R.length ≤ 1048576 := by
  unfold whyD
  split
  · rename_i h
    obtain ⟨hn, hl2, hr⟩ := good_rules h
    obtain ⟨N, rfl⟩ : ∃ N : Nat, n = N := ⟨n.toNat, by omega⟩
    have hok := leastP_ok (n := N) (l := l) (by omega) (fun r h => (good_thn (hr r h)).2)
    have hlen := hok.len (by omega)
    split
    · exact ⟨[], _, rfl, by simp⟩
    · exact ⟨_, _, rfl, by rw [List.length_take]; omega⟩
  · exact ⟨[], _, rfl, by simp⟩
theorem laws_FnExactWhyOf.fc (n : Int) (l : List RuleD) (x : Int) (wl : wfRuleS l) :
    FCt prog F_laws_FnExactWhyOf [.ro, .ro, .ro] [Ii n, rules l, Ii x] (Bb true) [] := by
  refine fct_run laws_FnExactWhyOf.ok rfl ?_
  simp only [go_sem, ↓reduceIte, Nat.reduceEqDiff, Nat.reduceAdd, Nat.reduceMul, Nat.reduceBEq, Option.getD_none, Int.reduceToNat, Nat.reduceSub, Nat.reduceLT, Nat.reduceLeDiff, Int.reduceLE, Int.reduceLT, reduceCtorEq]
  refine fcW_int (laws_szRuleS.fcu l _ (by omega) wl) ?_
  by_cases zl : (1048576 : Int) < (wRuleS l : Nat)
  · rw [if_pos zl]; simp only [go_sem, ↓reduceIte, Nat.reduceEqDiff, Nat.reduceAdd, Nat.reduceMul, Nat.reduceBEq, Option.getD_none, Int.reduceToNat, Nat.reduceSub, Nat.reduceLT, Nat.reduceLeDiff, Int.reduceLE, Int.reduceLT, reduceCtorEq]
  have ol : wRuleS l ≤ 1048576 := by omega
  rw [if_neg zl]
  have yl : ¬ ((1048576 : Int) - (wRuleS l : Nat) < 0) := by omega
  simp only [go_sem, ↓reduceIte, Nat.reduceEqDiff, Nat.reduceAdd, Nat.reduceMul, Nat.reduceBEq, Option.getD_none, Int.reduceToNat, Nat.reduceSub, Nat.reduceLT, Nat.reduceLeDiff, Int.reduceLE, Int.reduceLT, reduceCtorEq, yl]
  obtain ⟨hl1, hl2⟩ := rules_few ol
  obtain ⟨R0, R1, hR, o0⟩ := whyD_tup n l x
  have hs := spec_WhyOf.fc n l x hl1 hl2
  have hi := impl_WhyOf.fc n l x hl1 hl2
  rw [hR] at hs hi
  have hnr : noRs (.tup [ints R0, Bb R1]) = true := by simp only [noRs, noRsL, Bool.and_true, Bool.true_and]; exact noRs_ints
  refine fcW_bd (laws_toRuleS.fcu l ol) noRs_rules ?_
  simp only [go_sem, ↓reduceIte, Nat.reduceEqDiff, Nat.reduceAdd, Nat.reduceMul, Nat.reduceBEq, Option.getD_none, Int.reduceToNat, Nat.reduceSub, Nat.reduceLT, Nat.reduceLeDiff, Int.reduceLE, Int.reduceLT, reduceCtorEq, yl, take_map_len, mkIntS_len, mkRuleS_len, mkIntS_take, mkRuleS_take]
  refine fcW_bd hs hnr ?_
  simp only [go_sem, ↓reduceIte, Nat.reduceEqDiff, Nat.reduceAdd, Nat.reduceMul, Nat.reduceBEq, Option.getD_none, Int.reduceToNat, Nat.reduceSub, Nat.reduceLT, Nat.reduceLeDiff, Int.reduceLE, Int.reduceLT, reduceCtorEq, yl, take_map_len, mkIntS_len, mkRuleS_len, mkIntS_take, mkRuleS_take]
  refine fcW_bd (laws_toRuleS.fcu l ol) noRs_rules ?_
  simp only [go_sem, ↓reduceIte, Nat.reduceEqDiff, Nat.reduceAdd, Nat.reduceMul, Nat.reduceBEq, Option.getD_none, Int.reduceToNat, Nat.reduceSub, Nat.reduceLT, Nat.reduceLeDiff, Int.reduceLE, Int.reduceLT, reduceCtorEq, yl, take_map_len, mkIntS_len, mkRuleS_len, mkIntS_take, mkRuleS_take]
  refine fcW_bd hi hnr ?_
  simp only [go_sem, ↓reduceIte, Nat.reduceEqDiff, Nat.reduceAdd, Nat.reduceMul, Nat.reduceBEq, Option.getD_none, Int.reduceToNat, Nat.reduceSub, Nat.reduceLT, Nat.reduceLeDiff, Int.reduceLE, Int.reduceLT, reduceCtorEq, yl, take_map_len, mkIntS_len, mkRuleS_len, mkIntS_take, mkRuleS_take]
  refine fcW_bool (laws_eqIntS.fcu R0 o0) ?_
  simp only [go_sem, ↓reduceIte, Nat.reduceEqDiff, Nat.reduceAdd, Nat.reduceMul, Nat.reduceBEq, Option.getD_none, Int.reduceToNat, Nat.reduceSub, Nat.reduceLT, Nat.reduceLeDiff, Int.reduceLE, Int.reduceLT, reduceCtorEq, yl, take_map_len, mkIntS_len, mkRuleS_len, mkIntS_take, mkRuleS_take]
  refine fcW_bd (laws_toRuleS.fcu l ol) noRs_rules ?_
  simp only [go_sem, ↓reduceIte, Nat.reduceEqDiff, Nat.reduceAdd, Nat.reduceMul, Nat.reduceBEq, Option.getD_none, Int.reduceToNat, Nat.reduceSub, Nat.reduceLT, Nat.reduceLeDiff, Int.reduceLE, Int.reduceLT, reduceCtorEq, yl, take_map_len, mkIntS_len, mkRuleS_len, mkIntS_take, mkRuleS_take]
  refine fcW_bool (laws_eqRuleS.fcu l ol) ?_
  simp only [go_sem, ↓reduceIte, Nat.reduceEqDiff, Nat.reduceAdd, Nat.reduceMul, Nat.reduceBEq, Option.getD_none, Int.reduceToNat, Nat.reduceSub, Nat.reduceLT, Nat.reduceLeDiff, Int.reduceLE, Int.reduceLT, reduceCtorEq, yl, take_map_len, mkIntS_len, mkRuleS_len, mkIntS_take, mkRuleS_take]
  have hc1 := cRuleS_le l
  refine coW_of (laws_markRuleS.fcu l (1) ol (by omega) (by omega)) rfl (by simp only [noRsL, noRs_rules, Bool.and_self]) ?_
  have hn1 : ¬ ((1 + (cRuleS l : Nat) : Int) < 0) := by omega
  simp only [go_sem, ↓reduceIte, Nat.reduceEqDiff, Nat.reduceAdd, Nat.reduceMul, Nat.reduceBEq, Option.getD_none, Int.reduceToNat, Nat.reduceSub, Nat.reduceLT, Nat.reduceLeDiff, Int.reduceLE, Int.reduceLT, reduceCtorEq, hn1, yl, take_map_len, mkIntS_len, mkRuleS_len, mkIntS_take, mkRuleS_take]
  refine fcW_bool (laws_eqIntS.fcu R0 o0) ?_
  simp only [go_sem, ↓reduceIte, Nat.reduceEqDiff, Nat.reduceAdd, Nat.reduceMul, Nat.reduceBEq, Option.getD_none, Int.reduceToNat, Nat.reduceSub, Nat.reduceLT, Nat.reduceLeDiff, Int.reduceLE, Int.reduceLT, reduceCtorEq, yl, take_map_len, mkIntS_len, mkRuleS_len, mkIntS_take, mkRuleS_take]
  refine coW_of (laws_markIntS.fcu R0 (1) o0 (by omega) (by omega)) rfl (by simp only [noRsL, noRs_ints, Bool.and_self]) ?_
  have hn2 : ¬ ((1 + (R0.length : Nat) : Int) < 0) := by omega
  simp only [go_sem, ↓reduceIte, Nat.reduceEqDiff, Nat.reduceAdd, Nat.reduceMul, Nat.reduceBEq, Option.getD_none, Int.reduceToNat, Nat.reduceSub, Nat.reduceLT, Nat.reduceLeDiff, Int.reduceLE, Int.reduceLT, reduceCtorEq, hn2, yl, take_map_len, mkIntS_len, mkRuleS_len, mkIntS_take, mkRuleS_take]
  refine fcW_int (laws_heldIntS.fcu R0 (1) o0 (by omega) (by omega)) ?_
  have hn3 : ¬ ((1 + (R0.length : Nat) : Int) < 0) := by omega
  simp only [go_sem, ↓reduceIte, Nat.reduceEqDiff, Nat.reduceAdd, Nat.reduceMul, Nat.reduceBEq, Option.getD_none, Int.reduceToNat, Nat.reduceSub, Nat.reduceLT, Nat.reduceLeDiff, Int.reduceLE, Int.reduceLT, reduceCtorEq, hn3, yl, take_map_len, mkIntS_len, mkRuleS_len, mkIntS_take, mkRuleS_take]
  refine fcW_bd (laws_toRuleS.fcu l ol) noRs_rules ?_
  simp only [go_sem, ↓reduceIte, Nat.reduceEqDiff, Nat.reduceAdd, Nat.reduceMul, Nat.reduceBEq, Option.getD_none, Int.reduceToNat, Nat.reduceSub, Nat.reduceLT, Nat.reduceLeDiff, Int.reduceLE, Int.reduceLT, reduceCtorEq, yl, take_map_len, mkIntS_len, mkRuleS_len, mkIntS_take, mkRuleS_take]
  refine fcW_bd hi hnr ?_
  simp only [go_sem, ↓reduceIte, Nat.reduceEqDiff, Nat.reduceAdd, Nat.reduceMul, Nat.reduceBEq, Option.getD_none, Int.reduceToNat, Nat.reduceSub, Nat.reduceLT, Nat.reduceLeDiff, Int.reduceLE, Int.reduceLT, reduceCtorEq, yl, take_map_len, mkIntS_len, mkRuleS_len, mkIntS_take, mkRuleS_take]
  refine fcW_bool (laws_eqIntS.fcu R0 o0) ?_
  simp only [go_sem, ↓reduceIte, Nat.reduceEqDiff, Nat.reduceAdd, Nat.reduceMul, Nat.reduceBEq, Option.getD_none, Int.reduceToNat, Nat.reduceSub, Nat.reduceLT, Nat.reduceLeDiff, Int.reduceLE, Int.reduceLT, reduceCtorEq, yl, take_map_len, mkIntS_len, mkRuleS_len, mkIntS_take, mkRuleS_take]
  refine fcW_int (laws_heldIntS.fcu R0 (1) o0 (by omega) (by omega)) ?_
  have hn4 : ¬ ((1 + (R0.length : Nat) : Int) < 0) := by omega
  simp only [go_sem, ↓reduceIte, Nat.reduceEqDiff, Nat.reduceAdd, Nat.reduceMul, Nat.reduceBEq, Option.getD_none, Int.reduceToNat, Nat.reduceSub, Nat.reduceLT, Nat.reduceLeDiff, Int.reduceLE, Int.reduceLT, reduceCtorEq, hn4, yl, take_map_len, mkIntS_len, mkRuleS_len, mkIntS_take, mkRuleS_take]
end Go.Vm.Ytedcnkglldmkbaa
namespace Go.Proofs.Ytedcnkglldmkbaa
open Go Go.Vm
theorem whyOf_own : ownKnob Try.prog.godebug = none := by kernel_rfl
theorem whyOf_laid : laidOutB Try.prog = true := by kernel_rfl
set_option maxRecDepth 100000 in
theorem whyOf_lifted (os : Os) (started : os.Started) (H : Type) (enc : TypeId × Value → H) :
    ReturnsInHanded {} Try.checked os 12 .any (Rows.fnExactWhyOfSpec.pre6 enc Try.prog Try.f12 Rows.fnExactWhyOfRow.domain false) (Rows.fnExactWhyOfSpec.post enc Try.prog Try.f12 false true false false) := by
  refine returnsInHanded_of_change_sized (C := Try.checked) whyOf_own started (by kernel_rfl) Try.func12
    (ChangeSpec.witness6 (enc := enc) (C := Try.checked) false ⟨#[], #[.int .i64 0, .slice none 0 0, .int .i64 0], []⟩ 8 (by kernel_rfl) (by kernel_rfl) (by kernel_rfl) (by kernel_rfl)) ?_
  intro W base args ds gs before hval hW _ _ _
  refine law_contract (C := Try.checked) (f := 12) [.int .i64, .sl Vm.Ytedcnkglldmkbaa.TyRule, .int .i64] (rt := 4) rfl (by kernel_rfl) rfl (by kernel_rfl) whyOf_laid (fun H ds h => ?_) (fun ds h => ?_) hval hW
  · match ds, h with
    | [_, _, _], _ => rfl
  · simp only [HasTys] at h
    obtain ⟨d1, ds1, rfl, h1, d2, ds2, rfl, h2, d3, ds3, rfl, h3, rfl⟩ := h
    obtain ⟨n, rfl, _⟩ := hasInt h1
    obtain ⟨l, rfl, wl⟩ := Vm.Ytedcnkglldmkbaa.hasRuleS h2
    obtain ⟨x, rfl, _⟩ := hasInt h3
    exact Vm.Ytedcnkglldmkbaa.laws_FnExactWhyOf.fc n l x wl
theorem whyOf_over : Rows.fnExactWhyOfRow.holds Try.pinned (OpenSpec.ofChange Rows.fnExactWhyOfSpec) :=
  OpenClaim.holds_of_wide 12 Try.f12 rfl rfl rfl rfl rfl rfl rfl ⟨rfl, rfl, rfl, rfl, rfl⟩ rfl rfl rfl rfl rfl (by kernel_rfl) Try.func12 (by kernel_rfl)
    (of_decide_eq_true (by kernel_rfl)) (by unfold Func.isWrapper; first | (rw [if_pos (by decide +kernel)]; kernel_rfl) | (rw [if_neg (by decide +kernel)]; exact ⟨rfl, rfl⟩))
    (fun os started H enc _ => whyOf_lifted os started H enc)
/-- The law FnExactWhyOf holds as given. -/
theorem whyOf_holds : Rows.FnExactWhyOfSaid := whyOf_over
#print axioms whyOf_holds
end Go.Proofs.Ytedcnkglldmkbaa
