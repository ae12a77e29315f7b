/- The law FnExactLeastOf returns true at all arguments (no condition); its row. -/
import Derived.Test.YtedcnkglldmkbaaWka
import Derived.Test.YtedcnkglldmkbaaRows
namespace Go.Vm.Ytedcnkglldmkbaa
open Go Go.Vm
set_option maxRecDepth 10000
set_option linter.unusedSimpArgs false
set_option linter.unusedVariables false

theorem leastD_tup (n : Int) (l : List RuleD) : ∃ R a b, leastD n l = .tup [ints R, Bb a, Bb b] ∧ R.length ≤ 1048576 := by
  unfold leastD
  split
  · rename_i h
    obtain ⟨hn, hl2, hr⟩ := good_rules h
    obtain ⟨N, rfl⟩ : ∃ N : Nat, n = N := ⟨n.toNat, by omega⟩
    have hok := leastP_ok (n := N) (l := l) (by omega) (fun r h => (good_thn (hr r h)).2)
    have hlen := hok.len (by omega)
    exact ⟨_, _, _, rfl, by omega⟩
  · exact ⟨[], _, _, rfl, by simp⟩
theorem laws_FnExactLeastOf.fc (n : Int) (l : List RuleD) (wl : wfRuleS l) :
    FCt prog F_laws_FnExactLeastOf [.ro, .ro] [Ii n, rules l] (Bb true) [] := by
  refine fct_run laws_FnExactLeastOf.ok rfl ?_
  simp only [go_sem, ↓reduceIte, Nat.reduceEqDiff, Nat.reduceAdd, Nat.reduceMul, Nat.reduceBEq, Option.getD_none, Int.reduceToNat, Nat.reduceSub, Nat.reduceLT, Nat.reduceLeDiff, Int.reduceLE, Int.reduceLT, reduceCtorEq]
  refine fcW_int (laws_szRuleS.fcu l _ (by omega) wl) ?_
  by_cases zl : (1048576 : Int) < (wRuleS l : Nat)
  · rw [if_pos zl]; simp only [go_sem, ↓reduceIte, Nat.reduceEqDiff, Nat.reduceAdd, Nat.reduceMul, Nat.reduceBEq, Option.getD_none, Int.reduceToNat, Nat.reduceSub, Nat.reduceLT, Nat.reduceLeDiff, Int.reduceLE, Int.reduceLT, reduceCtorEq]
  have ol : wRuleS l ≤ 1048576 := by omega
  rw [if_neg zl]
  have yl : ¬ ((1048576 : Int) - (wRuleS l : Nat) < 0) := by omega
  simp only [go_sem, ↓reduceIte, Nat.reduceEqDiff, Nat.reduceAdd, Nat.reduceMul, Nat.reduceBEq, Option.getD_none, Int.reduceToNat, Nat.reduceSub, Nat.reduceLT, Nat.reduceLeDiff, Int.reduceLE, Int.reduceLT, reduceCtorEq, yl]
  obtain ⟨hl1, hl2⟩ := rules_few ol
  obtain ⟨R0, R1, R2, hR, o0⟩ := leastD_tup n l
  have hs := spec_LeastOf.fc n l hl1 hl2
  have hi := impl_LeastOf.fc n l hl1 hl2
  rw [hR] at hs hi
  have hnr : noRs (.tup [ints R0, Bb R1, Bb R2]) = true := by simp only [noRs, noRsL, Bool.and_true, Bool.true_and]; exact noRs_ints
  refine fcW_bd (laws_toRuleS.fcu l ol) noRs_rules ?_
  simp only [go_sem, ↓reduceIte, Nat.reduceEqDiff, Nat.reduceAdd, Nat.reduceMul, Nat.reduceBEq, Option.getD_none, Int.reduceToNat, Nat.reduceSub, Nat.reduceLT, Nat.reduceLeDiff, Int.reduceLE, Int.reduceLT, reduceCtorEq, yl, take_map_len, mkIntS_len, mkRuleS_len, mkIntS_take, mkRuleS_take]
  refine fcW_bd hs hnr ?_
  simp only [go_sem, ↓reduceIte, Nat.reduceEqDiff, Nat.reduceAdd, Nat.reduceMul, Nat.reduceBEq, Option.getD_none, Int.reduceToNat, Nat.reduceSub, Nat.reduceLT, Nat.reduceLeDiff, Int.reduceLE, Int.reduceLT, reduceCtorEq, yl, take_map_len, mkIntS_len, mkRuleS_len, mkIntS_take, mkRuleS_take]
  refine fcW_bd (laws_toRuleS.fcu l ol) noRs_rules ?_
  simp only [go_sem, ↓reduceIte, Nat.reduceEqDiff, Nat.reduceAdd, Nat.reduceMul, Nat.reduceBEq, Option.getD_none, Int.reduceToNat, Nat.reduceSub, Nat.reduceLT, Nat.reduceLeDiff, Int.reduceLE, Int.reduceLT, reduceCtorEq, yl, take_map_len, mkIntS_len, mkRuleS_len, mkIntS_take, mkRuleS_take]
  refine fcW_bd hi hnr ?_
  simp only [go_sem, ↓reduceIte, Nat.reduceEqDiff, Nat.reduceAdd, Nat.reduceMul, Nat.reduceBEq, Option.getD_none, Int.reduceToNat, Nat.reduceSub, Nat.reduceLT, Nat.reduceLeDiff, Int.reduceLE, Int.reduceLT, reduceCtorEq, yl, take_map_len, mkIntS_len, mkRuleS_len, mkIntS_take, mkRuleS_take]
  refine fcW_bool (laws_eqIntS.fcu R0 o0) ?_
  simp only [go_sem, ↓reduceIte, Nat.reduceEqDiff, Nat.reduceAdd, Nat.reduceMul, Nat.reduceBEq, Option.getD_none, Int.reduceToNat, Nat.reduceSub, Nat.reduceLT, Nat.reduceLeDiff, Int.reduceLE, Int.reduceLT, reduceCtorEq, yl, take_map_len, mkIntS_len, mkRuleS_len, mkIntS_take, mkRuleS_take]
  refine fcW_bd (laws_toRuleS.fcu l ol) noRs_rules ?_
  simp only [go_sem, ↓reduceIte, Nat.reduceEqDiff, Nat.reduceAdd, Nat.reduceMul, Nat.reduceBEq, Option.getD_none, Int.reduceToNat, Nat.reduceSub, Nat.reduceLT, Nat.reduceLeDiff, Int.reduceLE, Int.reduceLT, reduceCtorEq, yl, take_map_len, mkIntS_len, mkRuleS_len, mkIntS_take, mkRuleS_take]
  refine fcW_bool (laws_eqRuleS.fcu l ol) ?_
  simp only [go_sem, ↓reduceIte, Nat.reduceEqDiff, Nat.reduceAdd, Nat.reduceMul, Nat.reduceBEq, Option.getD_none, Int.reduceToNat, Nat.reduceSub, Nat.reduceLT, Nat.reduceLeDiff, Int.reduceLE, Int.reduceLT, reduceCtorEq, yl, take_map_len, mkIntS_len, mkRuleS_len, mkIntS_take, mkRuleS_take]
  have hc1 := cRuleS_le l
  refine coW_of (laws_markRuleS.fcu l (1) ol (by omega) (by omega)) rfl (by simp only [noRsL, noRs_rules, Bool.and_self]) ?_
  have hn1 : ¬ ((1 + (cRuleS l : Nat) : Int) < 0) := by omega
  simp only [go_sem, ↓reduceIte, Nat.reduceEqDiff, Nat.reduceAdd, Nat.reduceMul, Nat.reduceBEq, Option.getD_none, Int.reduceToNat, Nat.reduceSub, Nat.reduceLT, Nat.reduceLeDiff, Int.reduceLE, Int.reduceLT, reduceCtorEq, hn1, yl, take_map_len, mkIntS_len, mkRuleS_len, mkIntS_take, mkRuleS_take]
  refine fcW_bool (laws_eqIntS.fcu R0 o0) ?_
  simp only [go_sem, ↓reduceIte, Nat.reduceEqDiff, Nat.reduceAdd, Nat.reduceMul, Nat.reduceBEq, Option.getD_none, Int.reduceToNat, Nat.reduceSub, Nat.reduceLT, Nat.reduceLeDiff, Int.reduceLE, Int.reduceLT, reduceCtorEq, yl, take_map_len, mkIntS_len, mkRuleS_len, mkIntS_take, mkRuleS_take]
  refine coW_of (laws_markIntS.fcu R0 (1) o0 (by omega) (by omega)) rfl (by simp only [noRsL, noRs_ints, Bool.and_self]) ?_
  have hn2 : ¬ ((1 + (R0.length : Nat) : Int) < 0) := by omega
  simp only [go_sem, ↓reduceIte, Nat.reduceEqDiff, Nat.reduceAdd, Nat.reduceMul, Nat.reduceBEq, Option.getD_none, Int.reduceToNat, Nat.reduceSub, Nat.reduceLT, Nat.reduceLeDiff, Int.reduceLE, Int.reduceLT, reduceCtorEq, hn2, yl, take_map_len, mkIntS_len, mkRuleS_len, mkIntS_take, mkRuleS_take]
  refine fcW_int (laws_heldIntS.fcu R0 (1) o0 (by omega) (by omega)) ?_
  have hn3 : ¬ ((1 + (R0.length : Nat) : Int) < 0) := by omega
  simp only [go_sem, ↓reduceIte, Nat.reduceEqDiff, Nat.reduceAdd, Nat.reduceMul, Nat.reduceBEq, Option.getD_none, Int.reduceToNat, Nat.reduceSub, Nat.reduceLT, Nat.reduceLeDiff, Int.reduceLE, Int.reduceLT, reduceCtorEq, hn3, yl, take_map_len, mkIntS_len, mkRuleS_len, mkIntS_take, mkRuleS_take]
  refine fcW_bd (laws_toRuleS.fcu l ol) noRs_rules ?_
  simp only [go_sem, ↓reduceIte, Nat.reduceEqDiff, Nat.reduceAdd, Nat.reduceMul, Nat.reduceBEq, Option.getD_none, Int.reduceToNat, Nat.reduceSub, Nat.reduceLT, Nat.reduceLeDiff, Int.reduceLE, Int.reduceLT, reduceCtorEq, yl, take_map_len, mkIntS_len, mkRuleS_len, mkIntS_take, mkRuleS_take]
  refine fcW_bd hi hnr ?_
  simp only [go_sem, ↓reduceIte, Nat.reduceEqDiff, Nat.reduceAdd, Nat.reduceMul, Nat.reduceBEq, Option.getD_none, Int.reduceToNat, Nat.reduceSub, Nat.reduceLT, Nat.reduceLeDiff, Int.reduceLE, Int.reduceLT, reduceCtorEq, yl, take_map_len, mkIntS_len, mkRuleS_len, mkIntS_take, mkRuleS_take]
  refine fcW_bool (laws_eqIntS.fcu R0 o0) ?_
  simp only [go_sem, ↓reduceIte, Nat.reduceEqDiff, Nat.reduceAdd, Nat.reduceMul, Nat.reduceBEq, Option.getD_none, Int.reduceToNat, Nat.reduceSub, Nat.reduceLT, Nat.reduceLeDiff, Int.reduceLE, Int.reduceLT, reduceCtorEq, yl, take_map_len, mkIntS_len, mkRuleS_len, mkIntS_take, mkRuleS_take]
  refine fcW_int (laws_heldIntS.fcu R0 (1) o0 (by omega) (by omega)) ?_
  have hn4 : ¬ ((1 + (R0.length : Nat) : Int) < 0) := by omega
  simp only [go_sem, ↓reduceIte, Nat.reduceEqDiff, Nat.reduceAdd, Nat.reduceMul, Nat.reduceBEq, Option.getD_none, Int.reduceToNat, Nat.reduceSub, Nat.reduceLT, Nat.reduceLeDiff, Int.reduceLE, Int.reduceLT, reduceCtorEq, hn4, yl, take_map_len, mkIntS_len, mkRuleS_len, mkIntS_take, mkRuleS_take]
end Go.Vm.Ytedcnkglldmkbaa
namespace Go.Proofs.Ytedcnkglldmkbaa
open Go Go.Vm
theorem leastOf_own : ownKnob Try.prog.godebug = none := by kernel_rfl
theorem leastOf_laid : laidOutB Try.prog = true := by kernel_rfl
set_option maxRecDepth 100000 in
theorem leastOf_lifted (os : Os) (started : os.Started) (H : Type) (enc : TypeId × Value → H) :
    ReturnsInHanded {} Try.checked os 13 .any (Rows.fnExactLeastOfSpec.pre6 enc Try.prog Try.f13 Rows.fnExactLeastOfRow.domain false) (Rows.fnExactLeastOfSpec.post enc Try.prog Try.f13 false true false false) := by
  refine returnsInHanded_of_change_sized (C := Try.checked) leastOf_own started (by kernel_rfl) Try.func13
    (ChangeSpec.witness6 (enc := enc) (C := Try.checked) false ⟨#[], #[.int .i64 0, .slice none 0 0], []⟩ 8 (by kernel_rfl) (by kernel_rfl) (by kernel_rfl) (by kernel_rfl)) ?_
  intro W base args ds gs before hval hW _ _ _
  refine law_contract (C := Try.checked) (f := 13) [.int .i64, .sl Vm.Ytedcnkglldmkbaa.TyRule] (rt := 4) rfl (by kernel_rfl) rfl (by kernel_rfl) leastOf_laid (fun H ds h => ?_) (fun ds h => ?_) hval hW
  · match ds, h with
    | [_, _], _ => rfl
  · simp only [HasTys] at h
    obtain ⟨d1, ds1, rfl, h1, d2, ds2, rfl, h2, rfl⟩ := h
    obtain ⟨n, rfl, _⟩ := hasInt h1
    obtain ⟨l, rfl, wl⟩ := Vm.Ytedcnkglldmkbaa.hasRuleS h2
    exact Vm.Ytedcnkglldmkbaa.laws_FnExactLeastOf.fc n l wl
theorem leastOf_over : Rows.fnExactLeastOfRow.holds Try.pinned (OpenSpec.ofChange Rows.fnExactLeastOfSpec) :=
  OpenClaim.holds_of_wide 13 Try.f13 rfl rfl rfl rfl rfl rfl rfl ⟨rfl, rfl, rfl, rfl, rfl⟩ rfl rfl rfl rfl rfl (by kernel_rfl) Try.func13 (by kernel_rfl)
    (of_decide_eq_true (by kernel_rfl)) (by unfold Func.isWrapper; first | (rw [if_pos (by decide +kernel)]; kernel_rfl) | (rw [if_neg (by decide +kernel)]; exact ⟨rfl, rfl⟩))
    (fun os started H enc _ => leastOf_lifted os started H enc)
/-- The law FnExactLeastOf holds as given. -/
theorem leastOf_holds : Rows.FnExactLeastOfSaid := leastOf_over
#print axioms leastOf_holds
end Go.Proofs.Ytedcnkglldmkbaa
