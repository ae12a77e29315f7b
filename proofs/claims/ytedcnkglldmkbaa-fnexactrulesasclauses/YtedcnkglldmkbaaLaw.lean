/- The law FnExactRulesAsClauses returns true at all arguments (no condition); its row. -/
import Derived.Test.YtedcnkglldmkbaaWka
import Derived.Test.YtedcnkglldmkbaaRows
namespace Go.Vm.Ytedcnkglldmkbaa
open Go Go.Vm
set_option maxRecDepth 10000
set_option linter.unusedSimpArgs false
set_option linter.unusedVariables false

theorem rcD_tup (n : Int) (l : List RuleD) : ∃ R b, rcD n l = .tup [intss R, Bb b] ∧ wIntSS R ≤ 1048576 := by
  unfold rcD
  split
  · rename_i h
    obtain ⟨hn, hl2, hr⟩ := good_rules h
    refine ⟨_, _, rfl, ?_⟩
    have h1 : ((l.filter rcK).map rcC).length ≤ 30 := by rw [List.length_map]; exact Nat.le_trans (List.length_filter_le _ _) hl2
    have h2 := accC_bound (c := fun x : List Int => x.length) (b := 14) (l := (l.filter rcK).map rcC) fun x hx => by
      obtain ⟨r, hr2, rfl⟩ := List.mem_map.1 hx
      have := ifs_few hn.2 (hr r (List.mem_filter.1 hr2).1)
      unfold rcC; split <;> simp <;> omega
    unfold wIntSS
    omega
  · exact ⟨[], _, rfl, by simp [wIntSS, accC]⟩
theorem laws_FnExactRulesAsClauses.fc (n : Int) (l : List RuleD) (wl : wfRuleS l) :
    FCt prog F_laws_FnExactRulesAsClauses [.ro, .ro] [Ii n, rules l] (Bb true) [] := by
  refine fct_run laws_FnExactRulesAsClauses.ok rfl ?_
  simp only [go_sem, ↓reduceIte, Nat.reduceEqDiff, Nat.reduceAdd, Nat.reduceMul, Nat.reduceBEq, Option.getD_none, Int.reduceToNat, Nat.reduceSub, Nat.reduceLT, Nat.reduceLeDiff, Int.reduceLE, Int.reduceLT, reduceCtorEq]
  refine fcW_int (laws_szRuleS.fcu l _ (by omega) wl) ?_
  by_cases zl : (1048576 : Int) < (wRuleS l : Nat)
  · rw [if_pos zl]; simp only [go_sem, ↓reduceIte, Nat.reduceEqDiff, Nat.reduceAdd, Nat.reduceMul, Nat.reduceBEq, Option.getD_none, Int.reduceToNat, Nat.reduceSub, Nat.reduceLT, Nat.reduceLeDiff, Int.reduceLE, Int.reduceLT, reduceCtorEq]
  have ol : wRuleS l ≤ 1048576 := by omega
  rw [if_neg zl]
  have yl : ¬ ((1048576 : Int) - (wRuleS l : Nat) < 0) := by omega
  simp only [go_sem, ↓reduceIte, Nat.reduceEqDiff, Nat.reduceAdd, Nat.reduceMul, Nat.reduceBEq, Option.getD_none, Int.reduceToNat, Nat.reduceSub, Nat.reduceLT, Nat.reduceLeDiff, Int.reduceLE, Int.reduceLT, reduceCtorEq, yl]
  obtain ⟨hl1, hl2⟩ := rules_few ol
  obtain ⟨R0, R1, hR, o0⟩ := rcD_tup n l
  have hs := spec_RulesAsClauses.fc n l hl1 hl2
  have hi := impl_RulesAsClauses.fc n l hl1 hl2
  rw [hR] at hs hi
  have hnr : noRs (.tup [intss R0, Bb R1]) = true := by simp only [noRs, noRsL, Bool.and_true, Bool.true_and]; exact noRs_intss
  refine fcW_bd (laws_toRuleS.fcu l ol) noRs_rules ?_
  simp only [go_sem, ↓reduceIte, Nat.reduceEqDiff, Nat.reduceAdd, Nat.reduceMul, Nat.reduceBEq, Option.getD_none, Int.reduceToNat, Nat.reduceSub, Nat.reduceLT, Nat.reduceLeDiff, Int.reduceLE, Int.reduceLT, reduceCtorEq, yl, take_map_len, mkIntSS_len, mkRuleS_len, mkIntSS_take, mkRuleS_take]
  refine fcW_bd hs hnr ?_
  simp only [go_sem, ↓reduceIte, Nat.reduceEqDiff, Nat.reduceAdd, Nat.reduceMul, Nat.reduceBEq, Option.getD_none, Int.reduceToNat, Nat.reduceSub, Nat.reduceLT, Nat.reduceLeDiff, Int.reduceLE, Int.reduceLT, reduceCtorEq, yl, take_map_len, mkIntSS_len, mkRuleS_len, mkIntSS_take, mkRuleS_take]
  refine fcW_bd (laws_toRuleS.fcu l ol) noRs_rules ?_
  simp only [go_sem, ↓reduceIte, Nat.reduceEqDiff, Nat.reduceAdd, Nat.reduceMul, Nat.reduceBEq, Option.getD_none, Int.reduceToNat, Nat.reduceSub, Nat.reduceLT, Nat.reduceLeDiff, Int.reduceLE, Int.reduceLT, reduceCtorEq, yl, take_map_len, mkIntSS_len, mkRuleS_len, mkIntSS_take, mkRuleS_take]
  refine fcW_bd hi hnr ?_
  simp only [go_sem, ↓reduceIte, Nat.reduceEqDiff, Nat.reduceAdd, Nat.reduceMul, Nat.reduceBEq, Option.getD_none, Int.reduceToNat, Nat.reduceSub, Nat.reduceLT, Nat.reduceLeDiff, Int.reduceLE, Int.reduceLT, reduceCtorEq, yl, take_map_len, mkIntSS_len, mkRuleS_len, mkIntSS_take, mkRuleS_take]
  refine fcW_bool (laws_eqIntSS.fcu R0 o0) ?_
  simp only [go_sem, ↓reduceIte, Nat.reduceEqDiff, Nat.reduceAdd, Nat.reduceMul, Nat.reduceBEq, Option.getD_none, Int.reduceToNat, Nat.reduceSub, Nat.reduceLT, Nat.reduceLeDiff, Int.reduceLE, Int.reduceLT, reduceCtorEq, yl, take_map_len, mkIntSS_len, mkRuleS_len, mkIntSS_take, mkRuleS_take]
  refine fcW_bd (laws_toRuleS.fcu l ol) noRs_rules ?_
  simp only [go_sem, ↓reduceIte, Nat.reduceEqDiff, Nat.reduceAdd, Nat.reduceMul, Nat.reduceBEq, Option.getD_none, Int.reduceToNat, Nat.reduceSub, Nat.reduceLT, Nat.reduceLeDiff, Int.reduceLE, Int.reduceLT, reduceCtorEq, yl, take_map_len, mkIntSS_len, mkRuleS_len, mkIntSS_take, mkRuleS_take]
  refine fcW_bool (laws_eqRuleS.fcu l ol) ?_
  simp only [go_sem, ↓reduceIte, Nat.reduceEqDiff, Nat.reduceAdd, Nat.reduceMul, Nat.reduceBEq, Option.getD_none, Int.reduceToNat, Nat.reduceSub, Nat.reduceLT, Nat.reduceLeDiff, Int.reduceLE, Int.reduceLT, reduceCtorEq, yl, take_map_len, mkIntSS_len, mkRuleS_len, mkIntSS_take, mkRuleS_take]
  have hc1 := cRuleS_le l
  refine coW_of (laws_markRuleS.fcu l (1) ol (by omega) (by omega)) rfl (by simp only [noRsL, noRs_rules, Bool.and_self]) ?_
  have hn1 : ¬ ((1 + (cRuleS l : Nat) : Int) < 0) := by omega
  simp only [go_sem, ↓reduceIte, Nat.reduceEqDiff, Nat.reduceAdd, Nat.reduceMul, Nat.reduceBEq, Option.getD_none, Int.reduceToNat, Nat.reduceSub, Nat.reduceLT, Nat.reduceLeDiff, Int.reduceLE, Int.reduceLT, reduceCtorEq, hn1, yl, take_map_len, mkIntSS_len, mkRuleS_len, mkIntSS_take, mkRuleS_take]
  refine fcW_bool (laws_eqIntSS.fcu R0 o0) ?_
  simp only [go_sem, ↓reduceIte, Nat.reduceEqDiff, Nat.reduceAdd, Nat.reduceMul, Nat.reduceBEq, Option.getD_none, Int.reduceToNat, Nat.reduceSub, Nat.reduceLT, Nat.reduceLeDiff, Int.reduceLE, Int.reduceLT, reduceCtorEq, yl, take_map_len, mkIntSS_len, mkRuleS_len, mkIntSS_take, mkRuleS_take]
  have hc2 := cIntSS_le R0
  refine coW_of (laws_markIntSS.fcu R0 (1) o0 (by omega) (by omega)) rfl (by simp only [noRsL, noRs_intss, Bool.and_self]) ?_
  have hn2 : ¬ ((1 + (cIntSS R0 : Nat) : Int) < 0) := by omega
  simp only [go_sem, ↓reduceIte, Nat.reduceEqDiff, Nat.reduceAdd, Nat.reduceMul, Nat.reduceBEq, Option.getD_none, Int.reduceToNat, Nat.reduceSub, Nat.reduceLT, Nat.reduceLeDiff, Int.reduceLE, Int.reduceLT, reduceCtorEq, hn2, yl, take_map_len, mkIntSS_len, mkRuleS_len, mkIntSS_take, mkRuleS_take]
  have hc3 := cIntSS_le R0
  refine fcW_int (laws_heldIntSS.fcu R0 (1) o0 (by omega) (by omega)) ?_
  have hn3 : ¬ ((1 + (cIntSS R0 : Nat) : Int) < 0) := by omega
  simp only [go_sem, ↓reduceIte, Nat.reduceEqDiff, Nat.reduceAdd, Nat.reduceMul, Nat.reduceBEq, Option.getD_none, Int.reduceToNat, Nat.reduceSub, Nat.reduceLT, Nat.reduceLeDiff, Int.reduceLE, Int.reduceLT, reduceCtorEq, hn3, yl, take_map_len, mkIntSS_len, mkRuleS_len, mkIntSS_take, mkRuleS_take]
  refine fcW_bd (laws_toRuleS.fcu l ol) noRs_rules ?_
  simp only [go_sem, ↓reduceIte, Nat.reduceEqDiff, Nat.reduceAdd, Nat.reduceMul, Nat.reduceBEq, Option.getD_none, Int.reduceToNat, Nat.reduceSub, Nat.reduceLT, Nat.reduceLeDiff, Int.reduceLE, Int.reduceLT, reduceCtorEq, yl, take_map_len, mkIntSS_len, mkRuleS_len, mkIntSS_take, mkRuleS_take]
  refine fcW_bd hi hnr ?_
  simp only [go_sem, ↓reduceIte, Nat.reduceEqDiff, Nat.reduceAdd, Nat.reduceMul, Nat.reduceBEq, Option.getD_none, Int.reduceToNat, Nat.reduceSub, Nat.reduceLT, Nat.reduceLeDiff, Int.reduceLE, Int.reduceLT, reduceCtorEq, yl, take_map_len, mkIntSS_len, mkRuleS_len, mkIntSS_take, mkRuleS_take]
  refine fcW_bool (laws_eqIntSS.fcu R0 o0) ?_
  simp only [go_sem, ↓reduceIte, Nat.reduceEqDiff, Nat.reduceAdd, Nat.reduceMul, Nat.reduceBEq, Option.getD_none, Int.reduceToNat, Nat.reduceSub, Nat.reduceLT, Nat.reduceLeDiff, Int.reduceLE, Int.reduceLT, reduceCtorEq, yl, take_map_len, mkIntSS_len, mkRuleS_len, mkIntSS_take, mkRuleS_take]
  have hc4 := cIntSS_le R0
  refine fcW_int (laws_heldIntSS.fcu R0 (1) o0 (by omega) (by omega)) ?_
  have hn4 : ¬ ((1 + (cIntSS R0 : Nat) : Int) < 0) := by omega
  simp only [go_sem, ↓reduceIte, Nat.reduceEqDiff, Nat.reduceAdd, Nat.reduceMul, Nat.reduceBEq, Option.getD_none, Int.reduceToNat, Nat.reduceSub, Nat.reduceLT, Nat.reduceLeDiff, Int.reduceLE, Int.reduceLT, reduceCtorEq, hn4, yl, take_map_len, mkIntSS_len, mkRuleS_len, mkIntSS_take, mkRuleS_take]
end Go.Vm.Ytedcnkglldmkbaa
namespace Go.Proofs.Ytedcnkglldmkbaa
open Go Go.Vm
theorem rulesAsClauses_own : ownKnob Try.prog.godebug = none := by kernel_rfl
theorem rulesAsClauses_laid : laidOutB Try.prog = true := by kernel_rfl
set_option maxRecDepth 100000 in
theorem rulesAsClauses_lifted (os : Os) (started : os.Started) (H : Type) (enc : TypeId × Value → H) :
    ReturnsInHanded {} Try.checked os 14 .any (Rows.fnExactRulesAsClausesSpec.pre6 enc Try.prog Try.f14 Rows.fnExactRulesAsClausesRow.domain false) (Rows.fnExactRulesAsClausesSpec.post enc Try.prog Try.f14 false true false false) := by
  refine returnsInHanded_of_change_sized (C := Try.checked) rulesAsClauses_own started (by kernel_rfl) Try.func14
    (ChangeSpec.witness6 (enc := enc) (C := Try.checked) false ⟨#[], #[.int .i64 0, .slice none 0 0], []⟩ 8 (by kernel_rfl) (by kernel_rfl) (by kernel_rfl) (by kernel_rfl)) ?_
  intro W base args ds gs before hval hW _ _ _
  refine law_contract (C := Try.checked) (f := 14) [.int .i64, .sl Vm.Ytedcnkglldmkbaa.TyRule] (rt := 4) rfl (by kernel_rfl) rfl (by kernel_rfl) rulesAsClauses_laid (fun H ds h => ?_) (fun ds h => ?_) hval hW
  · match ds, h with
    | [_, _], _ => rfl
  · simp only [HasTys] at h
    obtain ⟨d1, ds1, rfl, h1, d2, ds2, rfl, h2, rfl⟩ := h
    obtain ⟨n, rfl, _⟩ := hasInt h1
    obtain ⟨l, rfl, wl⟩ := Vm.Ytedcnkglldmkbaa.hasRuleS h2
    exact Vm.Ytedcnkglldmkbaa.laws_FnExactRulesAsClauses.fc n l wl
theorem rulesAsClauses_over : Rows.fnExactRulesAsClausesRow.holds Try.pinned (OpenSpec.ofChange Rows.fnExactRulesAsClausesSpec) :=
  OpenClaim.holds_of_wide 14 Try.f14 rfl rfl rfl rfl rfl rfl rfl ⟨rfl, rfl, rfl, rfl, rfl⟩ rfl rfl rfl rfl rfl (by kernel_rfl) Try.func14 (by kernel_rfl)
    (of_decide_eq_true (by kernel_rfl)) (by unfold Func.isWrapper; first | (rw [if_pos (by decide +kernel)]; kernel_rfl) | (rw [if_neg (by decide +kernel)]; exact ⟨rfl, rfl⟩))
    (fun os started H enc _ => rulesAsClauses_lifted os started H enc)
/-- The law FnExactRulesAsClauses holds as given. -/
theorem rulesAsClauses_holds : Rows.FnExactRulesAsClausesSaid := rulesAsClauses_over
#print axioms rulesAsClauses_holds
end Go.Proofs.Ytedcnkglldmkbaa
