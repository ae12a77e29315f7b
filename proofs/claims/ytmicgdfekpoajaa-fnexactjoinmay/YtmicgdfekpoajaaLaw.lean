/- The law FnExactJoinMay returns true at all arguments (no condition); its row. -/
import Derived.Test.YtmicgdfekpoajaaWka
import Derived.Test.YtmicgdfekpoajaaRows
namespace Go.Vm.Ytmicgdfekpoajaa
open Go Go.Vm
set_option maxRecDepth 10000
set_option maxHeartbeats 4000000
set_option linter.unusedSimpArgs false
set_option linter.unusedVariables false

theorem laws_FnExactJoinMay.fc (a : MayD) (b : MayD) (wa : wfMay a) (wb : wfMay b) :
    FCt prog F_laws_FnExactJoinMay [.ro, .ro] [MayD.d a, MayD.d b] (Bb true) [] := by
  refine fct_run laws_FnExactJoinMay.ok rfl ?_
  simp only [go_sem, ↓reduceIte, Nat.reduceEqDiff, Nat.reduceAdd, Nat.reduceMul, Nat.reduceBEq, Option.getD_none, Int.reduceToNat, Nat.reduceSub, Nat.reduceLT, Nat.reduceLeDiff, Int.reduceLE, Int.reduceLT, reduceCtorEq]
  refine fcW_int (laws_szMay.fcu a _ (by omega) wa) ?_
  by_cases za : (1048576 : Int) < (wMay a : Nat)
  · rw [if_pos za]; simp only [go_sem, ↓reduceIte, Nat.reduceEqDiff, Nat.reduceAdd, Nat.reduceMul, Nat.reduceBEq, Option.getD_none, Int.reduceToNat, Nat.reduceSub, Nat.reduceLT, Nat.reduceLeDiff, Int.reduceLE, Int.reduceLT, reduceCtorEq]
  have oa : wMay a ≤ 1048576 := by omega
  rw [if_neg za]
  have ya : ¬ ((1048576 : Int) - (wMay a : Nat) < 0) := by omega
  simp only [go_sem, ↓reduceIte, Nat.reduceEqDiff, Nat.reduceAdd, Nat.reduceMul, Nat.reduceBEq, Option.getD_none, Int.reduceToNat, Nat.reduceSub, Nat.reduceLT, Nat.reduceLeDiff, Int.reduceLE, Int.reduceLT, reduceCtorEq, ya]
  refine fcW_int (laws_szMay.fcu b _ (by omega) wb) ?_
  by_cases zb : (1048576 : Int) - (wMay a : Nat) < (wMay b : Nat)
  · rw [if_pos zb]; simp only [go_sem, ↓reduceIte, Nat.reduceEqDiff, Nat.reduceAdd, Nat.reduceMul, Nat.reduceBEq, Option.getD_none, Int.reduceToNat, Nat.reduceSub, Nat.reduceLT, Nat.reduceLeDiff, Int.reduceLE, Int.reduceLT, reduceCtorEq, ya]
  have ob : wMay b ≤ 1048576 := by omega
  rw [if_neg zb]
  have yb : ¬ ((1048576 : Int) - (wMay a : Nat) - (wMay b : Nat) < 0) := by omega
  simp only [go_sem, ↓reduceIte, Nat.reduceEqDiff, Nat.reduceAdd, Nat.reduceMul, Nat.reduceBEq, Option.getD_none, Int.reduceToNat, Nat.reduceSub, Nat.reduceLT, Nat.reduceLeDiff, Int.reduceLE, Int.reduceLT, reduceCtorEq, ya, yb]
  have hs := spec_JoinMay.fc a b (by omega) (by omega)
  have hi := impl_JoinMay.fc a b (by omega) (by omega)
  have o0 := joinG_w a b
  generalize joinG a b = R0 at hs hi o0
  generalize (goodMay a && goodMay b) = R1 at hs hi
  have hnr : noRs (.tup [MayD.d R0, Bb R1]) = true := noRs_t2 noRs_May rfl
  refine fcW_bd (laws_toMay.fcu a oa) noRs_May ?_
  simp only [go_sem, ↓reduceIte, Nat.reduceEqDiff, Nat.reduceAdd, Nat.reduceMul, Nat.reduceBEq, Option.getD_none, Int.reduceToNat, Nat.reduceSub, Nat.reduceLT, Nat.reduceLeDiff, Int.reduceLE, Int.reduceLT, reduceCtorEq, ya, yb, take_map_len, mkBoolS_len, mkKnownS_len, mkStretchS_len, mkBoolS_take, mkKnownS_take, mkStretchS_take]
  refine fcW_bd (laws_toMay.fcu b ob) noRs_May ?_
  simp only [go_sem, ↓reduceIte, Nat.reduceEqDiff, Nat.reduceAdd, Nat.reduceMul, Nat.reduceBEq, Option.getD_none, Int.reduceToNat, Nat.reduceSub, Nat.reduceLT, Nat.reduceLeDiff, Int.reduceLE, Int.reduceLT, reduceCtorEq, ya, yb, take_map_len, mkBoolS_len, mkKnownS_len, mkStretchS_len, mkBoolS_take, mkKnownS_take, mkStretchS_take]
  refine fcW_bd hs hnr ?_
  simp only [go_sem, ↓reduceIte, Nat.reduceEqDiff, Nat.reduceAdd, Nat.reduceMul, Nat.reduceBEq, Option.getD_none, Int.reduceToNat, Nat.reduceSub, Nat.reduceLT, Nat.reduceLeDiff, Int.reduceLE, Int.reduceLT, reduceCtorEq, ya, yb, take_map_len, mkBoolS_len, mkKnownS_len, mkStretchS_len, mkBoolS_take, mkKnownS_take, mkStretchS_take]
  refine fcW_bd (laws_toMay.fcu a oa) noRs_May ?_
  simp only [go_sem, ↓reduceIte, Nat.reduceEqDiff, Nat.reduceAdd, Nat.reduceMul, Nat.reduceBEq, Option.getD_none, Int.reduceToNat, Nat.reduceSub, Nat.reduceLT, Nat.reduceLeDiff, Int.reduceLE, Int.reduceLT, reduceCtorEq, ya, yb, take_map_len, mkBoolS_len, mkKnownS_len, mkStretchS_len, mkBoolS_take, mkKnownS_take, mkStretchS_take]
  refine fcW_bd (laws_toMay.fcu b ob) noRs_May ?_
  simp only [go_sem, ↓reduceIte, Nat.reduceEqDiff, Nat.reduceAdd, Nat.reduceMul, Nat.reduceBEq, Option.getD_none, Int.reduceToNat, Nat.reduceSub, Nat.reduceLT, Nat.reduceLeDiff, Int.reduceLE, Int.reduceLT, reduceCtorEq, ya, yb, take_map_len, mkBoolS_len, mkKnownS_len, mkStretchS_len, mkBoolS_take, mkKnownS_take, mkStretchS_take]
  refine fcW_bd hi hnr ?_
  simp only [go_sem, ↓reduceIte, Nat.reduceEqDiff, Nat.reduceAdd, Nat.reduceMul, Nat.reduceBEq, Option.getD_none, Int.reduceToNat, Nat.reduceSub, Nat.reduceLT, Nat.reduceLeDiff, Int.reduceLE, Int.reduceLT, reduceCtorEq, ya, yb, take_map_len, mkBoolS_len, mkKnownS_len, mkStretchS_len, mkBoolS_take, mkKnownS_take, mkStretchS_take]
  refine fcW_bool (laws_eqMay.fcu R0 o0) ?_
  simp only [go_sem, ↓reduceIte, Nat.reduceEqDiff, Nat.reduceAdd, Nat.reduceMul, Nat.reduceBEq, Option.getD_none, Int.reduceToNat, Nat.reduceSub, Nat.reduceLT, Nat.reduceLeDiff, Int.reduceLE, Int.reduceLT, reduceCtorEq, ya, yb, take_map_len, mkBoolS_len, mkKnownS_len, mkStretchS_len, mkBoolS_take, mkKnownS_take, mkStretchS_take]
  refine fcW_bd (laws_toMay.fcu a oa) noRs_May ?_
  simp only [go_sem, ↓reduceIte, Nat.reduceEqDiff, Nat.reduceAdd, Nat.reduceMul, Nat.reduceBEq, Option.getD_none, Int.reduceToNat, Nat.reduceSub, Nat.reduceLT, Nat.reduceLeDiff, Int.reduceLE, Int.reduceLT, reduceCtorEq, ya, yb, take_map_len, mkBoolS_len, mkKnownS_len, mkStretchS_len, mkBoolS_take, mkKnownS_take, mkStretchS_take]
  refine fcW_bool (laws_eqMay.fcu a oa) ?_
  simp only [go_sem, ↓reduceIte, Nat.reduceEqDiff, Nat.reduceAdd, Nat.reduceMul, Nat.reduceBEq, Option.getD_none, Int.reduceToNat, Nat.reduceSub, Nat.reduceLT, Nat.reduceLeDiff, Int.reduceLE, Int.reduceLT, reduceCtorEq, ya, yb, take_map_len, mkBoolS_len, mkKnownS_len, mkStretchS_len, mkBoolS_take, mkKnownS_take, mkStretchS_take]
  refine fcW_bd (laws_toMay.fcu b ob) noRs_May ?_
  simp only [go_sem, ↓reduceIte, Nat.reduceEqDiff, Nat.reduceAdd, Nat.reduceMul, Nat.reduceBEq, Option.getD_none, Int.reduceToNat, Nat.reduceSub, Nat.reduceLT, Nat.reduceLeDiff, Int.reduceLE, Int.reduceLT, reduceCtorEq, ya, yb, take_map_len, mkBoolS_len, mkKnownS_len, mkStretchS_len, mkBoolS_take, mkKnownS_take, mkStretchS_take]
  refine fcW_bool (laws_eqMay.fcu b ob) ?_
  simp only [go_sem, ↓reduceIte, Nat.reduceEqDiff, Nat.reduceAdd, Nat.reduceMul, Nat.reduceBEq, Option.getD_none, Int.reduceToNat, Nat.reduceSub, Nat.reduceLT, Nat.reduceLeDiff, Int.reduceLE, Int.reduceLT, reduceCtorEq, ya, yb, take_map_len, mkBoolS_len, mkKnownS_len, mkStretchS_len, mkBoolS_take, mkKnownS_take, mkStretchS_take]
  have hc1 := cMay_le a
  refine coW_of (laws_markMay.fcu a (1) oa (by omega) (by omega)) rfl (by simp only [noRsL, noRs_May, Bool.and_self]) ?_
  have hn1 : ¬ ((1 + (cMay a : Nat) : Int) < 0) := by omega
  simp only [go_sem, ↓reduceIte, Nat.reduceEqDiff, Nat.reduceAdd, Nat.reduceMul, Nat.reduceBEq, Option.getD_none, Int.reduceToNat, Nat.reduceSub, Nat.reduceLT, Nat.reduceLeDiff, Int.reduceLE, Int.reduceLT, reduceCtorEq, hn1, mkMay, ya, yb, take_map_len, mkBoolS_len, mkKnownS_len, mkStretchS_len, mkBoolS_take, mkKnownS_take, mkStretchS_take]
  have hc2 := cMay_le b
  refine coW_of (laws_markMay.fcu b (1 + (cMay a : Nat)) ob (by omega) (by omega)) rfl (by simp only [noRsL, noRs_May, Bool.and_self]) ?_
  have hn2 : ¬ ((1 + (cMay a : Nat) + (cMay b : Nat) : Int) < 0) := by omega
  simp only [go_sem, ↓reduceIte, Nat.reduceEqDiff, Nat.reduceAdd, Nat.reduceMul, Nat.reduceBEq, Option.getD_none, Int.reduceToNat, Nat.reduceSub, Nat.reduceLT, Nat.reduceLeDiff, Int.reduceLE, Int.reduceLT, reduceCtorEq, hn2, mkMay, ya, yb, take_map_len, mkBoolS_len, mkKnownS_len, mkStretchS_len, mkBoolS_take, mkKnownS_take, mkStretchS_take]
  refine fcW_bool (laws_eqMay.fcu R0 o0) ?_
  simp only [go_sem, ↓reduceIte, Nat.reduceEqDiff, Nat.reduceAdd, Nat.reduceMul, Nat.reduceBEq, Option.getD_none, Int.reduceToNat, Nat.reduceSub, Nat.reduceLT, Nat.reduceLeDiff, Int.reduceLE, Int.reduceLT, reduceCtorEq, ya, yb, take_map_len, mkBoolS_len, mkKnownS_len, mkStretchS_len, mkBoolS_take, mkKnownS_take, mkStretchS_take]
  have hc3 := cMay_le R0
  refine coW_of (laws_markMay.fcu R0 (1) o0 (by omega) (by omega)) rfl (by simp only [noRsL, noRs_May, Bool.and_self]) ?_
  have hn3 : ¬ ((1 + (cMay R0 : Nat) : Int) < 0) := by omega
  simp only [go_sem, ↓reduceIte, Nat.reduceEqDiff, Nat.reduceAdd, Nat.reduceMul, Nat.reduceBEq, Option.getD_none, Int.reduceToNat, Nat.reduceSub, Nat.reduceLT, Nat.reduceLeDiff, Int.reduceLE, Int.reduceLT, reduceCtorEq, hn3, mkMay, ya, yb, take_map_len, mkBoolS_len, mkKnownS_len, mkStretchS_len, mkBoolS_take, mkKnownS_take, mkStretchS_take]
  have hc4 := cMay_le R0
  refine fcW_int (laws_heldMay.fcu R0 (1) o0 (by omega) (by omega)) ?_
  have hn4 : ¬ ((1 + (cMay R0 : Nat) : Int) < 0) := by omega
  simp only [go_sem, ↓reduceIte, Nat.reduceEqDiff, Nat.reduceAdd, Nat.reduceMul, Nat.reduceBEq, Option.getD_none, Int.reduceToNat, Nat.reduceSub, Nat.reduceLT, Nat.reduceLeDiff, Int.reduceLE, Int.reduceLT, reduceCtorEq, hn4, mkMay, ya, yb, take_map_len, mkBoolS_len, mkKnownS_len, mkStretchS_len, mkBoolS_take, mkKnownS_take, mkStretchS_take]
  refine fcW_bd (laws_toMay.fcu a oa) noRs_May ?_
  simp only [go_sem, ↓reduceIte, Nat.reduceEqDiff, Nat.reduceAdd, Nat.reduceMul, Nat.reduceBEq, Option.getD_none, Int.reduceToNat, Nat.reduceSub, Nat.reduceLT, Nat.reduceLeDiff, Int.reduceLE, Int.reduceLT, reduceCtorEq, ya, yb, take_map_len, mkBoolS_len, mkKnownS_len, mkStretchS_len, mkBoolS_take, mkKnownS_take, mkStretchS_take]
  refine fcW_bd (laws_toMay.fcu b ob) noRs_May ?_
  simp only [go_sem, ↓reduceIte, Nat.reduceEqDiff, Nat.reduceAdd, Nat.reduceMul, Nat.reduceBEq, Option.getD_none, Int.reduceToNat, Nat.reduceSub, Nat.reduceLT, Nat.reduceLeDiff, Int.reduceLE, Int.reduceLT, reduceCtorEq, ya, yb, take_map_len, mkBoolS_len, mkKnownS_len, mkStretchS_len, mkBoolS_take, mkKnownS_take, mkStretchS_take]
  refine fcW_bd hi hnr ?_
  simp only [go_sem, ↓reduceIte, Nat.reduceEqDiff, Nat.reduceAdd, Nat.reduceMul, Nat.reduceBEq, Option.getD_none, Int.reduceToNat, Nat.reduceSub, Nat.reduceLT, Nat.reduceLeDiff, Int.reduceLE, Int.reduceLT, reduceCtorEq, ya, yb, take_map_len, mkBoolS_len, mkKnownS_len, mkStretchS_len, mkBoolS_take, mkKnownS_take, mkStretchS_take]
  refine fcW_bool (laws_eqMay.fcu R0 o0) ?_
  simp only [go_sem, ↓reduceIte, Nat.reduceEqDiff, Nat.reduceAdd, Nat.reduceMul, Nat.reduceBEq, Option.getD_none, Int.reduceToNat, Nat.reduceSub, Nat.reduceLT, Nat.reduceLeDiff, Int.reduceLE, Int.reduceLT, reduceCtorEq, ya, yb, take_map_len, mkBoolS_len, mkKnownS_len, mkStretchS_len, mkBoolS_take, mkKnownS_take, mkStretchS_take]
  have hc5 := cMay_le R0
  refine fcW_int (laws_heldMay.fcu R0 (1) o0 (by omega) (by omega)) ?_
  have hn5 : ¬ ((1 + (cMay R0 : Nat) : Int) < 0) := by omega
  simp only [go_sem, ↓reduceIte, Nat.reduceEqDiff, Nat.reduceAdd, Nat.reduceMul, Nat.reduceBEq, Option.getD_none, Int.reduceToNat, Nat.reduceSub, Nat.reduceLT, Nat.reduceLeDiff, Int.reduceLE, Int.reduceLT, reduceCtorEq, hn5, mkMay, ya, yb, take_map_len, mkBoolS_len, mkKnownS_len, mkStretchS_len, mkBoolS_take, mkKnownS_take, mkStretchS_take]
end Go.Vm.Ytmicgdfekpoajaa
namespace Go.Proofs.Ytmicgdfekpoajaa
open Go Go.Vm
theorem joinMay_own : ownKnob Try.prog.godebug = none := by kernel_rfl
theorem joinMay_laid : laidOutB Try.prog = true := by kernel_rfl
set_option maxRecDepth 100000 in
theorem joinMay_lifted (os : Os) (started : os.Started) (H : Type) (enc : TypeId × Value → H) :
    ReturnsInHanded {} Try.checked os 6 .any (Rows.fnExactJoinMaySpec.pre6 enc Try.prog Try.f6 Rows.fnExactJoinMayRow.domain false) (Rows.fnExactJoinMaySpec.post enc Try.prog Try.f6 false true false false) := by
  refine returnsInHanded_of_change_sized (C := Try.checked) joinMay_own started (by kernel_rfl) Try.func6
    (ChangeSpec.witness6 (enc := enc) (C := Try.checked) false ⟨#[], #[.agg #[.slice none 0 0, .slice none 0 0, .slice none 0 0, .slice none 0 0], .agg #[.slice none 0 0, .slice none 0 0, .slice none 0 0, .slice none 0 0]], []⟩ 8 (by kernel_rfl) (by kernel_rfl) (by kernel_rfl) (by kernel_rfl)) ?_
  intro W base args ds gs before hval hW _ _ _
  refine law_contract (C := Try.checked) (f := 6) [Vm.Ytmicgdfekpoajaa.TyMay, Vm.Ytmicgdfekpoajaa.TyMay] (rt := 4) rfl (by kernel_rfl) rfl (by kernel_rfl) joinMay_laid (fun H ds h => ?_) (fun ds h => ?_) hval hW
  · match ds, h with
    | [_, _], _ => rfl
  · simp only [HasTys] at h
    obtain ⟨d1, ds1, rfl, h1, d2, ds2, rfl, h2, rfl⟩ := h
    obtain ⟨a, rfl, wa⟩ := Vm.Ytmicgdfekpoajaa.hasMay h1
    obtain ⟨b, rfl, wb⟩ := Vm.Ytmicgdfekpoajaa.hasMay h2
    exact Vm.Ytmicgdfekpoajaa.laws_FnExactJoinMay.fc a b wa wb
theorem joinMay_over : Rows.fnExactJoinMayRow.holds Try.pinned (OpenSpec.ofChange Rows.fnExactJoinMaySpec) :=
  OpenClaim.holds_of_wide 6 Try.f6 rfl rfl rfl rfl rfl rfl rfl ⟨rfl, rfl, rfl, rfl, rfl⟩ rfl rfl rfl rfl rfl (by kernel_rfl) Try.func6 (by kernel_rfl)
    (of_decide_eq_true (by kernel_rfl)) (by unfold Func.isWrapper; first | (rw [if_pos (by decide +kernel)]; kernel_rfl) | (rw [if_neg (by decide +kernel)]; exact ⟨rfl, rfl⟩))
    (fun os started H enc _ => joinMay_lifted os started H enc)
/-- The law FnExactJoinMay holds as given. -/
theorem joinMay_holds : Rows.FnExactJoinMaySaid := joinMay_over
#print axioms joinMay_holds
end Go.Proofs.Ytmicgdfekpoajaa
