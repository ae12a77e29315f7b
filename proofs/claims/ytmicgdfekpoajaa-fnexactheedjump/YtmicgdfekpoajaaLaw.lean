/- The law FnExactHeedJump returns true at all arguments (no condition); its row. -/
import Derived.Test.YtmicgdfekpoajaaWka
import Derived.Test.YtmicgdfekpoajaaRows
namespace Go.Vm.Ytmicgdfekpoajaa
open Go Go.Vm
set_option maxRecDepth 10000
set_option maxHeartbeats 4000000
set_option linter.unusedSimpArgs false
set_option linter.unusedVariables false

theorem laws_FnExactHeedJump.fc (s : StepD) (m : MayD) (t : Bool) (wm : wfMay m) :
    FCt prog F_laws_FnExactHeedJump [.ro, .ro, .ro] [StepD.d s, MayD.d m, Bb t] (Bb true) [] := by
  refine fct_run laws_FnExactHeedJump.ok rfl ?_
  simp only [go_sem, ↓reduceIte, Nat.reduceEqDiff, Nat.reduceAdd, Nat.reduceMul, Nat.reduceBEq, Option.getD_none, Int.reduceToNat, Nat.reduceSub, Nat.reduceLT, Nat.reduceLeDiff, Int.reduceLE, Int.reduceLT, reduceCtorEq]
  refine fcW_int (laws_szMay.fcu m _ (by omega) wm) ?_
  by_cases zm : (1048576 : Int) < (wMay m : Nat)
  · rw [if_pos zm]; simp only [go_sem, ↓reduceIte, Nat.reduceEqDiff, Nat.reduceAdd, Nat.reduceMul, Nat.reduceBEq, Option.getD_none, Int.reduceToNat, Nat.reduceSub, Nat.reduceLT, Nat.reduceLeDiff, Int.reduceLE, Int.reduceLT, reduceCtorEq]
  have om : wMay m ≤ 1048576 := by omega
  rw [if_neg zm]
  have ym : ¬ ((1048576 : Int) - (wMay m : Nat) < 0) := by omega
  simp only [go_sem, ↓reduceIte, Nat.reduceEqDiff, Nat.reduceAdd, Nat.reduceMul, Nat.reduceBEq, Option.getD_none, Int.reduceToNat, Nat.reduceSub, Nat.reduceLT, Nat.reduceLeDiff, Int.reduceLE, Int.reduceLT, reduceCtorEq, ym]
  have hs := spec_HeedJump.fc s m t (by omega)
  have hi := impl_HeedJump.fc s m t (by omega)
  have o0 := heedG_w s m t
  generalize heedG s m t = R at hs hi o0
  obtain ⟨R0, R1, R2⟩ := R
  dsimp only at hs hi o0
  have hnr : noRs (.tup [MayD.d R0, Bb R1, Bb R2]) = true := noRs_t3 noRs_May rfl rfl
  refine fcW_bd (laws_toStep.fcu s) rfl ?_
  simp only [go_sem, ↓reduceIte, Nat.reduceEqDiff, Nat.reduceAdd, Nat.reduceMul, Nat.reduceBEq, Option.getD_none, Int.reduceToNat, Nat.reduceSub, Nat.reduceLT, Nat.reduceLeDiff, Int.reduceLE, Int.reduceLT, reduceCtorEq, ym, take_map_len, mkBoolS_len, mkKnownS_len, mkStretchS_len, mkBoolS_take, mkKnownS_take, mkStretchS_take]
  refine fcW_bd (laws_toMay.fcu m om) noRs_May ?_
  simp only [go_sem, ↓reduceIte, Nat.reduceEqDiff, Nat.reduceAdd, Nat.reduceMul, Nat.reduceBEq, Option.getD_none, Int.reduceToNat, Nat.reduceSub, Nat.reduceLT, Nat.reduceLeDiff, Int.reduceLE, Int.reduceLT, reduceCtorEq, ym, take_map_len, mkBoolS_len, mkKnownS_len, mkStretchS_len, mkBoolS_take, mkKnownS_take, mkStretchS_take]
  refine fcW_bd hs hnr ?_
  simp only [go_sem, ↓reduceIte, Nat.reduceEqDiff, Nat.reduceAdd, Nat.reduceMul, Nat.reduceBEq, Option.getD_none, Int.reduceToNat, Nat.reduceSub, Nat.reduceLT, Nat.reduceLeDiff, Int.reduceLE, Int.reduceLT, reduceCtorEq, ym, take_map_len, mkBoolS_len, mkKnownS_len, mkStretchS_len, mkBoolS_take, mkKnownS_take, mkStretchS_take]
  refine fcW_bd (laws_toMay.fcu m om) noRs_May ?_
  simp only [go_sem, ↓reduceIte, Nat.reduceEqDiff, Nat.reduceAdd, Nat.reduceMul, Nat.reduceBEq, Option.getD_none, Int.reduceToNat, Nat.reduceSub, Nat.reduceLT, Nat.reduceLeDiff, Int.reduceLE, Int.reduceLT, reduceCtorEq, ym, take_map_len, mkBoolS_len, mkKnownS_len, mkStretchS_len, mkBoolS_take, mkKnownS_take, mkStretchS_take]
  refine fcW_bd (laws_toStep.fcu s) rfl ?_
  simp only [go_sem, ↓reduceIte, Nat.reduceEqDiff, Nat.reduceAdd, Nat.reduceMul, Nat.reduceBEq, Option.getD_none, Int.reduceToNat, Nat.reduceSub, Nat.reduceLT, Nat.reduceLeDiff, Int.reduceLE, Int.reduceLT, reduceCtorEq, ym, take_map_len, mkBoolS_len, mkKnownS_len, mkStretchS_len, mkBoolS_take, mkKnownS_take, mkStretchS_take]
  refine fcW_bd hi hnr ?_
  simp only [go_sem, ↓reduceIte, Nat.reduceEqDiff, Nat.reduceAdd, Nat.reduceMul, Nat.reduceBEq, Option.getD_none, Int.reduceToNat, Nat.reduceSub, Nat.reduceLT, Nat.reduceLeDiff, Int.reduceLE, Int.reduceLT, reduceCtorEq, ym, take_map_len, mkBoolS_len, mkKnownS_len, mkStretchS_len, mkBoolS_take, mkKnownS_take, mkStretchS_take]
  refine fcW_bool (laws_eqMay.fcu R0 o0) ?_
  simp only [go_sem, ↓reduceIte, Nat.reduceEqDiff, Nat.reduceAdd, Nat.reduceMul, Nat.reduceBEq, Option.getD_none, Int.reduceToNat, Nat.reduceSub, Nat.reduceLT, Nat.reduceLeDiff, Int.reduceLE, Int.reduceLT, reduceCtorEq, ym, take_map_len, mkBoolS_len, mkKnownS_len, mkStretchS_len, mkBoolS_take, mkKnownS_take, mkStretchS_take]
  refine fcW_bd (laws_toMay.fcu m om) noRs_May ?_
  simp only [go_sem, ↓reduceIte, Nat.reduceEqDiff, Nat.reduceAdd, Nat.reduceMul, Nat.reduceBEq, Option.getD_none, Int.reduceToNat, Nat.reduceSub, Nat.reduceLT, Nat.reduceLeDiff, Int.reduceLE, Int.reduceLT, reduceCtorEq, ym, take_map_len, mkBoolS_len, mkKnownS_len, mkStretchS_len, mkBoolS_take, mkKnownS_take, mkStretchS_take]
  refine fcW_bool (laws_eqMay.fcu m om) ?_
  simp only [go_sem, ↓reduceIte, Nat.reduceEqDiff, Nat.reduceAdd, Nat.reduceMul, Nat.reduceBEq, Option.getD_none, Int.reduceToNat, Nat.reduceSub, Nat.reduceLT, Nat.reduceLeDiff, Int.reduceLE, Int.reduceLT, reduceCtorEq, ym, take_map_len, mkBoolS_len, mkKnownS_len, mkStretchS_len, mkBoolS_take, mkKnownS_take, mkStretchS_take]
  have hc1 := cMay_le m
  refine coW_of (laws_markMay.fcu m (1) om (by omega) (by omega)) rfl (by simp only [noRsL, noRs_May, Bool.and_self]) ?_
  have hn1 : ¬ ((1 + (cMay m : Nat) : Int) < 0) := by omega
  simp only [go_sem, ↓reduceIte, Nat.reduceEqDiff, Nat.reduceAdd, Nat.reduceMul, Nat.reduceBEq, Option.getD_none, Int.reduceToNat, Nat.reduceSub, Nat.reduceLT, Nat.reduceLeDiff, Int.reduceLE, Int.reduceLT, reduceCtorEq, hn1, mkMay, ym, take_map_len, mkBoolS_len, mkKnownS_len, mkStretchS_len, mkBoolS_take, mkKnownS_take, mkStretchS_take]
  refine fcW_bool (laws_eqMay.fcu R0 o0) ?_
  simp only [go_sem, ↓reduceIte, Nat.reduceEqDiff, Nat.reduceAdd, Nat.reduceMul, Nat.reduceBEq, Option.getD_none, Int.reduceToNat, Nat.reduceSub, Nat.reduceLT, Nat.reduceLeDiff, Int.reduceLE, Int.reduceLT, reduceCtorEq, ym, take_map_len, mkBoolS_len, mkKnownS_len, mkStretchS_len, mkBoolS_take, mkKnownS_take, mkStretchS_take]
  have hc2 := cMay_le R0
  refine coW_of (laws_markMay.fcu R0 (1) o0 (by omega) (by omega)) rfl (by simp only [noRsL, noRs_May, Bool.and_self]) ?_
  have hn2 : ¬ ((1 + (cMay R0 : Nat) : Int) < 0) := by omega
  simp only [go_sem, ↓reduceIte, Nat.reduceEqDiff, Nat.reduceAdd, Nat.reduceMul, Nat.reduceBEq, Option.getD_none, Int.reduceToNat, Nat.reduceSub, Nat.reduceLT, Nat.reduceLeDiff, Int.reduceLE, Int.reduceLT, reduceCtorEq, hn2, mkMay, ym, take_map_len, mkBoolS_len, mkKnownS_len, mkStretchS_len, mkBoolS_take, mkKnownS_take, mkStretchS_take]
  have hc3 := cMay_le R0
  refine fcW_int (laws_heldMay.fcu R0 (1) o0 (by omega) (by omega)) ?_
  have hn3 : ¬ ((1 + (cMay R0 : Nat) : Int) < 0) := by omega
  simp only [go_sem, ↓reduceIte, Nat.reduceEqDiff, Nat.reduceAdd, Nat.reduceMul, Nat.reduceBEq, Option.getD_none, Int.reduceToNat, Nat.reduceSub, Nat.reduceLT, Nat.reduceLeDiff, Int.reduceLE, Int.reduceLT, reduceCtorEq, hn3, mkMay, ym, take_map_len, mkBoolS_len, mkKnownS_len, mkStretchS_len, mkBoolS_take, mkKnownS_take, mkStretchS_take]
  refine fcW_bd (laws_toStep.fcu s) rfl ?_
  simp only [go_sem, ↓reduceIte, Nat.reduceEqDiff, Nat.reduceAdd, Nat.reduceMul, Nat.reduceBEq, Option.getD_none, Int.reduceToNat, Nat.reduceSub, Nat.reduceLT, Nat.reduceLeDiff, Int.reduceLE, Int.reduceLT, reduceCtorEq, ym, take_map_len, mkBoolS_len, mkKnownS_len, mkStretchS_len, mkBoolS_take, mkKnownS_take, mkStretchS_take]
  refine fcW_bd (laws_toMay.fcu m om) noRs_May ?_
  simp only [go_sem, ↓reduceIte, Nat.reduceEqDiff, Nat.reduceAdd, Nat.reduceMul, Nat.reduceBEq, Option.getD_none, Int.reduceToNat, Nat.reduceSub, Nat.reduceLT, Nat.reduceLeDiff, Int.reduceLE, Int.reduceLT, reduceCtorEq, ym, take_map_len, mkBoolS_len, mkKnownS_len, mkStretchS_len, mkBoolS_take, mkKnownS_take, mkStretchS_take]
  refine fcW_bd hi hnr ?_
  simp only [go_sem, ↓reduceIte, Nat.reduceEqDiff, Nat.reduceAdd, Nat.reduceMul, Nat.reduceBEq, Option.getD_none, Int.reduceToNat, Nat.reduceSub, Nat.reduceLT, Nat.reduceLeDiff, Int.reduceLE, Int.reduceLT, reduceCtorEq, ym, take_map_len, mkBoolS_len, mkKnownS_len, mkStretchS_len, mkBoolS_take, mkKnownS_take, mkStretchS_take]
  refine fcW_bool (laws_eqMay.fcu R0 o0) ?_
  simp only [go_sem, ↓reduceIte, Nat.reduceEqDiff, Nat.reduceAdd, Nat.reduceMul, Nat.reduceBEq, Option.getD_none, Int.reduceToNat, Nat.reduceSub, Nat.reduceLT, Nat.reduceLeDiff, Int.reduceLE, Int.reduceLT, reduceCtorEq, ym, take_map_len, mkBoolS_len, mkKnownS_len, mkStretchS_len, mkBoolS_take, mkKnownS_take, mkStretchS_take]
  have hc4 := cMay_le R0
  refine fcW_int (laws_heldMay.fcu R0 (1) o0 (by omega) (by omega)) ?_
  have hn4 : ¬ ((1 + (cMay R0 : Nat) : Int) < 0) := by omega
  simp only [go_sem, ↓reduceIte, Nat.reduceEqDiff, Nat.reduceAdd, Nat.reduceMul, Nat.reduceBEq, Option.getD_none, Int.reduceToNat, Nat.reduceSub, Nat.reduceLT, Nat.reduceLeDiff, Int.reduceLE, Int.reduceLT, reduceCtorEq, hn4, mkMay, ym, take_map_len, mkBoolS_len, mkKnownS_len, mkStretchS_len, mkBoolS_take, mkKnownS_take, mkStretchS_take]
end Go.Vm.Ytmicgdfekpoajaa
namespace Go.Proofs.Ytmicgdfekpoajaa
open Go Go.Vm
theorem heedJump_own : ownKnob Try.prog.godebug = none := by kernel_rfl
theorem heedJump_laid : laidOutB Try.prog = true := by kernel_rfl
set_option maxRecDepth 100000 in
theorem heedJump_lifted (os : Os) (started : os.Started) (H : Type) (enc : TypeId × Value → H) :
    ReturnsInHanded {} Try.checked os 7 .any (Rows.fnExactHeedJumpSpec.pre6 enc Try.prog Try.f7 Rows.fnExactHeedJumpRow.domain false) (Rows.fnExactHeedJumpSpec.post enc Try.prog Try.f7 false true false false) := by
  refine returnsInHanded_of_change_sized (C := Try.checked) heedJump_own started (by kernel_rfl) Try.func7
    (ChangeSpec.witness6 (enc := enc) (C := Try.checked) false ⟨#[], #[.agg #[.int .i64 0, .int .i64 0, .int .i64 0, .int .i64 0, .int .i64 0, .int .i64 0], .agg #[.slice none 0 0, .slice none 0 0, .slice none 0 0, .slice none 0 0], .bool false], []⟩ 8 (by kernel_rfl) (by kernel_rfl) (by kernel_rfl) (by kernel_rfl)) ?_
  intro W base args ds gs before hval hW _ _ _
  refine law_contract (C := Try.checked) (f := 7) [Vm.Ytmicgdfekpoajaa.TyStep, Vm.Ytmicgdfekpoajaa.TyMay, .bool] (rt := 4) rfl (by kernel_rfl) rfl (by kernel_rfl) heedJump_laid (fun H ds h => ?_) (fun ds h => ?_) hval hW
  · match ds, h with
    | [_, _, _], _ => rfl
  · simp only [HasTys] at h
    obtain ⟨d1, ds1, rfl, h1, d2, ds2, rfl, h2, d3, ds3, rfl, h3, rfl⟩ := h
    obtain ⟨s, rfl, _⟩ := Vm.Ytmicgdfekpoajaa.hasStep h1
    obtain ⟨m, rfl, wm⟩ := Vm.Ytmicgdfekpoajaa.hasMay h2
    obtain ⟨t, rfl⟩ := Vm.Ytmicgdfekpoajaa.hasBool h3
    exact Vm.Ytmicgdfekpoajaa.laws_FnExactHeedJump.fc s m t wm
theorem heedJump_over : Rows.fnExactHeedJumpRow.holds Try.pinned (OpenSpec.ofChange Rows.fnExactHeedJumpSpec) :=
  OpenClaim.holds_of_wide 7 Try.f7 rfl rfl rfl rfl rfl rfl rfl ⟨rfl, rfl, rfl, rfl, rfl⟩ rfl rfl rfl rfl rfl (by kernel_rfl) Try.func7 (by kernel_rfl)
    (of_decide_eq_true (by kernel_rfl)) (by unfold Func.isWrapper; first | (rw [if_pos (by decide +kernel)]; kernel_rfl) | (rw [if_neg (by decide +kernel)]; exact ⟨rfl, rfl⟩))
    (fun os started H enc _ => heedJump_lifted os started H enc)
/-- The law FnExactHeedJump holds as given. -/
theorem heedJump_holds : Rows.FnExactHeedJumpSaid := heedJump_over
#print axioms heedJump_holds
end Go.Proofs.Ytmicgdfekpoajaa
