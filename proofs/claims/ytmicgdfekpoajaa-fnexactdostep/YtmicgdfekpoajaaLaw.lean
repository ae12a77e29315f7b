/- The law FnExactDoStep returns true at all arguments (no condition); its row. -/
import Derived.Test.YtmicgdfekpoajaaWka
import Derived.Test.YtmicgdfekpoajaaRows
namespace Go.Vm.Ytmicgdfekpoajaa
open Go Go.Vm
set_option maxRecDepth 10000
set_option maxHeartbeats 4000000
set_option linter.unusedSimpArgs false
set_option linter.unusedVariables false

theorem laws_FnExactDoStep.fc (p : List StepD) (ctx : List Int) (m : MachD) (wp : p.length ≤ 9223372036854775807) (wctx : ctx.length ≤ 9223372036854775807) (wm : wfMachine m) :
    FCt prog F_laws_FnExactDoStep [.ro, .ro, .ro] [steps p, ints ctx, MachD.d m] (Bb true) [] := by
  refine fct_run laws_FnExactDoStep.ok rfl ?_
  simp only [go_sem, ↓reduceIte, Nat.reduceEqDiff, Nat.reduceAdd, Nat.reduceMul, Nat.reduceBEq, Option.getD_none, Int.reduceToNat, Nat.reduceSub, Nat.reduceLT, Nat.reduceLeDiff, Int.reduceLE, Int.reduceLT, reduceCtorEq]
  by_cases zctx : (ctx.length : Int) > 1048576
  · simp only [go_sem, ↓reduceIte, Nat.reduceEqDiff, Nat.reduceAdd, Nat.reduceMul, Nat.reduceBEq, Option.getD_none, Int.reduceToNat, Nat.reduceSub, Nat.reduceLT, Nat.reduceLeDiff, Int.reduceLE, Int.reduceLT, reduceCtorEq, zctx]
  have octx : ctx.length ≤ 1048576 := by omega
  simp only [go_sem, ↓reduceIte, Nat.reduceEqDiff, Nat.reduceAdd, Nat.reduceMul, Nat.reduceBEq, Option.getD_none, Int.reduceToNat, Nat.reduceSub, Nat.reduceLT, Nat.reduceLeDiff, Int.reduceLE, Int.reduceLT, reduceCtorEq, zctx]
  refine fcW_int (laws_szStepS.fcu p _ (by omega) wp) ?_
  by_cases zp : (1048576 : Int) < (p.length : Nat)
  · rw [if_pos zp]; simp only [go_sem, ↓reduceIte, Nat.reduceEqDiff, Nat.reduceAdd, Nat.reduceMul, Nat.reduceBEq, Option.getD_none, Int.reduceToNat, Nat.reduceSub, Nat.reduceLT, Nat.reduceLeDiff, Int.reduceLE, Int.reduceLT, reduceCtorEq, zctx]
  have op : p.length ≤ 1048576 := by omega
  rw [if_neg zp]
  have yp : ¬ ((1048576 : Int) - (p.length : Nat) < 0) := by omega
  simp only [go_sem, ↓reduceIte, Nat.reduceEqDiff, Nat.reduceAdd, Nat.reduceMul, Nat.reduceBEq, Option.getD_none, Int.reduceToNat, Nat.reduceSub, Nat.reduceLT, Nat.reduceLeDiff, Int.reduceLE, Int.reduceLT, reduceCtorEq, zctx, yp]
  refine fcW_int (laws_szMachine.fcu m _ (by omega) wm) ?_
  by_cases zm : (1048576 : Int) - (p.length : Nat) < (wMachine m : Nat)
  · rw [if_pos zm]; simp only [go_sem, ↓reduceIte, Nat.reduceEqDiff, Nat.reduceAdd, Nat.reduceMul, Nat.reduceBEq, Option.getD_none, Int.reduceToNat, Nat.reduceSub, Nat.reduceLT, Nat.reduceLeDiff, Int.reduceLE, Int.reduceLT, reduceCtorEq, zctx, yp]
  have om : wMachine m ≤ 1048576 := by omega
  rw [if_neg zm]
  have ym : ¬ ((1048576 : Int) - (p.length : Nat) - (wMachine m : Nat) < 0) := by omega
  simp only [go_sem, ↓reduceIte, Nat.reduceEqDiff, Nat.reduceAdd, Nat.reduceMul, Nat.reduceBEq, Option.getD_none, Int.reduceToNat, Nat.reduceSub, Nat.reduceLT, Nat.reduceLeDiff, Int.reduceLE, Int.reduceLT, reduceCtorEq, zctx, yp, ym]
  have hs := spec_DoStep.fc p ctx m (by omega) (by omega) (by omega)
  have hi := impl_DoStep.fc p ctx m (by omega) (by omega) (by omega)
  have o0 := doStep_w (p := p) (ctx := ctx) (m := m)
  unfold doStepD at hs hi
  generalize doStepV p ctx m = R at hs hi o0
  obtain ⟨R0, R1, R2, R3⟩ := R
  dsimp only at hs hi o0
  have hnr : noRs (.tup [MachD.d R0, Ii R1, Bb R2, Bb R3]) = true := noRs_t4 noRs_Machine rfl rfl rfl
  refine fcW_bd (laws_toStepS.fcu p op) noRs_steps ?_
  simp only [go_sem, ↓reduceIte, Nat.reduceEqDiff, Nat.reduceAdd, Nat.reduceMul, Nat.reduceBEq, Option.getD_none, Int.reduceToNat, Nat.reduceSub, Nat.reduceLT, Nat.reduceLeDiff, Int.reduceLE, Int.reduceLT, reduceCtorEq, zctx, yp, ym, take_map_len, mkBoolS_len, mkIntS_len, mkStepS_len, mkBoolS_take, mkIntS_take, mkStepS_take]
  refine fcW_bd (laws_toIntS.fcu ctx octx) noRs_ints ?_
  simp only [go_sem, ↓reduceIte, Nat.reduceEqDiff, Nat.reduceAdd, Nat.reduceMul, Nat.reduceBEq, Option.getD_none, Int.reduceToNat, Nat.reduceSub, Nat.reduceLT, Nat.reduceLeDiff, Int.reduceLE, Int.reduceLT, reduceCtorEq, zctx, yp, ym, take_map_len, mkBoolS_len, mkIntS_len, mkStepS_len, mkBoolS_take, mkIntS_take, mkStepS_take]
  refine fcW_bd (laws_toMachine.fcu m om) noRs_Machine ?_
  simp only [go_sem, ↓reduceIte, Nat.reduceEqDiff, Nat.reduceAdd, Nat.reduceMul, Nat.reduceBEq, Option.getD_none, Int.reduceToNat, Nat.reduceSub, Nat.reduceLT, Nat.reduceLeDiff, Int.reduceLE, Int.reduceLT, reduceCtorEq, zctx, yp, ym, take_map_len, mkBoolS_len, mkIntS_len, mkStepS_len, mkBoolS_take, mkIntS_take, mkStepS_take]
  refine fcW_bd hs hnr ?_
  simp only [go_sem, ↓reduceIte, Nat.reduceEqDiff, Nat.reduceAdd, Nat.reduceMul, Nat.reduceBEq, Option.getD_none, Int.reduceToNat, Nat.reduceSub, Nat.reduceLT, Nat.reduceLeDiff, Int.reduceLE, Int.reduceLT, reduceCtorEq, zctx, yp, ym, take_map_len, mkBoolS_len, mkIntS_len, mkStepS_len, mkBoolS_take, mkIntS_take, mkStepS_take]
  refine fcW_bd (laws_toStepS.fcu p op) noRs_steps ?_
  simp only [go_sem, ↓reduceIte, Nat.reduceEqDiff, Nat.reduceAdd, Nat.reduceMul, Nat.reduceBEq, Option.getD_none, Int.reduceToNat, Nat.reduceSub, Nat.reduceLT, Nat.reduceLeDiff, Int.reduceLE, Int.reduceLT, reduceCtorEq, zctx, yp, ym, take_map_len, mkBoolS_len, mkIntS_len, mkStepS_len, mkBoolS_take, mkIntS_take, mkStepS_take]
  refine fcW_bd (laws_toIntS.fcu ctx octx) noRs_ints ?_
  simp only [go_sem, ↓reduceIte, Nat.reduceEqDiff, Nat.reduceAdd, Nat.reduceMul, Nat.reduceBEq, Option.getD_none, Int.reduceToNat, Nat.reduceSub, Nat.reduceLT, Nat.reduceLeDiff, Int.reduceLE, Int.reduceLT, reduceCtorEq, zctx, yp, ym, take_map_len, mkBoolS_len, mkIntS_len, mkStepS_len, mkBoolS_take, mkIntS_take, mkStepS_take]
  refine fcW_bd (laws_toMachine.fcu m om) noRs_Machine ?_
  simp only [go_sem, ↓reduceIte, Nat.reduceEqDiff, Nat.reduceAdd, Nat.reduceMul, Nat.reduceBEq, Option.getD_none, Int.reduceToNat, Nat.reduceSub, Nat.reduceLT, Nat.reduceLeDiff, Int.reduceLE, Int.reduceLT, reduceCtorEq, zctx, yp, ym, take_map_len, mkBoolS_len, mkIntS_len, mkStepS_len, mkBoolS_take, mkIntS_take, mkStepS_take]
  refine fcW_bd hi hnr ?_
  simp only [go_sem, ↓reduceIte, Nat.reduceEqDiff, Nat.reduceAdd, Nat.reduceMul, Nat.reduceBEq, Option.getD_none, Int.reduceToNat, Nat.reduceSub, Nat.reduceLT, Nat.reduceLeDiff, Int.reduceLE, Int.reduceLT, reduceCtorEq, zctx, yp, ym, take_map_len, mkBoolS_len, mkIntS_len, mkStepS_len, mkBoolS_take, mkIntS_take, mkStepS_take]
  refine fcW_bool (laws_eqMachine.fcu R0 o0) ?_
  simp only [go_sem, ↓reduceIte, Nat.reduceEqDiff, Nat.reduceAdd, Nat.reduceMul, Nat.reduceBEq, Option.getD_none, Int.reduceToNat, Nat.reduceSub, Nat.reduceLT, Nat.reduceLeDiff, Int.reduceLE, Int.reduceLT, reduceCtorEq, zctx, yp, ym, take_map_len, mkBoolS_len, mkIntS_len, mkStepS_len, mkBoolS_take, mkIntS_take, mkStepS_take]
  refine fcW_bd (laws_toStepS.fcu p op) noRs_steps ?_
  simp only [go_sem, ↓reduceIte, Nat.reduceEqDiff, Nat.reduceAdd, Nat.reduceMul, Nat.reduceBEq, Option.getD_none, Int.reduceToNat, Nat.reduceSub, Nat.reduceLT, Nat.reduceLeDiff, Int.reduceLE, Int.reduceLT, reduceCtorEq, zctx, yp, ym, take_map_len, mkBoolS_len, mkIntS_len, mkStepS_len, mkBoolS_take, mkIntS_take, mkStepS_take]
  refine fcW_bool (laws_eqStepS.fcu p op) ?_
  simp only [go_sem, ↓reduceIte, Nat.reduceEqDiff, Nat.reduceAdd, Nat.reduceMul, Nat.reduceBEq, Option.getD_none, Int.reduceToNat, Nat.reduceSub, Nat.reduceLT, Nat.reduceLeDiff, Int.reduceLE, Int.reduceLT, reduceCtorEq, zctx, yp, ym, take_map_len, mkBoolS_len, mkIntS_len, mkStepS_len, mkBoolS_take, mkIntS_take, mkStepS_take]
  refine fcW_bd (laws_toIntS.fcu ctx octx) noRs_ints ?_
  simp only [go_sem, ↓reduceIte, Nat.reduceEqDiff, Nat.reduceAdd, Nat.reduceMul, Nat.reduceBEq, Option.getD_none, Int.reduceToNat, Nat.reduceSub, Nat.reduceLT, Nat.reduceLeDiff, Int.reduceLE, Int.reduceLT, reduceCtorEq, zctx, yp, ym, take_map_len, mkBoolS_len, mkIntS_len, mkStepS_len, mkBoolS_take, mkIntS_take, mkStepS_take]
  refine fcW_bool (laws_eqIntS.fcu ctx octx) ?_
  simp only [go_sem, ↓reduceIte, Nat.reduceEqDiff, Nat.reduceAdd, Nat.reduceMul, Nat.reduceBEq, Option.getD_none, Int.reduceToNat, Nat.reduceSub, Nat.reduceLT, Nat.reduceLeDiff, Int.reduceLE, Int.reduceLT, reduceCtorEq, zctx, yp, ym, take_map_len, mkBoolS_len, mkIntS_len, mkStepS_len, mkBoolS_take, mkIntS_take, mkStepS_take]
  refine fcW_bd (laws_toMachine.fcu m om) noRs_Machine ?_
  simp only [go_sem, ↓reduceIte, Nat.reduceEqDiff, Nat.reduceAdd, Nat.reduceMul, Nat.reduceBEq, Option.getD_none, Int.reduceToNat, Nat.reduceSub, Nat.reduceLT, Nat.reduceLeDiff, Int.reduceLE, Int.reduceLT, reduceCtorEq, zctx, yp, ym, take_map_len, mkBoolS_len, mkIntS_len, mkStepS_len, mkBoolS_take, mkIntS_take, mkStepS_take]
  refine fcW_bool (laws_eqMachine.fcu m om) ?_
  simp only [go_sem, ↓reduceIte, Nat.reduceEqDiff, Nat.reduceAdd, Nat.reduceMul, Nat.reduceBEq, Option.getD_none, Int.reduceToNat, Nat.reduceSub, Nat.reduceLT, Nat.reduceLeDiff, Int.reduceLE, Int.reduceLT, reduceCtorEq, zctx, yp, ym, take_map_len, mkBoolS_len, mkIntS_len, mkStepS_len, mkBoolS_take, mkIntS_take, mkStepS_take]
  refine coW_of (laws_markStepS.fcu p (1) op (by omega) (by omega)) rfl (by simp only [noRsL, noRs_steps, Bool.and_self]) ?_
  have hn1 : ¬ ((1 + ((6 * p.length) : Nat) : Int) < 0) := by omega
  simp only [go_sem, ↓reduceIte, Nat.reduceEqDiff, Nat.reduceAdd, Nat.reduceMul, Nat.reduceBEq, Option.getD_none, Int.reduceToNat, Nat.reduceSub, Nat.reduceLT, Nat.reduceLeDiff, Int.reduceLE, Int.reduceLT, reduceCtorEq, hn1, zctx, yp, ym, take_map_len, mkBoolS_len, mkIntS_len, mkStepS_len, mkBoolS_take, mkIntS_take, mkStepS_take]
  refine coW_of (laws_markIntS.fcu ctx (1 + ((6 * p.length) : Nat)) octx (by omega) (by omega)) rfl (by simp only [noRsL, noRs_ints, Bool.and_self]) ?_
  have hn2 : ¬ ((1 + ((6 * p.length) : Nat) + (ctx.length : Nat) : Int) < 0) := by omega
  simp only [go_sem, ↓reduceIte, Nat.reduceEqDiff, Nat.reduceAdd, Nat.reduceMul, Nat.reduceBEq, Option.getD_none, Int.reduceToNat, Nat.reduceSub, Nat.reduceLT, Nat.reduceLeDiff, Int.reduceLE, Int.reduceLT, reduceCtorEq, hn2, zctx, yp, ym, take_map_len, mkBoolS_len, mkIntS_len, mkStepS_len, mkBoolS_take, mkIntS_take, mkStepS_take]
  have hc3 := cMachine_le m
  refine coW_of (laws_markMachine.fcu m (1 + ((6 * p.length) : Nat) + (ctx.length : Nat)) om (by omega) (by omega)) rfl (by simp only [noRsL, noRs_Machine, Bool.and_self]) ?_
  have hn3 : ¬ ((1 + ((6 * p.length) : Nat) + (ctx.length : Nat) + (cMachine m : Nat) : Int) < 0) := by omega
  simp only [go_sem, ↓reduceIte, Nat.reduceEqDiff, Nat.reduceAdd, Nat.reduceMul, Nat.reduceBEq, Option.getD_none, Int.reduceToNat, Nat.reduceSub, Nat.reduceLT, Nat.reduceLeDiff, Int.reduceLE, Int.reduceLT, reduceCtorEq, hn3, mkMachine, zctx, yp, ym, take_map_len, mkBoolS_len, mkIntS_len, mkStepS_len, mkBoolS_take, mkIntS_take, mkStepS_take]
  refine fcW_bool (laws_eqMachine.fcu R0 o0) ?_
  simp only [go_sem, ↓reduceIte, Nat.reduceEqDiff, Nat.reduceAdd, Nat.reduceMul, Nat.reduceBEq, Option.getD_none, Int.reduceToNat, Nat.reduceSub, Nat.reduceLT, Nat.reduceLeDiff, Int.reduceLE, Int.reduceLT, reduceCtorEq, zctx, yp, ym, take_map_len, mkBoolS_len, mkIntS_len, mkStepS_len, mkBoolS_take, mkIntS_take, mkStepS_take]
  have hc4 := cMachine_le R0
  refine coW_of (laws_markMachine.fcu R0 (1) o0 (by omega) (by omega)) rfl (by simp only [noRsL, noRs_Machine, Bool.and_self]) ?_
  have hn4 : ¬ ((1 + (cMachine R0 : Nat) : Int) < 0) := by omega
  simp only [go_sem, ↓reduceIte, Nat.reduceEqDiff, Nat.reduceAdd, Nat.reduceMul, Nat.reduceBEq, Option.getD_none, Int.reduceToNat, Nat.reduceSub, Nat.reduceLT, Nat.reduceLeDiff, Int.reduceLE, Int.reduceLT, reduceCtorEq, hn4, mkMachine, zctx, yp, ym, take_map_len, mkBoolS_len, mkIntS_len, mkStepS_len, mkBoolS_take, mkIntS_take, mkStepS_take]
  have hc5 := cMachine_le R0
  refine fcW_int (laws_heldMachine.fcu R0 (1) o0 (by omega) (by omega)) ?_
  have hn5 : ¬ ((1 + (cMachine R0 : Nat) : Int) < 0) := by omega
  simp only [go_sem, ↓reduceIte, Nat.reduceEqDiff, Nat.reduceAdd, Nat.reduceMul, Nat.reduceBEq, Option.getD_none, Int.reduceToNat, Nat.reduceSub, Nat.reduceLT, Nat.reduceLeDiff, Int.reduceLE, Int.reduceLT, reduceCtorEq, hn5, mkMachine, zctx, yp, ym, take_map_len, mkBoolS_len, mkIntS_len, mkStepS_len, mkBoolS_take, mkIntS_take, mkStepS_take]
  refine fcW_bd (laws_toStepS.fcu p op) noRs_steps ?_
  simp only [go_sem, ↓reduceIte, Nat.reduceEqDiff, Nat.reduceAdd, Nat.reduceMul, Nat.reduceBEq, Option.getD_none, Int.reduceToNat, Nat.reduceSub, Nat.reduceLT, Nat.reduceLeDiff, Int.reduceLE, Int.reduceLT, reduceCtorEq, zctx, yp, ym, take_map_len, mkBoolS_len, mkIntS_len, mkStepS_len, mkBoolS_take, mkIntS_take, mkStepS_take]
  refine fcW_bd (laws_toIntS.fcu ctx octx) noRs_ints ?_
  simp only [go_sem, ↓reduceIte, Nat.reduceEqDiff, Nat.reduceAdd, Nat.reduceMul, Nat.reduceBEq, Option.getD_none, Int.reduceToNat, Nat.reduceSub, Nat.reduceLT, Nat.reduceLeDiff, Int.reduceLE, Int.reduceLT, reduceCtorEq, zctx, yp, ym, take_map_len, mkBoolS_len, mkIntS_len, mkStepS_len, mkBoolS_take, mkIntS_take, mkStepS_take]
  refine fcW_bd (laws_toMachine.fcu m om) noRs_Machine ?_
  simp only [go_sem, ↓reduceIte, Nat.reduceEqDiff, Nat.reduceAdd, Nat.reduceMul, Nat.reduceBEq, Option.getD_none, Int.reduceToNat, Nat.reduceSub, Nat.reduceLT, Nat.reduceLeDiff, Int.reduceLE, Int.reduceLT, reduceCtorEq, zctx, yp, ym, take_map_len, mkBoolS_len, mkIntS_len, mkStepS_len, mkBoolS_take, mkIntS_take, mkStepS_take]
  refine fcW_bd hi hnr ?_
  simp only [go_sem, ↓reduceIte, Nat.reduceEqDiff, Nat.reduceAdd, Nat.reduceMul, Nat.reduceBEq, Option.getD_none, Int.reduceToNat, Nat.reduceSub, Nat.reduceLT, Nat.reduceLeDiff, Int.reduceLE, Int.reduceLT, reduceCtorEq, zctx, yp, ym, take_map_len, mkBoolS_len, mkIntS_len, mkStepS_len, mkBoolS_take, mkIntS_take, mkStepS_take]
  refine fcW_bool (laws_eqMachine.fcu R0 o0) ?_
  simp only [go_sem, ↓reduceIte, Nat.reduceEqDiff, Nat.reduceAdd, Nat.reduceMul, Nat.reduceBEq, Option.getD_none, Int.reduceToNat, Nat.reduceSub, Nat.reduceLT, Nat.reduceLeDiff, Int.reduceLE, Int.reduceLT, reduceCtorEq, zctx, yp, ym, take_map_len, mkBoolS_len, mkIntS_len, mkStepS_len, mkBoolS_take, mkIntS_take, mkStepS_take]
  have hc6 := cMachine_le R0
  refine fcW_int (laws_heldMachine.fcu R0 (1) o0 (by omega) (by omega)) ?_
  have hn6 : ¬ ((1 + (cMachine R0 : Nat) : Int) < 0) := by omega
  simp only [go_sem, ↓reduceIte, Nat.reduceEqDiff, Nat.reduceAdd, Nat.reduceMul, Nat.reduceBEq, Option.getD_none, Int.reduceToNat, Nat.reduceSub, Nat.reduceLT, Nat.reduceLeDiff, Int.reduceLE, Int.reduceLT, reduceCtorEq, hn6, mkMachine, zctx, yp, ym, take_map_len, mkBoolS_len, mkIntS_len, mkStepS_len, mkBoolS_take, mkIntS_take, mkStepS_take]
end Go.Vm.Ytmicgdfekpoajaa
namespace Go.Proofs.Ytmicgdfekpoajaa
open Go Go.Vm
theorem doStep_own : ownKnob Try.prog.godebug = none := by kernel_rfl
theorem doStep_laid : laidOutB Try.prog = true := by kernel_rfl
set_option maxRecDepth 100000 in
theorem doStep_lifted (os : Os) (started : os.Started) (H : Type) (enc : TypeId × Value → H) :
    ReturnsInHanded {} Try.checked os 10 .any (Rows.fnExactDoStepSpec.pre6 enc Try.prog Try.f10 Rows.fnExactDoStepRow.domain false) (Rows.fnExactDoStepSpec.post enc Try.prog Try.f10 false true false false) := by
  refine returnsInHanded_of_change_sized (C := Try.checked) doStep_own started (by kernel_rfl) Try.func10
    (ChangeSpec.witness6 (enc := enc) (C := Try.checked) false ⟨#[], #[.slice none 0 0, .slice none 0 0, .agg #[.int .i64 0, .slice none 0 0, .slice none 0 0, .slice none 0 0]], []⟩ 8 (by kernel_rfl) (by kernel_rfl) (by kernel_rfl) (by kernel_rfl)) ?_
  intro W base args ds gs before hval hW _ _ _
  refine law_contract (C := Try.checked) (f := 10) [.sl Vm.Ytmicgdfekpoajaa.TyStep, .sl (.int .i64), Vm.Ytmicgdfekpoajaa.TyMachine] (rt := 4) rfl (by kernel_rfl) rfl (by kernel_rfl) doStep_laid (fun H ds h => ?_) (fun ds h => ?_) hval hW
  · match ds, h with
    | [_, _, _], _ => rfl
  · simp only [HasTys] at h
    obtain ⟨d1, ds1, rfl, h1, d2, ds2, rfl, h2, d3, ds3, rfl, h3, rfl⟩ := h
    obtain ⟨p, rfl, wp⟩ := Vm.Ytmicgdfekpoajaa.hasStepS h1
    obtain ⟨ctx, rfl, wctx⟩ := Vm.Ytmicgdfekpoajaa.hasIntS h2
    obtain ⟨m, rfl, wm⟩ := Vm.Ytmicgdfekpoajaa.hasMachine h3
    exact Vm.Ytmicgdfekpoajaa.laws_FnExactDoStep.fc p ctx m wp wctx wm
theorem doStep_over : Rows.fnExactDoStepRow.holds Try.pinned (OpenSpec.ofChange Rows.fnExactDoStepSpec) :=
  OpenClaim.holds_of_wide 10 Try.f10 rfl rfl rfl rfl rfl rfl rfl ⟨rfl, rfl, rfl, rfl, rfl⟩ rfl rfl rfl rfl rfl (by kernel_rfl) Try.func10 (by kernel_rfl)
    (of_decide_eq_true (by kernel_rfl)) (by unfold Func.isWrapper; first | (rw [if_pos (by decide +kernel)]; kernel_rfl) | (rw [if_neg (by decide +kernel)]; exact ⟨rfl, rfl⟩))
    (fun os started H enc _ => doStep_lifted os started H enc)
/-- The law FnExactDoStep holds as given. -/
theorem doStep_holds : Rows.FnExactDoStepSaid := doStep_over
#print axioms doStep_holds
end Go.Proofs.Ytmicgdfekpoajaa
