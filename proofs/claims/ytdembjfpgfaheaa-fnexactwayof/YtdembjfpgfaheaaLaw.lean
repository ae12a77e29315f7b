/- The law FnExactWayOf returns true at all arguments (no condition); its row. -/
import Derived.Test.YtdembjfpgfaheaaWka
import Derived.Test.YtdembjfpgfaheaaRows
namespace Go.Vm.Ytdembjfpgfaheaa
open Go Go.Vm
set_option maxRecDepth 10000
set_option maxHeartbeats 4000000
set_option linter.unusedSimpArgs false
set_option linter.unusedVariables false

theorem laws_FnExactWayOf.fc (p : List StepD) (ctx : List Int) (wp : p.length ≤ 9223372036854775807) (wctx : ctx.length ≤ 9223372036854775807) :
    FCt prog F_laws_FnExactWayOf [.ro, .ro] [steps p, ints ctx] (Bb true) [] := by
  refine fct_run laws_FnExactWayOf.ok rfl ?_
  simp only [go_sem, ↓reduceIte, Nat.reduceEqDiff, Nat.reduceAdd, Nat.reduceMul, Nat.reduceBEq, Option.getD_none, Int.reduceToNat, Nat.reduceSub, Nat.reduceLT, Nat.reduceLeDiff, Int.reduceLE, Int.reduceLT, reduceCtorEq]
  by_cases zctx : (ctx.length : Int) > 1048576
  · simp only [go_sem, ↓reduceIte, Nat.reduceEqDiff, Nat.reduceAdd, Nat.reduceMul, Nat.reduceBEq, Option.getD_none, Int.reduceToNat, Nat.reduceSub, Nat.reduceLT, Nat.reduceLeDiff, Int.reduceLE, Int.reduceLT, reduceCtorEq, zctx]
  have octx : ctx.length ≤ 1048576 := by omega
  simp only [go_sem, ↓reduceIte, Nat.reduceEqDiff, Nat.reduceAdd, Nat.reduceMul, Nat.reduceBEq, Option.getD_none, Int.reduceToNat, Nat.reduceSub, Nat.reduceLT, Nat.reduceLeDiff, Int.reduceLE, Int.reduceLT, reduceCtorEq, zctx]
  refine fcW_int (laws_szStepS.fcu p _ (by omega) wp) ?_
  by_cases zp : (1048576 : Int) < (p.length : Nat)
  · rw [if_pos zp]; simp only [go_sem, ↓reduceIte, Nat.reduceEqDiff, Nat.reduceAdd, Nat.reduceMul, Nat.reduceBEq, Option.getD_none, Int.reduceToNat, Nat.reduceSub, Nat.reduceLT, Nat.reduceLeDiff, Int.reduceLE, Int.reduceLT, reduceCtorEq, zctx]
  have op : p.length ≤ 1048576 := by omega
  rw [if_neg zp]
  have yp : ¬ ((1048576 : Int) - (p.length : Nat) < 0) := by omega
  simp only [go_sem, ↓reduceIte, Nat.reduceEqDiff, Nat.reduceAdd, Nat.reduceMul, Nat.reduceBEq, Option.getD_none, Int.reduceToNat, Nat.reduceSub, Nat.reduceLT, Nat.reduceLeDiff, Int.reduceLE, Int.reduceLT, reduceCtorEq, zctx, yp]
  have hs := spec_WayOf.fc p ctx (by omega) (by omega)
  have hi := impl_WayOf.fc p ctx (by omega) (by omega)
  have o0 := wayV_w p ctx
  generalize wayV p ctx = R at hs hi o0
  obtain ⟨R0, R1⟩ := R
  dsimp only at hs hi o0
  have hnr : noRs (.tup [WayD.d R0, Bb R1]) = true := noRs_t2 noRs_Way rfl
  refine fcW_bd (laws_toStepS.fcu p op) noRs_steps ?_
  simp only [go_sem, ↓reduceIte, Nat.reduceEqDiff, Nat.reduceAdd, Nat.reduceMul, Nat.reduceBEq, Option.getD_none, Int.reduceToNat, Nat.reduceSub, Nat.reduceLT, Nat.reduceLeDiff, Int.reduceLE, Int.reduceLT, reduceCtorEq, zctx, yp, take_map_len, mkBoolS_len, mkIntS_len, mkStepS_len, mkBoolS_take, mkIntS_take, mkStepS_take]
  refine fcW_bd (laws_toIntS.fcu ctx octx) noRs_ints ?_
  simp only [go_sem, ↓reduceIte, Nat.reduceEqDiff, Nat.reduceAdd, Nat.reduceMul, Nat.reduceBEq, Option.getD_none, Int.reduceToNat, Nat.reduceSub, Nat.reduceLT, Nat.reduceLeDiff, Int.reduceLE, Int.reduceLT, reduceCtorEq, zctx, yp, take_map_len, mkBoolS_len, mkIntS_len, mkStepS_len, mkBoolS_take, mkIntS_take, mkStepS_take]
  refine fcW_bd hs hnr ?_
  simp only [go_sem, ↓reduceIte, Nat.reduceEqDiff, Nat.reduceAdd, Nat.reduceMul, Nat.reduceBEq, Option.getD_none, Int.reduceToNat, Nat.reduceSub, Nat.reduceLT, Nat.reduceLeDiff, Int.reduceLE, Int.reduceLT, reduceCtorEq, zctx, yp, take_map_len, mkBoolS_len, mkIntS_len, mkStepS_len, mkBoolS_take, mkIntS_take, mkStepS_take]
  refine fcW_bd (laws_toStepS.fcu p op) noRs_steps ?_
  simp only [go_sem, ↓reduceIte, Nat.reduceEqDiff, Nat.reduceAdd, Nat.reduceMul, Nat.reduceBEq, Option.getD_none, Int.reduceToNat, Nat.reduceSub, Nat.reduceLT, Nat.reduceLeDiff, Int.reduceLE, Int.reduceLT, reduceCtorEq, zctx, yp, take_map_len, mkBoolS_len, mkIntS_len, mkStepS_len, mkBoolS_take, mkIntS_take, mkStepS_take]
  refine fcW_bd (laws_toIntS.fcu ctx octx) noRs_ints ?_
  simp only [go_sem, ↓reduceIte, Nat.reduceEqDiff, Nat.reduceAdd, Nat.reduceMul, Nat.reduceBEq, Option.getD_none, Int.reduceToNat, Nat.reduceSub, Nat.reduceLT, Nat.reduceLeDiff, Int.reduceLE, Int.reduceLT, reduceCtorEq, zctx, yp, take_map_len, mkBoolS_len, mkIntS_len, mkStepS_len, mkBoolS_take, mkIntS_take, mkStepS_take]
  refine fcW_bd hi hnr ?_
  simp only [go_sem, ↓reduceIte, Nat.reduceEqDiff, Nat.reduceAdd, Nat.reduceMul, Nat.reduceBEq, Option.getD_none, Int.reduceToNat, Nat.reduceSub, Nat.reduceLT, Nat.reduceLeDiff, Int.reduceLE, Int.reduceLT, reduceCtorEq, zctx, yp, take_map_len, mkBoolS_len, mkIntS_len, mkStepS_len, mkBoolS_take, mkIntS_take, mkStepS_take]
  refine fcW_bool (laws_eqWay.fcu R0 o0) ?_
  simp only [go_sem, ↓reduceIte, Nat.reduceEqDiff, Nat.reduceAdd, Nat.reduceMul, Nat.reduceBEq, Option.getD_none, Int.reduceToNat, Nat.reduceSub, Nat.reduceLT, Nat.reduceLeDiff, Int.reduceLE, Int.reduceLT, reduceCtorEq, zctx, yp, take_map_len, mkBoolS_len, mkIntS_len, mkStepS_len, mkBoolS_take, mkIntS_take, mkStepS_take]
  refine fcW_bd (laws_toStepS.fcu p op) noRs_steps ?_
  simp only [go_sem, ↓reduceIte, Nat.reduceEqDiff, Nat.reduceAdd, Nat.reduceMul, Nat.reduceBEq, Option.getD_none, Int.reduceToNat, Nat.reduceSub, Nat.reduceLT, Nat.reduceLeDiff, Int.reduceLE, Int.reduceLT, reduceCtorEq, zctx, yp, take_map_len, mkBoolS_len, mkIntS_len, mkStepS_len, mkBoolS_take, mkIntS_take, mkStepS_take]
  refine fcW_bool (laws_eqStepS.fcu p op) ?_
  simp only [go_sem, ↓reduceIte, Nat.reduceEqDiff, Nat.reduceAdd, Nat.reduceMul, Nat.reduceBEq, Option.getD_none, Int.reduceToNat, Nat.reduceSub, Nat.reduceLT, Nat.reduceLeDiff, Int.reduceLE, Int.reduceLT, reduceCtorEq, zctx, yp, take_map_len, mkBoolS_len, mkIntS_len, mkStepS_len, mkBoolS_take, mkIntS_take, mkStepS_take]
  refine fcW_bd (laws_toIntS.fcu ctx octx) noRs_ints ?_
  simp only [go_sem, ↓reduceIte, Nat.reduceEqDiff, Nat.reduceAdd, Nat.reduceMul, Nat.reduceBEq, Option.getD_none, Int.reduceToNat, Nat.reduceSub, Nat.reduceLT, Nat.reduceLeDiff, Int.reduceLE, Int.reduceLT, reduceCtorEq, zctx, yp, take_map_len, mkBoolS_len, mkIntS_len, mkStepS_len, mkBoolS_take, mkIntS_take, mkStepS_take]
  refine fcW_bool (laws_eqIntS.fcu ctx octx) ?_
  simp only [go_sem, ↓reduceIte, Nat.reduceEqDiff, Nat.reduceAdd, Nat.reduceMul, Nat.reduceBEq, Option.getD_none, Int.reduceToNat, Nat.reduceSub, Nat.reduceLT, Nat.reduceLeDiff, Int.reduceLE, Int.reduceLT, reduceCtorEq, zctx, yp, take_map_len, mkBoolS_len, mkIntS_len, mkStepS_len, mkBoolS_take, mkIntS_take, mkStepS_take]
  refine coW_of (laws_markStepS.fcu p (1) op (by omega) (by omega)) rfl (by simp only [noRsL, noRs_steps, Bool.and_self]) ?_
  have hn1 : ¬ ((1 + ((6 * p.length) : Nat) : Int) < 0) := by omega
  simp only [go_sem, ↓reduceIte, Nat.reduceEqDiff, Nat.reduceAdd, Nat.reduceMul, Nat.reduceBEq, Option.getD_none, Int.reduceToNat, Nat.reduceSub, Nat.reduceLT, Nat.reduceLeDiff, Int.reduceLE, Int.reduceLT, reduceCtorEq, hn1, zctx, yp, take_map_len, mkBoolS_len, mkIntS_len, mkStepS_len, mkBoolS_take, mkIntS_take, mkStepS_take]
  refine coW_of (laws_markIntS.fcu ctx (1 + ((6 * p.length) : Nat)) octx (by omega) (by omega)) rfl (by simp only [noRsL, noRs_ints, Bool.and_self]) ?_
  have hn2 : ¬ ((1 + ((6 * p.length) : Nat) + (ctx.length : Nat) : Int) < 0) := by omega
  simp only [go_sem, ↓reduceIte, Nat.reduceEqDiff, Nat.reduceAdd, Nat.reduceMul, Nat.reduceBEq, Option.getD_none, Int.reduceToNat, Nat.reduceSub, Nat.reduceLT, Nat.reduceLeDiff, Int.reduceLE, Int.reduceLT, reduceCtorEq, hn2, zctx, yp, take_map_len, mkBoolS_len, mkIntS_len, mkStepS_len, mkBoolS_take, mkIntS_take, mkStepS_take]
  refine fcW_bool (laws_eqWay.fcu R0 o0) ?_
  simp only [go_sem, ↓reduceIte, Nat.reduceEqDiff, Nat.reduceAdd, Nat.reduceMul, Nat.reduceBEq, Option.getD_none, Int.reduceToNat, Nat.reduceSub, Nat.reduceLT, Nat.reduceLeDiff, Int.reduceLE, Int.reduceLT, reduceCtorEq, zctx, yp, take_map_len, mkBoolS_len, mkIntS_len, mkStepS_len, mkBoolS_take, mkIntS_take, mkStepS_take]
  have hc3 := cWay_le R0
  refine coW_of (laws_markWay.fcu R0 (1) o0 (by omega) (by omega)) rfl (by simp only [noRsL, noRs_Way, Bool.and_self]) ?_
  have hn3 : ¬ ((1 + (cWay R0 : Nat) : Int) < 0) := by omega
  simp only [go_sem, ↓reduceIte, Nat.reduceEqDiff, Nat.reduceAdd, Nat.reduceMul, Nat.reduceBEq, Option.getD_none, Int.reduceToNat, Nat.reduceSub, Nat.reduceLT, Nat.reduceLeDiff, Int.reduceLE, Int.reduceLT, reduceCtorEq, hn3, mkWay, zctx, yp, take_map_len, mkBoolS_len, mkIntS_len, mkStepS_len, mkBoolS_take, mkIntS_take, mkStepS_take]
  have hc4 := cWay_le R0
  refine fcW_int (laws_heldWay.fcu R0 (1) o0 (by omega) (by omega)) ?_
  have hn4 : ¬ ((1 + (cWay R0 : Nat) : Int) < 0) := by omega
  simp only [go_sem, ↓reduceIte, Nat.reduceEqDiff, Nat.reduceAdd, Nat.reduceMul, Nat.reduceBEq, Option.getD_none, Int.reduceToNat, Nat.reduceSub, Nat.reduceLT, Nat.reduceLeDiff, Int.reduceLE, Int.reduceLT, reduceCtorEq, hn4, mkWay, zctx, yp, take_map_len, mkBoolS_len, mkIntS_len, mkStepS_len, mkBoolS_take, mkIntS_take, mkStepS_take]
  refine fcW_bd (laws_toStepS.fcu p op) noRs_steps ?_
  simp only [go_sem, ↓reduceIte, Nat.reduceEqDiff, Nat.reduceAdd, Nat.reduceMul, Nat.reduceBEq, Option.getD_none, Int.reduceToNat, Nat.reduceSub, Nat.reduceLT, Nat.reduceLeDiff, Int.reduceLE, Int.reduceLT, reduceCtorEq, zctx, yp, take_map_len, mkBoolS_len, mkIntS_len, mkStepS_len, mkBoolS_take, mkIntS_take, mkStepS_take]
  refine fcW_bd (laws_toIntS.fcu ctx octx) noRs_ints ?_
  simp only [go_sem, ↓reduceIte, Nat.reduceEqDiff, Nat.reduceAdd, Nat.reduceMul, Nat.reduceBEq, Option.getD_none, Int.reduceToNat, Nat.reduceSub, Nat.reduceLT, Nat.reduceLeDiff, Int.reduceLE, Int.reduceLT, reduceCtorEq, zctx, yp, take_map_len, mkBoolS_len, mkIntS_len, mkStepS_len, mkBoolS_take, mkIntS_take, mkStepS_take]
  refine fcW_bd hi hnr ?_
  simp only [go_sem, ↓reduceIte, Nat.reduceEqDiff, Nat.reduceAdd, Nat.reduceMul, Nat.reduceBEq, Option.getD_none, Int.reduceToNat, Nat.reduceSub, Nat.reduceLT, Nat.reduceLeDiff, Int.reduceLE, Int.reduceLT, reduceCtorEq, zctx, yp, take_map_len, mkBoolS_len, mkIntS_len, mkStepS_len, mkBoolS_take, mkIntS_take, mkStepS_take]
  refine fcW_bool (laws_eqWay.fcu R0 o0) ?_
  simp only [go_sem, ↓reduceIte, Nat.reduceEqDiff, Nat.reduceAdd, Nat.reduceMul, Nat.reduceBEq, Option.getD_none, Int.reduceToNat, Nat.reduceSub, Nat.reduceLT, Nat.reduceLeDiff, Int.reduceLE, Int.reduceLT, reduceCtorEq, zctx, yp, take_map_len, mkBoolS_len, mkIntS_len, mkStepS_len, mkBoolS_take, mkIntS_take, mkStepS_take]
  have hc5 := cWay_le R0
  refine fcW_int (laws_heldWay.fcu R0 (1) o0 (by omega) (by omega)) ?_
  have hn5 : ¬ ((1 + (cWay R0 : Nat) : Int) < 0) := by omega
  simp only [go_sem, ↓reduceIte, Nat.reduceEqDiff, Nat.reduceAdd, Nat.reduceMul, Nat.reduceBEq, Option.getD_none, Int.reduceToNat, Nat.reduceSub, Nat.reduceLT, Nat.reduceLeDiff, Int.reduceLE, Int.reduceLT, reduceCtorEq, hn5, mkWay, zctx, yp, take_map_len, mkBoolS_len, mkIntS_len, mkStepS_len, mkBoolS_take, mkIntS_take, mkStepS_take]
end Go.Vm.Ytdembjfpgfaheaa
namespace Go.Proofs.Ytdembjfpgfaheaa
open Go Go.Vm
theorem wayOf_own : ownKnob Try.prog.godebug = none := by kernel_rfl
theorem wayOf_laid : laidOutB Try.prog = true := by kernel_rfl
set_option maxRecDepth 100000 in
theorem wayOf_lifted (os : Os) (started : os.Started) (H : Type) (enc : TypeId × Value → H) :
    ReturnsInHanded {} Try.checked os 7 .any (Rows.fnExactWayOfSpec.pre6 enc Try.prog Try.f7 Rows.fnExactWayOfRow.domain false) (Rows.fnExactWayOfSpec.post enc Try.prog Try.f7 false true false false) := by
  refine returnsInHanded_of_change_sized (C := Try.checked) wayOf_own started (by kernel_rfl) Try.func7
    (ChangeSpec.witness6 (enc := enc) (C := Try.checked) false ⟨#[], #[.slice none 0 0, .slice none 0 0], []⟩ 8 (by kernel_rfl) (by kernel_rfl) (by kernel_rfl) (by kernel_rfl)) ?_
  intro W base args ds gs before hval hW _ _ _
  refine law_contract (C := Try.checked) (f := 7) [.sl Vm.Ytdembjfpgfaheaa.TyStep, .sl (.int .i64)] (rt := 4) rfl (by kernel_rfl) rfl (by kernel_rfl) wayOf_laid (fun H ds h => ?_) (fun ds h => ?_) hval hW
  · match ds, h with
    | [_, _], _ => rfl
  · simp only [HasTys] at h
    obtain ⟨d1, ds1, rfl, h1, d2, ds2, rfl, h2, rfl⟩ := h
    obtain ⟨p, rfl, wp⟩ := Vm.Ytdembjfpgfaheaa.hasStepS h1
    obtain ⟨ctx, rfl, wctx⟩ := Vm.Ytdembjfpgfaheaa.hasIntS h2
    exact Vm.Ytdembjfpgfaheaa.laws_FnExactWayOf.fc p ctx wp wctx
theorem wayOf_over : Rows.fnExactWayOfRow.holds Try.pinned (OpenSpec.ofChange Rows.fnExactWayOfSpec) :=
  OpenClaim.holds_of_wide 7 Try.f7 rfl rfl rfl rfl rfl rfl rfl ⟨rfl, rfl, rfl, rfl, rfl⟩ rfl rfl rfl rfl rfl (by kernel_rfl) Try.func7 (by kernel_rfl)
    (of_decide_eq_true (by kernel_rfl)) (by unfold Func.isWrapper; first | (rw [if_pos (by decide +kernel)]; kernel_rfl) | (rw [if_neg (by decide +kernel)]; exact ⟨rfl, rfl⟩))
    (fun os started H enc _ => wayOf_lifted os started H enc)
/-- The law FnExactWayOf holds as given. -/
theorem wayOf_holds : Rows.FnExactWayOfSaid := wayOf_over
#print axioms wayOf_holds
end Go.Proofs.Ytdembjfpgfaheaa
