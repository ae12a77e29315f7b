/- The law FnExactTurnsIn returns true at all arguments (no condition); its row. -/
import Derived.Test.YtdembjfpgfaheaaWka
import Derived.Test.YtdembjfpgfaheaaRows
namespace Go.Vm.Ytdembjfpgfaheaa
open Go Go.Vm
set_option maxRecDepth 10000
set_option maxHeartbeats 4000000
set_option linter.unusedSimpArgs false
set_option linter.unusedVariables false

theorem laws_FnExactTurnsIn.fc (p : List StepD) (w : WayD) (wp : p.length ≤ 9223372036854775807) (ww : wfWay w) :
    FCt prog F_laws_FnExactTurnsIn [.ro, .ro] [steps p, WayD.d w] (Bb true) [] := by
  refine fct_run laws_FnExactTurnsIn.ok rfl ?_
  simp only [go_sem, ↓reduceIte, Nat.reduceEqDiff, Nat.reduceAdd, Nat.reduceMul, Nat.reduceBEq, Option.getD_none, Int.reduceToNat, Nat.reduceSub, Nat.reduceLT, Nat.reduceLeDiff, Int.reduceLE, Int.reduceLT, reduceCtorEq]
  refine fcW_int (laws_szStepS.fcu p _ (by omega) wp) ?_
  by_cases zp : (1048576 : Int) < (p.length : Nat)
  · rw [if_pos zp]; simp only [go_sem, ↓reduceIte, Nat.reduceEqDiff, Nat.reduceAdd, Nat.reduceMul, Nat.reduceBEq, Option.getD_none, Int.reduceToNat, Nat.reduceSub, Nat.reduceLT, Nat.reduceLeDiff, Int.reduceLE, Int.reduceLT, reduceCtorEq]
  have op : p.length ≤ 1048576 := by omega
  rw [if_neg zp]
  have yp : ¬ ((1048576 : Int) - (p.length : Nat) < 0) := by omega
  simp only [go_sem, ↓reduceIte, Nat.reduceEqDiff, Nat.reduceAdd, Nat.reduceMul, Nat.reduceBEq, Option.getD_none, Int.reduceToNat, Nat.reduceSub, Nat.reduceLT, Nat.reduceLeDiff, Int.reduceLE, Int.reduceLT, reduceCtorEq, yp]
  refine fcW_int (laws_szWay.fcu w _ (by omega) ww) ?_
  by_cases zw : (1048576 : Int) - (p.length : Nat) < (wWay w : Nat)
  · rw [if_pos zw]; simp only [go_sem, ↓reduceIte, Nat.reduceEqDiff, Nat.reduceAdd, Nat.reduceMul, Nat.reduceBEq, Option.getD_none, Int.reduceToNat, Nat.reduceSub, Nat.reduceLT, Nat.reduceLeDiff, Int.reduceLE, Int.reduceLT, reduceCtorEq, yp]
  have ow : wWay w ≤ 1048576 := by omega
  rw [if_neg zw]
  have yw : ¬ ((1048576 : Int) - (p.length : Nat) - (wWay w : Nat) < 0) := by omega
  simp only [go_sem, ↓reduceIte, Nat.reduceEqDiff, Nat.reduceAdd, Nat.reduceMul, Nat.reduceBEq, Option.getD_none, Int.reduceToNat, Nat.reduceSub, Nat.reduceLT, Nat.reduceLeDiff, Int.reduceLE, Int.reduceLT, reduceCtorEq, yp, yw]
  have hs := spec_TurnsIn.fc p w (by omega) (by omega)
  have hi := impl_TurnsIn.fc p w (by omega) (by omega)
  generalize turnsIn p w = R0 at hs hi
  generalize goodW p w = R1 at hs hi
  have hnr : noRs (.tup [Ii R0, Bb R1]) = true := rfl
  refine fcW_bd (laws_toStepS.fcu p op) noRs_steps ?_
  simp only [go_sem, ↓reduceIte, Nat.reduceEqDiff, Nat.reduceAdd, Nat.reduceMul, Nat.reduceBEq, Option.getD_none, Int.reduceToNat, Nat.reduceSub, Nat.reduceLT, Nat.reduceLeDiff, Int.reduceLE, Int.reduceLT, reduceCtorEq, yp, yw, take_map_len]
  refine fcW_bd (laws_toWay.fcu w ow) noRs_Way ?_
  simp only [go_sem, ↓reduceIte, Nat.reduceEqDiff, Nat.reduceAdd, Nat.reduceMul, Nat.reduceBEq, Option.getD_none, Int.reduceToNat, Nat.reduceSub, Nat.reduceLT, Nat.reduceLeDiff, Int.reduceLE, Int.reduceLT, reduceCtorEq, yp, yw, take_map_len]
  refine fcW_bd hs hnr ?_
  simp only [go_sem, ↓reduceIte, Nat.reduceEqDiff, Nat.reduceAdd, Nat.reduceMul, Nat.reduceBEq, Option.getD_none, Int.reduceToNat, Nat.reduceSub, Nat.reduceLT, Nat.reduceLeDiff, Int.reduceLE, Int.reduceLT, reduceCtorEq, yp, yw, take_map_len]
  refine fcW_bd (laws_toStepS.fcu p op) noRs_steps ?_
  simp only [go_sem, ↓reduceIte, Nat.reduceEqDiff, Nat.reduceAdd, Nat.reduceMul, Nat.reduceBEq, Option.getD_none, Int.reduceToNat, Nat.reduceSub, Nat.reduceLT, Nat.reduceLeDiff, Int.reduceLE, Int.reduceLT, reduceCtorEq, yp, yw, take_map_len]
  refine fcW_bd (laws_toWay.fcu w ow) noRs_Way ?_
  simp only [go_sem, ↓reduceIte, Nat.reduceEqDiff, Nat.reduceAdd, Nat.reduceMul, Nat.reduceBEq, Option.getD_none, Int.reduceToNat, Nat.reduceSub, Nat.reduceLT, Nat.reduceLeDiff, Int.reduceLE, Int.reduceLT, reduceCtorEq, yp, yw, take_map_len]
  refine fcW_bd hi hnr ?_
  simp only [go_sem, ↓reduceIte, Nat.reduceEqDiff, Nat.reduceAdd, Nat.reduceMul, Nat.reduceBEq, Option.getD_none, Int.reduceToNat, Nat.reduceSub, Nat.reduceLT, Nat.reduceLeDiff, Int.reduceLE, Int.reduceLT, reduceCtorEq, yp, yw, take_map_len]
  refine fcW_bd (laws_toStepS.fcu p op) noRs_steps ?_
  simp only [go_sem, ↓reduceIte, Nat.reduceEqDiff, Nat.reduceAdd, Nat.reduceMul, Nat.reduceBEq, Option.getD_none, Int.reduceToNat, Nat.reduceSub, Nat.reduceLT, Nat.reduceLeDiff, Int.reduceLE, Int.reduceLT, reduceCtorEq, yp, yw, take_map_len]
  refine fcW_bool (laws_eqStepS.fcu p op) ?_
  simp only [go_sem, ↓reduceIte, Nat.reduceEqDiff, Nat.reduceAdd, Nat.reduceMul, Nat.reduceBEq, Option.getD_none, Int.reduceToNat, Nat.reduceSub, Nat.reduceLT, Nat.reduceLeDiff, Int.reduceLE, Int.reduceLT, reduceCtorEq, yp, yw, take_map_len]
  refine fcW_bd (laws_toWay.fcu w ow) noRs_Way ?_
  simp only [go_sem, ↓reduceIte, Nat.reduceEqDiff, Nat.reduceAdd, Nat.reduceMul, Nat.reduceBEq, Option.getD_none, Int.reduceToNat, Nat.reduceSub, Nat.reduceLT, Nat.reduceLeDiff, Int.reduceLE, Int.reduceLT, reduceCtorEq, yp, yw, take_map_len]
  refine fcW_bool (laws_eqWay.fcu w ow) ?_
  simp only [go_sem, ↓reduceIte, Nat.reduceEqDiff, Nat.reduceAdd, Nat.reduceMul, Nat.reduceBEq, Option.getD_none, Int.reduceToNat, Nat.reduceSub, Nat.reduceLT, Nat.reduceLeDiff, Int.reduceLE, Int.reduceLT, reduceCtorEq, yp, yw, take_map_len]
end Go.Vm.Ytdembjfpgfaheaa
namespace Go.Proofs.Ytdembjfpgfaheaa
open Go Go.Vm
theorem turnsIn_own : ownKnob Try.prog.godebug = none := by kernel_rfl
theorem turnsIn_laid : laidOutB Try.prog = true := by kernel_rfl
set_option maxRecDepth 100000 in
theorem turnsIn_lifted (os : Os) (started : os.Started) (H : Type) (enc : TypeId × Value → H) :
    ReturnsInHanded {} Try.checked os 4 .any (Rows.fnExactTurnsInSpec.pre6 enc Try.prog Try.f4 Rows.fnExactTurnsInRow.domain false) (Rows.fnExactTurnsInSpec.post enc Try.prog Try.f4 false true false false) := by
  refine returnsInHanded_of_change_sized (C := Try.checked) turnsIn_own started (by kernel_rfl) Try.func4
    (ChangeSpec.witness6 (enc := enc) (C := Try.checked) false ⟨#[], #[.slice none 0 0, .agg #[.slice none 0 0, .slice none 0 0]], []⟩ 8 (by kernel_rfl) (by kernel_rfl) (by kernel_rfl) (by kernel_rfl)) ?_
  intro W base args ds gs before hval hW _ _ _
  refine law_contract (C := Try.checked) (f := 4) [.sl Vm.Ytdembjfpgfaheaa.TyStep, Vm.Ytdembjfpgfaheaa.TyWay] (rt := 4) rfl (by kernel_rfl) rfl (by kernel_rfl) turnsIn_laid (fun H ds h => ?_) (fun ds h => ?_) hval hW
  · match ds, h with
    | [_, _], _ => rfl
  · simp only [HasTys] at h
    obtain ⟨d1, ds1, rfl, h1, d2, ds2, rfl, h2, rfl⟩ := h
    obtain ⟨p, rfl, wp⟩ := Vm.Ytdembjfpgfaheaa.hasStepS h1
    obtain ⟨w, rfl, ww⟩ := Vm.Ytdembjfpgfaheaa.hasWay h2
    exact Vm.Ytdembjfpgfaheaa.laws_FnExactTurnsIn.fc p w wp ww
theorem turnsIn_over : Rows.fnExactTurnsInRow.holds Try.pinned (OpenSpec.ofChange Rows.fnExactTurnsInSpec) :=
  OpenClaim.holds_of_wide 4 Try.f4 rfl rfl rfl rfl rfl rfl rfl ⟨rfl, rfl, rfl, rfl, rfl⟩ rfl rfl rfl rfl rfl (by kernel_rfl) Try.func4 (by kernel_rfl)
    (of_decide_eq_true (by kernel_rfl)) (by unfold Func.isWrapper; first | (rw [if_pos (by decide +kernel)]; kernel_rfl) | (rw [if_neg (by decide +kernel)]; exact ⟨rfl, rfl⟩))
    (fun os started H enc _ => turnsIn_lifted os started H enc)
/-- The law FnExactTurnsIn holds as given. -/
theorem turnsIn_holds : Rows.FnExactTurnsInSaid := turnsIn_over
#print axioms turnsIn_holds
end Go.Proofs.Ytdembjfpgfaheaa
