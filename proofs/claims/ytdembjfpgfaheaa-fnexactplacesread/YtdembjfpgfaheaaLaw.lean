/- The law FnExactPlacesRead returns true at all arguments (no condition); its row. -/
import Derived.Test.YtdembjfpgfaheaaWka
import Derived.Test.YtdembjfpgfaheaaRows
namespace Go.Vm.Ytdembjfpgfaheaa
open Go Go.Vm
set_option maxRecDepth 10000
set_option maxHeartbeats 4000000
set_option linter.unusedSimpArgs false
set_option linter.unusedVariables false

theorem placesV_w (p : List StepD) (w : WayD) (h : wWay w ≤ 1048576) : (placesV p w).1.length ≤ 1048576 := by
  unfold placesV
  split
  · have h1 := setL_len (rdL p w.steps)
    have h2 := rdL_len p w.steps
    have h3 : w.steps.length + w.turns.length ≤ 1048576 := h
    dsimp only
    omega
  · simp
theorem laws_FnExactPlacesRead.fc (p : List StepD) (w : WayD) (wp : p.length ≤ 9223372036854775807) (ww : wfWay w) :
    FCt prog F_laws_FnExactPlacesRead [.ro, .ro] [steps p, WayD.d w] (Bb true) [] := by
  refine fct_run laws_FnExactPlacesRead.ok rfl ?_
  simp only [go_sem, ↓reduceIte, Nat.reduceEqDiff, Nat.reduceAdd, Nat.reduceMul, Nat.reduceBEq, Option.getD_none, Int.reduceToNat, Nat.reduceSub, Nat.reduceLT, Nat.reduceLeDiff, Int.reduceLE, Int.reduceLT, reduceCtorEq]
  refine fcW_int (laws_szStepS.fcu p _ (by omega) wp) ?_
  by_cases zp : (1048576 : Int) < (p.length : Nat)
  · rw [if_pos zp]; simp only [go_sem, ↓reduceIte, Nat.reduceEqDiff, Nat.reduceAdd, Nat.reduceMul, Nat.reduceBEq, Option.getD_none, Int.reduceToNat, Nat.reduceSub, Nat.reduceLT, Nat.reduceLeDiff, Int.reduceLE, Int.reduceLT, reduceCtorEq]
  have op : p.length ≤ 1048576 := by omega
  rw [if_neg zp]
  have yp : ¬ ((1048576 : Int) - (p.length : Nat) < 0) := by omega
  simp only [go_sem, ↓reduceIte, Nat.reduceEqDiff, Nat.reduceAdd, Nat.reduceMul, Nat.reduceBEq, Option.getD_none, Int.reduceToNat, Nat.reduceSub, Nat.reduceLT, Nat.reduceLeDiff, Int.reduceLE, Int.reduceLT, reduceCtorEq, yp]
  refine fcW_int (laws_szWay.fcu w _ (by omega) ww) ?_
  by_cases zw : (1048576 : Int) - (p.length : Nat) < (wWay w : Nat)
  · rw [if_pos zw]; simp only [go_sem, ↓reduceIte, Nat.reduceEqDiff, Nat.reduceAdd, Nat.reduceMul, Nat.reduceBEq, Option.getD_none, Int.reduceToNat, Nat.reduceSub, Nat.reduceLT, Nat.reduceLeDiff, Int.reduceLE, Int.reduceLT, reduceCtorEq, yp]
  have ow : wWay w ≤ 1048576 := by omega
  rw [if_neg zw]
  have yw : ¬ ((1048576 : Int) - (p.length : Nat) - (wWay w : Nat) < 0) := by omega
  simp only [go_sem, ↓reduceIte, Nat.reduceEqDiff, Nat.reduceAdd, Nat.reduceMul, Nat.reduceBEq, Option.getD_none, Int.reduceToNat, Nat.reduceSub, Nat.reduceLT, Nat.reduceLeDiff, Int.reduceLE, Int.reduceLT, reduceCtorEq, yp, yw]
  have hs := spec_PlacesRead.fc p w (by omega) (by omega)
  have hi := impl_PlacesRead.fc p w (by omega) (by omega)
  have o0 := placesV_w p w (by omega)
  generalize placesV p w = R at hs hi o0
  obtain ⟨R0, R1⟩ := R
  dsimp only at hs hi o0
  have hnr : noRs (.tup [ints R0, Bb R1]) = true := noRs_t2 noRs_ints rfl
  refine fcW_bd (laws_toStepS.fcu p op) noRs_steps ?_
  simp only [go_sem, ↓reduceIte, Nat.reduceEqDiff, Nat.reduceAdd, Nat.reduceMul, Nat.reduceBEq, Option.getD_none, Int.reduceToNat, Nat.reduceSub, Nat.reduceLT, Nat.reduceLeDiff, Int.reduceLE, Int.reduceLT, reduceCtorEq, yp, yw, take_map_len, mkBoolS_len, mkIntS_len, mkStepS_len, mkBoolS_take, mkIntS_take, mkStepS_take]
  refine fcW_bd (laws_toWay.fcu w ow) noRs_Way ?_
  simp only [go_sem, ↓reduceIte, Nat.reduceEqDiff, Nat.reduceAdd, Nat.reduceMul, Nat.reduceBEq, Option.getD_none, Int.reduceToNat, Nat.reduceSub, Nat.reduceLT, Nat.reduceLeDiff, Int.reduceLE, Int.reduceLT, reduceCtorEq, yp, yw, take_map_len, mkBoolS_len, mkIntS_len, mkStepS_len, mkBoolS_take, mkIntS_take, mkStepS_take]
  refine fcW_bd hs hnr ?_
  simp only [go_sem, ↓reduceIte, Nat.reduceEqDiff, Nat.reduceAdd, Nat.reduceMul, Nat.reduceBEq, Option.getD_none, Int.reduceToNat, Nat.reduceSub, Nat.reduceLT, Nat.reduceLeDiff, Int.reduceLE, Int.reduceLT, reduceCtorEq, yp, yw, take_map_len, mkBoolS_len, mkIntS_len, mkStepS_len, mkBoolS_take, mkIntS_take, mkStepS_take]
  refine fcW_bd (laws_toStepS.fcu p op) noRs_steps ?_
  simp only [go_sem, ↓reduceIte, Nat.reduceEqDiff, Nat.reduceAdd, Nat.reduceMul, Nat.reduceBEq, Option.getD_none, Int.reduceToNat, Nat.reduceSub, Nat.reduceLT, Nat.reduceLeDiff, Int.reduceLE, Int.reduceLT, reduceCtorEq, yp, yw, take_map_len, mkBoolS_len, mkIntS_len, mkStepS_len, mkBoolS_take, mkIntS_take, mkStepS_take]
  refine fcW_bd (laws_toWay.fcu w ow) noRs_Way ?_
  simp only [go_sem, ↓reduceIte, Nat.reduceEqDiff, Nat.reduceAdd, Nat.reduceMul, Nat.reduceBEq, Option.getD_none, Int.reduceToNat, Nat.reduceSub, Nat.reduceLT, Nat.reduceLeDiff, Int.reduceLE, Int.reduceLT, reduceCtorEq, yp, yw, take_map_len, mkBoolS_len, mkIntS_len, mkStepS_len, mkBoolS_take, mkIntS_take, mkStepS_take]
  refine fcW_bd hi hnr ?_
  simp only [go_sem, ↓reduceIte, Nat.reduceEqDiff, Nat.reduceAdd, Nat.reduceMul, Nat.reduceBEq, Option.getD_none, Int.reduceToNat, Nat.reduceSub, Nat.reduceLT, Nat.reduceLeDiff, Int.reduceLE, Int.reduceLT, reduceCtorEq, yp, yw, take_map_len, mkBoolS_len, mkIntS_len, mkStepS_len, mkBoolS_take, mkIntS_take, mkStepS_take]
  refine fcW_bool (laws_eqIntS.fcu R0 o0) ?_
  simp only [go_sem, ↓reduceIte, Nat.reduceEqDiff, Nat.reduceAdd, Nat.reduceMul, Nat.reduceBEq, Option.getD_none, Int.reduceToNat, Nat.reduceSub, Nat.reduceLT, Nat.reduceLeDiff, Int.reduceLE, Int.reduceLT, reduceCtorEq, yp, yw, take_map_len, mkBoolS_len, mkIntS_len, mkStepS_len, mkBoolS_take, mkIntS_take, mkStepS_take]
  refine fcW_bd (laws_toStepS.fcu p op) noRs_steps ?_
  simp only [go_sem, ↓reduceIte, Nat.reduceEqDiff, Nat.reduceAdd, Nat.reduceMul, Nat.reduceBEq, Option.getD_none, Int.reduceToNat, Nat.reduceSub, Nat.reduceLT, Nat.reduceLeDiff, Int.reduceLE, Int.reduceLT, reduceCtorEq, yp, yw, take_map_len, mkBoolS_len, mkIntS_len, mkStepS_len, mkBoolS_take, mkIntS_take, mkStepS_take]
  refine fcW_bool (laws_eqStepS.fcu p op) ?_
  simp only [go_sem, ↓reduceIte, Nat.reduceEqDiff, Nat.reduceAdd, Nat.reduceMul, Nat.reduceBEq, Option.getD_none, Int.reduceToNat, Nat.reduceSub, Nat.reduceLT, Nat.reduceLeDiff, Int.reduceLE, Int.reduceLT, reduceCtorEq, yp, yw, take_map_len, mkBoolS_len, mkIntS_len, mkStepS_len, mkBoolS_take, mkIntS_take, mkStepS_take]
  refine fcW_bd (laws_toWay.fcu w ow) noRs_Way ?_
  simp only [go_sem, ↓reduceIte, Nat.reduceEqDiff, Nat.reduceAdd, Nat.reduceMul, Nat.reduceBEq, Option.getD_none, Int.reduceToNat, Nat.reduceSub, Nat.reduceLT, Nat.reduceLeDiff, Int.reduceLE, Int.reduceLT, reduceCtorEq, yp, yw, take_map_len, mkBoolS_len, mkIntS_len, mkStepS_len, mkBoolS_take, mkIntS_take, mkStepS_take]
  refine fcW_bool (laws_eqWay.fcu w ow) ?_
  simp only [go_sem, ↓reduceIte, Nat.reduceEqDiff, Nat.reduceAdd, Nat.reduceMul, Nat.reduceBEq, Option.getD_none, Int.reduceToNat, Nat.reduceSub, Nat.reduceLT, Nat.reduceLeDiff, Int.reduceLE, Int.reduceLT, reduceCtorEq, yp, yw, take_map_len, mkBoolS_len, mkIntS_len, mkStepS_len, mkBoolS_take, mkIntS_take, mkStepS_take]
  refine coW_of (laws_markStepS.fcu p (1) op (by omega) (by omega)) rfl (by simp only [noRsL, noRs_steps, Bool.and_self]) ?_
  have hn1 : ¬ ((1 + ((6 * p.length) : Nat) : Int) < 0) := by omega
  simp only [go_sem, ↓reduceIte, Nat.reduceEqDiff, Nat.reduceAdd, Nat.reduceMul, Nat.reduceBEq, Option.getD_none, Int.reduceToNat, Nat.reduceSub, Nat.reduceLT, Nat.reduceLeDiff, Int.reduceLE, Int.reduceLT, reduceCtorEq, hn1, yp, yw, take_map_len, mkBoolS_len, mkIntS_len, mkStepS_len, mkBoolS_take, mkIntS_take, mkStepS_take]
  have hc2 := cWay_le w
  refine coW_of (laws_markWay.fcu w (1 + ((6 * p.length) : Nat)) ow (by omega) (by omega)) rfl (by simp only [noRsL, noRs_Way, Bool.and_self]) ?_
  have hn2 : ¬ ((1 + ((6 * p.length) : Nat) + (cWay w : Nat) : Int) < 0) := by omega
  simp only [go_sem, ↓reduceIte, Nat.reduceEqDiff, Nat.reduceAdd, Nat.reduceMul, Nat.reduceBEq, Option.getD_none, Int.reduceToNat, Nat.reduceSub, Nat.reduceLT, Nat.reduceLeDiff, Int.reduceLE, Int.reduceLT, reduceCtorEq, hn2, mkWay, yp, yw, take_map_len, mkBoolS_len, mkIntS_len, mkStepS_len, mkBoolS_take, mkIntS_take, mkStepS_take]
  refine fcW_bool (laws_eqIntS.fcu R0 o0) ?_
  simp only [go_sem, ↓reduceIte, Nat.reduceEqDiff, Nat.reduceAdd, Nat.reduceMul, Nat.reduceBEq, Option.getD_none, Int.reduceToNat, Nat.reduceSub, Nat.reduceLT, Nat.reduceLeDiff, Int.reduceLE, Int.reduceLT, reduceCtorEq, yp, yw, take_map_len, mkBoolS_len, mkIntS_len, mkStepS_len, mkBoolS_take, mkIntS_take, mkStepS_take]
  refine coW_of (laws_markIntS.fcu R0 (1) o0 (by omega) (by omega)) rfl (by simp only [noRsL, noRs_ints, Bool.and_self]) ?_
  have hn3 : ¬ ((1 + (R0.length : Nat) : Int) < 0) := by omega
  simp only [go_sem, ↓reduceIte, Nat.reduceEqDiff, Nat.reduceAdd, Nat.reduceMul, Nat.reduceBEq, Option.getD_none, Int.reduceToNat, Nat.reduceSub, Nat.reduceLT, Nat.reduceLeDiff, Int.reduceLE, Int.reduceLT, reduceCtorEq, hn3, yp, yw, take_map_len, mkBoolS_len, mkIntS_len, mkStepS_len, mkBoolS_take, mkIntS_take, mkStepS_take]
  refine fcW_int (laws_heldIntS.fcu R0 (1) o0 (by omega) (by omega)) ?_
  have hn4 : ¬ ((1 + (R0.length : Nat) : Int) < 0) := by omega
  simp only [go_sem, ↓reduceIte, Nat.reduceEqDiff, Nat.reduceAdd, Nat.reduceMul, Nat.reduceBEq, Option.getD_none, Int.reduceToNat, Nat.reduceSub, Nat.reduceLT, Nat.reduceLeDiff, Int.reduceLE, Int.reduceLT, reduceCtorEq, hn4, yp, yw, take_map_len, mkBoolS_len, mkIntS_len, mkStepS_len, mkBoolS_take, mkIntS_take, mkStepS_take]
  refine fcW_bd (laws_toStepS.fcu p op) noRs_steps ?_
  simp only [go_sem, ↓reduceIte, Nat.reduceEqDiff, Nat.reduceAdd, Nat.reduceMul, Nat.reduceBEq, Option.getD_none, Int.reduceToNat, Nat.reduceSub, Nat.reduceLT, Nat.reduceLeDiff, Int.reduceLE, Int.reduceLT, reduceCtorEq, yp, yw, take_map_len, mkBoolS_len, mkIntS_len, mkStepS_len, mkBoolS_take, mkIntS_take, mkStepS_take]
  refine fcW_bd (laws_toWay.fcu w ow) noRs_Way ?_
  simp only [go_sem, ↓reduceIte, Nat.reduceEqDiff, Nat.reduceAdd, Nat.reduceMul, Nat.reduceBEq, Option.getD_none, Int.reduceToNat, Nat.reduceSub, Nat.reduceLT, Nat.reduceLeDiff, Int.reduceLE, Int.reduceLT, reduceCtorEq, yp, yw, take_map_len, mkBoolS_len, mkIntS_len, mkStepS_len, mkBoolS_take, mkIntS_take, mkStepS_take]
  refine fcW_bd hi hnr ?_
  simp only [go_sem, ↓reduceIte, Nat.reduceEqDiff, Nat.reduceAdd, Nat.reduceMul, Nat.reduceBEq, Option.getD_none, Int.reduceToNat, Nat.reduceSub, Nat.reduceLT, Nat.reduceLeDiff, Int.reduceLE, Int.reduceLT, reduceCtorEq, yp, yw, take_map_len, mkBoolS_len, mkIntS_len, mkStepS_len, mkBoolS_take, mkIntS_take, mkStepS_take]
  refine fcW_bool (laws_eqIntS.fcu R0 o0) ?_
  simp only [go_sem, ↓reduceIte, Nat.reduceEqDiff, Nat.reduceAdd, Nat.reduceMul, Nat.reduceBEq, Option.getD_none, Int.reduceToNat, Nat.reduceSub, Nat.reduceLT, Nat.reduceLeDiff, Int.reduceLE, Int.reduceLT, reduceCtorEq, yp, yw, take_map_len, mkBoolS_len, mkIntS_len, mkStepS_len, mkBoolS_take, mkIntS_take, mkStepS_take]
  refine fcW_int (laws_heldIntS.fcu R0 (1) o0 (by omega) (by omega)) ?_
  have hn5 : ¬ ((1 + (R0.length : Nat) : Int) < 0) := by omega
  simp only [go_sem, ↓reduceIte, Nat.reduceEqDiff, Nat.reduceAdd, Nat.reduceMul, Nat.reduceBEq, Option.getD_none, Int.reduceToNat, Nat.reduceSub, Nat.reduceLT, Nat.reduceLeDiff, Int.reduceLE, Int.reduceLT, reduceCtorEq, hn5, yp, yw, take_map_len, mkBoolS_len, mkIntS_len, mkStepS_len, mkBoolS_take, mkIntS_take, mkStepS_take]
end Go.Vm.Ytdembjfpgfaheaa
namespace Go.Proofs.Ytdembjfpgfaheaa
open Go Go.Vm
theorem placesRead_own : ownKnob Try.prog.godebug = none := by kernel_rfl
theorem placesRead_laid : laidOutB Try.prog = true := by kernel_rfl
set_option maxRecDepth 100000 in
theorem placesRead_lifted (os : Os) (started : os.Started) (H : Type) (enc : TypeId × Value → H) :
    ReturnsInHanded {} Try.checked os 9 .any (Rows.fnExactPlacesReadSpec.pre6 enc Try.prog Try.f9 Rows.fnExactPlacesReadRow.domain false) (Rows.fnExactPlacesReadSpec.post enc Try.prog Try.f9 false true false false) := by
  refine returnsInHanded_of_change_sized (C := Try.checked) placesRead_own started (by kernel_rfl) Try.func9
    (ChangeSpec.witness6 (enc := enc) (C := Try.checked) false ⟨#[], #[.slice none 0 0, .agg #[.slice none 0 0, .slice none 0 0]], []⟩ 8 (by kernel_rfl) (by kernel_rfl) (by kernel_rfl) (by kernel_rfl)) ?_
  intro W base args ds gs before hval hW _ _ _
  refine law_contract (C := Try.checked) (f := 9) [.sl Vm.Ytdembjfpgfaheaa.TyStep, Vm.Ytdembjfpgfaheaa.TyWay] (rt := 4) rfl (by kernel_rfl) rfl (by kernel_rfl) placesRead_laid (fun H ds h => ?_) (fun ds h => ?_) hval hW
  · match ds, h with
    | [_, _], _ => rfl
  · simp only [HasTys] at h
    obtain ⟨d1, ds1, rfl, h1, d2, ds2, rfl, h2, rfl⟩ := h
    obtain ⟨p, rfl, wp⟩ := Vm.Ytdembjfpgfaheaa.hasStepS h1
    obtain ⟨w, rfl, ww⟩ := Vm.Ytdembjfpgfaheaa.hasWay h2
    exact Vm.Ytdembjfpgfaheaa.laws_FnExactPlacesRead.fc p w wp ww
theorem placesRead_over : Rows.fnExactPlacesReadRow.holds Try.pinned (OpenSpec.ofChange Rows.fnExactPlacesReadSpec) :=
  OpenClaim.holds_of_wide 9 Try.f9 rfl rfl rfl rfl rfl rfl rfl ⟨rfl, rfl, rfl, rfl, rfl⟩ rfl rfl rfl rfl rfl (by kernel_rfl) Try.func9 (by kernel_rfl)
    (of_decide_eq_true (by kernel_rfl)) (by unfold Func.isWrapper; first | (rw [if_pos (by decide +kernel)]; kernel_rfl) | (rw [if_neg (by decide +kernel)]; exact ⟨rfl, rfl⟩))
    (fun os started H enc _ => placesRead_lifted os started H enc)
/-- The law FnExactPlacesRead holds as given. -/
theorem placesRead_holds : Rows.FnExactPlacesReadSaid := placesRead_over
#print axioms placesRead_holds
end Go.Proofs.Ytdembjfpgfaheaa
