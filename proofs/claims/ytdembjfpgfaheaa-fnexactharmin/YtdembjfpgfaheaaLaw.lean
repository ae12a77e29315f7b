/- The law FnExactHarmIn returns true at all arguments (no condition); its row. -/
import Derived.Test.YtdembjfpgfaheaaWka
import Derived.Test.YtdembjfpgfaheaaRows
namespace Go.Vm.Ytdembjfpgfaheaa
open Go Go.Vm
set_option maxRecDepth 10000
set_option maxHeartbeats 4000000
set_option linter.unusedSimpArgs false
set_option linter.unusedVariables false

theorem laws_FnExactHarmIn.fc (p : List StepD) (wp : p.length ≤ 9223372036854775807) :
    FCt prog F_laws_FnExactHarmIn [.ro] [steps p] (Bb true) [] := by
  refine fct_run laws_FnExactHarmIn.ok rfl ?_
  simp only [go_sem, ↓reduceIte, Nat.reduceEqDiff, Nat.reduceAdd, Nat.reduceMul, Nat.reduceBEq, Option.getD_none, Int.reduceToNat, Nat.reduceSub, Nat.reduceLT, Nat.reduceLeDiff, Int.reduceLE, Int.reduceLT, reduceCtorEq]
  refine fcW_int (laws_szStepS.fcu p _ (by omega) wp) ?_
  by_cases zp : (1048576 : Int) < (p.length : Nat)
  · rw [if_pos zp]; simp only [go_sem, ↓reduceIte, Nat.reduceEqDiff, Nat.reduceAdd, Nat.reduceMul, Nat.reduceBEq, Option.getD_none, Int.reduceToNat, Nat.reduceSub, Nat.reduceLT, Nat.reduceLeDiff, Int.reduceLE, Int.reduceLT, reduceCtorEq]
  have op : p.length ≤ 1048576 := by omega
  rw [if_neg zp]
  have yp : ¬ ((1048576 : Int) - (p.length : Nat) < 0) := by omega
  simp only [go_sem, ↓reduceIte, Nat.reduceEqDiff, Nat.reduceAdd, Nat.reduceMul, Nat.reduceBEq, Option.getD_none, Int.reduceToNat, Nat.reduceSub, Nat.reduceLT, Nat.reduceLeDiff, Int.reduceLE, Int.reduceLT, reduceCtorEq, yp]
  have hs := spec_HarmIn.fc p (by omega)
  have hi := impl_HarmIn.fc p (by omega)
  have o0 := harmV_small p
  unfold harmD at hs hi
  generalize harmV p = R at hs hi o0
  obtain ⟨R0, R1, R2, R3⟩ := R
  dsimp only at hs hi o0
  have hnr : noRs (.tup [ints R0, Ii R1, Ii R2, Bb R3]) = true := noRs_t4 noRs_ints rfl rfl rfl
  refine fcW_bd (laws_toStepS.fcu p op) noRs_steps ?_
  simp only [go_sem, ↓reduceIte, Nat.reduceEqDiff, Nat.reduceAdd, Nat.reduceMul, Nat.reduceBEq, Option.getD_none, Int.reduceToNat, Nat.reduceSub, Nat.reduceLT, Nat.reduceLeDiff, Int.reduceLE, Int.reduceLT, reduceCtorEq, yp, take_map_len, mkIntS_len, mkStepS_len, mkIntS_take, mkStepS_take]
  refine fcW_bd hs hnr ?_
  simp only [go_sem, ↓reduceIte, Nat.reduceEqDiff, Nat.reduceAdd, Nat.reduceMul, Nat.reduceBEq, Option.getD_none, Int.reduceToNat, Nat.reduceSub, Nat.reduceLT, Nat.reduceLeDiff, Int.reduceLE, Int.reduceLT, reduceCtorEq, yp, take_map_len, mkIntS_len, mkStepS_len, mkIntS_take, mkStepS_take]
  refine fcW_bd (laws_toStepS.fcu p op) noRs_steps ?_
  simp only [go_sem, ↓reduceIte, Nat.reduceEqDiff, Nat.reduceAdd, Nat.reduceMul, Nat.reduceBEq, Option.getD_none, Int.reduceToNat, Nat.reduceSub, Nat.reduceLT, Nat.reduceLeDiff, Int.reduceLE, Int.reduceLT, reduceCtorEq, yp, take_map_len, mkIntS_len, mkStepS_len, mkIntS_take, mkStepS_take]
  refine fcW_bd hi hnr ?_
  simp only [go_sem, ↓reduceIte, Nat.reduceEqDiff, Nat.reduceAdd, Nat.reduceMul, Nat.reduceBEq, Option.getD_none, Int.reduceToNat, Nat.reduceSub, Nat.reduceLT, Nat.reduceLeDiff, Int.reduceLE, Int.reduceLT, reduceCtorEq, yp, take_map_len, mkIntS_len, mkStepS_len, mkIntS_take, mkStepS_take]
  refine fcW_bool (laws_eqIntS.fcu R0 o0) ?_
  simp only [go_sem, ↓reduceIte, Nat.reduceEqDiff, Nat.reduceAdd, Nat.reduceMul, Nat.reduceBEq, Option.getD_none, Int.reduceToNat, Nat.reduceSub, Nat.reduceLT, Nat.reduceLeDiff, Int.reduceLE, Int.reduceLT, reduceCtorEq, yp, take_map_len, mkIntS_len, mkStepS_len, mkIntS_take, mkStepS_take]
  refine fcW_bd (laws_toStepS.fcu p op) noRs_steps ?_
  simp only [go_sem, ↓reduceIte, Nat.reduceEqDiff, Nat.reduceAdd, Nat.reduceMul, Nat.reduceBEq, Option.getD_none, Int.reduceToNat, Nat.reduceSub, Nat.reduceLT, Nat.reduceLeDiff, Int.reduceLE, Int.reduceLT, reduceCtorEq, yp, take_map_len, mkIntS_len, mkStepS_len, mkIntS_take, mkStepS_take]
  refine fcW_bool (laws_eqStepS.fcu p op) ?_
  simp only [go_sem, ↓reduceIte, Nat.reduceEqDiff, Nat.reduceAdd, Nat.reduceMul, Nat.reduceBEq, Option.getD_none, Int.reduceToNat, Nat.reduceSub, Nat.reduceLT, Nat.reduceLeDiff, Int.reduceLE, Int.reduceLT, reduceCtorEq, yp, take_map_len, mkIntS_len, mkStepS_len, mkIntS_take, mkStepS_take]
  refine coW_of (laws_markStepS.fcu p (1) op (by omega) (by omega)) rfl (by simp only [noRsL, noRs_steps, Bool.and_self]) ?_
  have hn1 : ¬ ((1 + ((6 * p.length) : Nat) : Int) < 0) := by omega
  simp only [go_sem, ↓reduceIte, Nat.reduceEqDiff, Nat.reduceAdd, Nat.reduceMul, Nat.reduceBEq, Option.getD_none, Int.reduceToNat, Nat.reduceSub, Nat.reduceLT, Nat.reduceLeDiff, Int.reduceLE, Int.reduceLT, reduceCtorEq, hn1, yp, take_map_len, mkIntS_len, mkStepS_len, mkIntS_take, mkStepS_take]
  refine fcW_bool (laws_eqIntS.fcu R0 o0) ?_
  simp only [go_sem, ↓reduceIte, Nat.reduceEqDiff, Nat.reduceAdd, Nat.reduceMul, Nat.reduceBEq, Option.getD_none, Int.reduceToNat, Nat.reduceSub, Nat.reduceLT, Nat.reduceLeDiff, Int.reduceLE, Int.reduceLT, reduceCtorEq, yp, take_map_len, mkIntS_len, mkStepS_len, mkIntS_take, mkStepS_take]
  refine coW_of (laws_markIntS.fcu R0 (1) o0 (by omega) (by omega)) rfl (by simp only [noRsL, noRs_ints, Bool.and_self]) ?_
  have hn2 : ¬ ((1 + (R0.length : Nat) : Int) < 0) := by omega
  simp only [go_sem, ↓reduceIte, Nat.reduceEqDiff, Nat.reduceAdd, Nat.reduceMul, Nat.reduceBEq, Option.getD_none, Int.reduceToNat, Nat.reduceSub, Nat.reduceLT, Nat.reduceLeDiff, Int.reduceLE, Int.reduceLT, reduceCtorEq, hn2, yp, take_map_len, mkIntS_len, mkStepS_len, mkIntS_take, mkStepS_take]
  refine fcW_int (laws_heldIntS.fcu R0 (1) o0 (by omega) (by omega)) ?_
  have hn3 : ¬ ((1 + (R0.length : Nat) : Int) < 0) := by omega
  simp only [go_sem, ↓reduceIte, Nat.reduceEqDiff, Nat.reduceAdd, Nat.reduceMul, Nat.reduceBEq, Option.getD_none, Int.reduceToNat, Nat.reduceSub, Nat.reduceLT, Nat.reduceLeDiff, Int.reduceLE, Int.reduceLT, reduceCtorEq, hn3, yp, take_map_len, mkIntS_len, mkStepS_len, mkIntS_take, mkStepS_take]
  refine fcW_bd (laws_toStepS.fcu p op) noRs_steps ?_
  simp only [go_sem, ↓reduceIte, Nat.reduceEqDiff, Nat.reduceAdd, Nat.reduceMul, Nat.reduceBEq, Option.getD_none, Int.reduceToNat, Nat.reduceSub, Nat.reduceLT, Nat.reduceLeDiff, Int.reduceLE, Int.reduceLT, reduceCtorEq, yp, take_map_len, mkIntS_len, mkStepS_len, mkIntS_take, mkStepS_take]
  refine fcW_bd hi hnr ?_
  simp only [go_sem, ↓reduceIte, Nat.reduceEqDiff, Nat.reduceAdd, Nat.reduceMul, Nat.reduceBEq, Option.getD_none, Int.reduceToNat, Nat.reduceSub, Nat.reduceLT, Nat.reduceLeDiff, Int.reduceLE, Int.reduceLT, reduceCtorEq, yp, take_map_len, mkIntS_len, mkStepS_len, mkIntS_take, mkStepS_take]
  refine fcW_bool (laws_eqIntS.fcu R0 o0) ?_
  simp only [go_sem, ↓reduceIte, Nat.reduceEqDiff, Nat.reduceAdd, Nat.reduceMul, Nat.reduceBEq, Option.getD_none, Int.reduceToNat, Nat.reduceSub, Nat.reduceLT, Nat.reduceLeDiff, Int.reduceLE, Int.reduceLT, reduceCtorEq, yp, take_map_len, mkIntS_len, mkStepS_len, mkIntS_take, mkStepS_take]
  refine fcW_int (laws_heldIntS.fcu R0 (1) o0 (by omega) (by omega)) ?_
  have hn4 : ¬ ((1 + (R0.length : Nat) : Int) < 0) := by omega
  simp only [go_sem, ↓reduceIte, Nat.reduceEqDiff, Nat.reduceAdd, Nat.reduceMul, Nat.reduceBEq, Option.getD_none, Int.reduceToNat, Nat.reduceSub, Nat.reduceLT, Nat.reduceLeDiff, Int.reduceLE, Int.reduceLT, reduceCtorEq, hn4, yp, take_map_len, mkIntS_len, mkStepS_len, mkIntS_take, mkStepS_take]
end Go.Vm.Ytdembjfpgfaheaa
namespace Go.Proofs.Ytdembjfpgfaheaa
open Go Go.Vm
theorem harmIn_own : ownKnob Try.prog.godebug = none := by kernel_rfl
theorem harmIn_laid : laidOutB Try.prog = true := by kernel_rfl
set_option maxRecDepth 100000 in
theorem harmIn_lifted (os : Os) (started : os.Started) (H : Type) (enc : TypeId × Value → H) :
    ReturnsInHanded {} Try.checked os 6 .any (Rows.fnExactHarmInSpec.pre6 enc Try.prog Try.f6 Rows.fnExactHarmInRow.domain false) (Rows.fnExactHarmInSpec.post enc Try.prog Try.f6 false true false false) := by
  refine returnsInHanded_of_change_sized (C := Try.checked) harmIn_own started (by kernel_rfl) Try.func6
    (ChangeSpec.witness6 (enc := enc) (C := Try.checked) false ⟨#[], #[.slice none 0 0], []⟩ 8 (by kernel_rfl) (by kernel_rfl) (by kernel_rfl) (by kernel_rfl)) ?_
  intro W base args ds gs before hval hW _ _ _
  refine law_contract (C := Try.checked) (f := 6) [.sl Vm.Ytdembjfpgfaheaa.TyStep] (rt := 4) rfl (by kernel_rfl) rfl (by kernel_rfl) harmIn_laid (fun H ds h => ?_) (fun ds h => ?_) hval hW
  · match ds, h with
    | [_], _ => rfl
  · simp only [HasTys] at h
    obtain ⟨d1, ds1, rfl, h1, rfl⟩ := h
    obtain ⟨p, rfl, wp⟩ := Vm.Ytdembjfpgfaheaa.hasStepS h1
    exact Vm.Ytdembjfpgfaheaa.laws_FnExactHarmIn.fc p wp
theorem harmIn_over : Rows.fnExactHarmInRow.holds Try.pinned (OpenSpec.ofChange Rows.fnExactHarmInSpec) :=
  OpenClaim.holds_of_wide 6 Try.f6 rfl rfl rfl rfl rfl rfl rfl ⟨rfl, rfl, rfl, rfl, rfl⟩ rfl rfl rfl rfl rfl (by kernel_rfl) Try.func6 (by kernel_rfl)
    (of_decide_eq_true (by kernel_rfl)) (by unfold Func.isWrapper; first | (rw [if_pos (by decide +kernel)]; kernel_rfl) | (rw [if_neg (by decide +kernel)]; exact ⟨rfl, rfl⟩))
    (fun os started H enc _ => harmIn_lifted os started H enc)
/-- The law FnExactHarmIn holds as given. -/
theorem harmIn_holds : Rows.FnExactHarmInSaid := harmIn_over
#print axioms harmIn_holds
end Go.Proofs.Ytdembjfpgfaheaa
