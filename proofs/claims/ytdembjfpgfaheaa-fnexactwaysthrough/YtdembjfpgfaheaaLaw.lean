/- The law FnExactWaysThrough returns true at all arguments (no condition); its row. -/
import Derived.Test.YtdembjfpgfaheaaWka
import Derived.Test.YtdembjfpgfaheaaRows
namespace Go.Vm.Ytdembjfpgfaheaa
open Go Go.Vm
set_option maxRecDepth 10000
set_option maxHeartbeats 4000000
set_option linter.unusedSimpArgs false
set_option linter.unusedVariables false

theorem waysV_w (p : List StepD) : wWayS (waysV p).1 ≤ 1048576 := by
  have h1 := waysV_few p
  have h2 := accC_bound (c := fun x : WayD => wWay x) (b := 42) (l := (waysV p).1) (by
    unfold waysV
    split
    · rename_i h
      simp only [Bool.and_eq_true] at h
      exact allF_all (prog_ok h.1) _ _ _ (w0_on (prog_ok h.1)) (fun w h => by cases h)
    · intro x h; cases h)
  unfold wWayS
  omega
theorem laws_FnExactWaysThrough.fc (p : List StepD) (wp : p.length ≤ 9223372036854775807) :
    FCt prog F_laws_FnExactWaysThrough [.ro] [steps p] (Bb true) [] := by
  refine fct_run laws_FnExactWaysThrough.ok rfl ?_
  simp only [go_sem, ↓reduceIte, Nat.reduceEqDiff, Nat.reduceAdd, Nat.reduceMul, Nat.reduceBEq, Option.getD_none, Int.reduceToNat, Nat.reduceSub, Nat.reduceLT, Nat.reduceLeDiff, Int.reduceLE, Int.reduceLT, reduceCtorEq]
  refine fcW_int (laws_szStepS.fcu p _ (by omega) wp) ?_
  by_cases zp : (1048576 : Int) < (p.length : Nat)
  · rw [if_pos zp]; simp only [go_sem, ↓reduceIte, Nat.reduceEqDiff, Nat.reduceAdd, Nat.reduceMul, Nat.reduceBEq, Option.getD_none, Int.reduceToNat, Nat.reduceSub, Nat.reduceLT, Nat.reduceLeDiff, Int.reduceLE, Int.reduceLT, reduceCtorEq]
  have op : p.length ≤ 1048576 := by omega
  rw [if_neg zp]
  have yp : ¬ ((1048576 : Int) - (p.length : Nat) < 0) := by omega
  simp only [go_sem, ↓reduceIte, Nat.reduceEqDiff, Nat.reduceAdd, Nat.reduceMul, Nat.reduceBEq, Option.getD_none, Int.reduceToNat, Nat.reduceSub, Nat.reduceLT, Nat.reduceLeDiff, Int.reduceLE, Int.reduceLT, reduceCtorEq, yp]
  have hs := spec_WaysThrough.fc p (by omega)
  have hi := impl_WaysThrough.fc p (by omega)
  have o0 := waysV_w p
  generalize waysV p = R at hs hi o0
  obtain ⟨R0, R1⟩ := R
  dsimp only at hs hi o0
  have hnr : noRs (.tup [ways R0, Bb R1]) = true := noRs_t2 noRs_ways rfl
  refine fcW_bd (laws_toStepS.fcu p op) noRs_steps ?_
  simp only [go_sem, ↓reduceIte, Nat.reduceEqDiff, Nat.reduceAdd, Nat.reduceMul, Nat.reduceBEq, Option.getD_none, Int.reduceToNat, Nat.reduceSub, Nat.reduceLT, Nat.reduceLeDiff, Int.reduceLE, Int.reduceLT, reduceCtorEq, yp, take_map_len, mkStepS_len, mkWayS_len, mkStepS_take, mkWayS_take]
  refine fcW_bd hs hnr ?_
  simp only [go_sem, ↓reduceIte, Nat.reduceEqDiff, Nat.reduceAdd, Nat.reduceMul, Nat.reduceBEq, Option.getD_none, Int.reduceToNat, Nat.reduceSub, Nat.reduceLT, Nat.reduceLeDiff, Int.reduceLE, Int.reduceLT, reduceCtorEq, yp, take_map_len, mkStepS_len, mkWayS_len, mkStepS_take, mkWayS_take]
  refine fcW_bd (laws_toStepS.fcu p op) noRs_steps ?_
  simp only [go_sem, ↓reduceIte, Nat.reduceEqDiff, Nat.reduceAdd, Nat.reduceMul, Nat.reduceBEq, Option.getD_none, Int.reduceToNat, Nat.reduceSub, Nat.reduceLT, Nat.reduceLeDiff, Int.reduceLE, Int.reduceLT, reduceCtorEq, yp, take_map_len, mkStepS_len, mkWayS_len, mkStepS_take, mkWayS_take]
  refine fcW_bd hi hnr ?_
  simp only [go_sem, ↓reduceIte, Nat.reduceEqDiff, Nat.reduceAdd, Nat.reduceMul, Nat.reduceBEq, Option.getD_none, Int.reduceToNat, Nat.reduceSub, Nat.reduceLT, Nat.reduceLeDiff, Int.reduceLE, Int.reduceLT, reduceCtorEq, yp, take_map_len, mkStepS_len, mkWayS_len, mkStepS_take, mkWayS_take]
  refine fcW_bool (laws_eqWayS.fcu R0 o0) ?_
  simp only [go_sem, ↓reduceIte, Nat.reduceEqDiff, Nat.reduceAdd, Nat.reduceMul, Nat.reduceBEq, Option.getD_none, Int.reduceToNat, Nat.reduceSub, Nat.reduceLT, Nat.reduceLeDiff, Int.reduceLE, Int.reduceLT, reduceCtorEq, yp, take_map_len, mkStepS_len, mkWayS_len, mkStepS_take, mkWayS_take]
  refine fcW_bd (laws_toStepS.fcu p op) noRs_steps ?_
  simp only [go_sem, ↓reduceIte, Nat.reduceEqDiff, Nat.reduceAdd, Nat.reduceMul, Nat.reduceBEq, Option.getD_none, Int.reduceToNat, Nat.reduceSub, Nat.reduceLT, Nat.reduceLeDiff, Int.reduceLE, Int.reduceLT, reduceCtorEq, yp, take_map_len, mkStepS_len, mkWayS_len, mkStepS_take, mkWayS_take]
  refine fcW_bool (laws_eqStepS.fcu p op) ?_
  simp only [go_sem, ↓reduceIte, Nat.reduceEqDiff, Nat.reduceAdd, Nat.reduceMul, Nat.reduceBEq, Option.getD_none, Int.reduceToNat, Nat.reduceSub, Nat.reduceLT, Nat.reduceLeDiff, Int.reduceLE, Int.reduceLT, reduceCtorEq, yp, take_map_len, mkStepS_len, mkWayS_len, mkStepS_take, mkWayS_take]
  refine coW_of (laws_markStepS.fcu p (1) op (by omega) (by omega)) rfl (by simp only [noRsL, noRs_steps, Bool.and_self]) ?_
  have hn1 : ¬ ((1 + ((6 * p.length) : Nat) : Int) < 0) := by omega
  simp only [go_sem, ↓reduceIte, Nat.reduceEqDiff, Nat.reduceAdd, Nat.reduceMul, Nat.reduceBEq, Option.getD_none, Int.reduceToNat, Nat.reduceSub, Nat.reduceLT, Nat.reduceLeDiff, Int.reduceLE, Int.reduceLT, reduceCtorEq, hn1, yp, take_map_len, mkStepS_len, mkWayS_len, mkStepS_take, mkWayS_take]
  refine fcW_bool (laws_eqWayS.fcu R0 o0) ?_
  simp only [go_sem, ↓reduceIte, Nat.reduceEqDiff, Nat.reduceAdd, Nat.reduceMul, Nat.reduceBEq, Option.getD_none, Int.reduceToNat, Nat.reduceSub, Nat.reduceLT, Nat.reduceLeDiff, Int.reduceLE, Int.reduceLT, reduceCtorEq, yp, take_map_len, mkStepS_len, mkWayS_len, mkStepS_take, mkWayS_take]
  have hc2 := cWayS_le R0
  refine coW_of (laws_markWayS.fcu R0 (1) o0 (by omega) (by omega)) rfl (by simp only [noRsL, noRs_ways, Bool.and_self]) ?_
  have hn2 : ¬ ((1 + (cWayS R0 : Nat) : Int) < 0) := by omega
  simp only [go_sem, ↓reduceIte, Nat.reduceEqDiff, Nat.reduceAdd, Nat.reduceMul, Nat.reduceBEq, Option.getD_none, Int.reduceToNat, Nat.reduceSub, Nat.reduceLT, Nat.reduceLeDiff, Int.reduceLE, Int.reduceLT, reduceCtorEq, hn2, yp, take_map_len, mkStepS_len, mkWayS_len, mkStepS_take, mkWayS_take]
  have hc3 := cWayS_le R0
  refine fcW_int (laws_heldWayS.fcu R0 (1) o0 (by omega) (by omega)) ?_
  have hn3 : ¬ ((1 + (cWayS R0 : Nat) : Int) < 0) := by omega
  simp only [go_sem, ↓reduceIte, Nat.reduceEqDiff, Nat.reduceAdd, Nat.reduceMul, Nat.reduceBEq, Option.getD_none, Int.reduceToNat, Nat.reduceSub, Nat.reduceLT, Nat.reduceLeDiff, Int.reduceLE, Int.reduceLT, reduceCtorEq, hn3, yp, take_map_len, mkStepS_len, mkWayS_len, mkStepS_take, mkWayS_take]
  refine fcW_bd (laws_toStepS.fcu p op) noRs_steps ?_
  simp only [go_sem, ↓reduceIte, Nat.reduceEqDiff, Nat.reduceAdd, Nat.reduceMul, Nat.reduceBEq, Option.getD_none, Int.reduceToNat, Nat.reduceSub, Nat.reduceLT, Nat.reduceLeDiff, Int.reduceLE, Int.reduceLT, reduceCtorEq, yp, take_map_len, mkStepS_len, mkWayS_len, mkStepS_take, mkWayS_take]
  refine fcW_bd hi hnr ?_
  simp only [go_sem, ↓reduceIte, Nat.reduceEqDiff, Nat.reduceAdd, Nat.reduceMul, Nat.reduceBEq, Option.getD_none, Int.reduceToNat, Nat.reduceSub, Nat.reduceLT, Nat.reduceLeDiff, Int.reduceLE, Int.reduceLT, reduceCtorEq, yp, take_map_len, mkStepS_len, mkWayS_len, mkStepS_take, mkWayS_take]
  refine fcW_bool (laws_eqWayS.fcu R0 o0) ?_
  simp only [go_sem, ↓reduceIte, Nat.reduceEqDiff, Nat.reduceAdd, Nat.reduceMul, Nat.reduceBEq, Option.getD_none, Int.reduceToNat, Nat.reduceSub, Nat.reduceLT, Nat.reduceLeDiff, Int.reduceLE, Int.reduceLT, reduceCtorEq, yp, take_map_len, mkStepS_len, mkWayS_len, mkStepS_take, mkWayS_take]
  have hc4 := cWayS_le R0
  refine fcW_int (laws_heldWayS.fcu R0 (1) o0 (by omega) (by omega)) ?_
  have hn4 : ¬ ((1 + (cWayS R0 : Nat) : Int) < 0) := by omega
  simp only [go_sem, ↓reduceIte, Nat.reduceEqDiff, Nat.reduceAdd, Nat.reduceMul, Nat.reduceBEq, Option.getD_none, Int.reduceToNat, Nat.reduceSub, Nat.reduceLT, Nat.reduceLeDiff, Int.reduceLE, Int.reduceLT, reduceCtorEq, hn4, yp, take_map_len, mkStepS_len, mkWayS_len, mkStepS_take, mkWayS_take]
end Go.Vm.Ytdembjfpgfaheaa
namespace Go.Proofs.Ytdembjfpgfaheaa
open Go Go.Vm
theorem waysThrough_own : ownKnob Try.prog.godebug = none := by kernel_rfl
theorem waysThrough_laid : laidOutB Try.prog = true := by kernel_rfl
set_option maxRecDepth 100000 in
theorem waysThrough_lifted (os : Os) (started : os.Started) (H : Type) (enc : TypeId × Value → H) :
    ReturnsInHanded {} Try.checked os 5 .any (Rows.fnExactWaysThroughSpec.pre6 enc Try.prog Try.f5 Rows.fnExactWaysThroughRow.domain false) (Rows.fnExactWaysThroughSpec.post enc Try.prog Try.f5 false true false false) := by
  refine returnsInHanded_of_change_sized (C := Try.checked) waysThrough_own started (by kernel_rfl) Try.func5
    (ChangeSpec.witness6 (enc := enc) (C := Try.checked) false ⟨#[], #[.slice none 0 0], []⟩ 8 (by kernel_rfl) (by kernel_rfl) (by kernel_rfl) (by kernel_rfl)) ?_
  intro W base args ds gs before hval hW _ _ _
  refine law_contract (C := Try.checked) (f := 5) [.sl Vm.Ytdembjfpgfaheaa.TyStep] (rt := 4) rfl (by kernel_rfl) rfl (by kernel_rfl) waysThrough_laid (fun H ds h => ?_) (fun ds h => ?_) hval hW
  · match ds, h with
    | [_], _ => rfl
  · simp only [HasTys] at h
    obtain ⟨d1, ds1, rfl, h1, rfl⟩ := h
    obtain ⟨p, rfl, wp⟩ := Vm.Ytdembjfpgfaheaa.hasStepS h1
    exact Vm.Ytdembjfpgfaheaa.laws_FnExactWaysThrough.fc p wp
theorem waysThrough_over : Rows.fnExactWaysThroughRow.holds Try.pinned (OpenSpec.ofChange Rows.fnExactWaysThroughSpec) :=
  OpenClaim.holds_of_wide 5 Try.f5 rfl rfl rfl rfl rfl rfl rfl ⟨rfl, rfl, rfl, rfl, rfl⟩ rfl rfl rfl rfl rfl (by kernel_rfl) Try.func5 (by kernel_rfl)
    (of_decide_eq_true (by kernel_rfl)) (by unfold Func.isWrapper; first | (rw [if_pos (by decide +kernel)]; kernel_rfl) | (rw [if_neg (by decide +kernel)]; exact ⟨rfl, rfl⟩))
    (fun os started H enc _ => waysThrough_lifted os started H enc)
/-- The law FnExactWaysThrough holds as given. -/
theorem waysThrough_holds : Rows.FnExactWaysThroughSaid := waysThrough_over
#print axioms waysThrough_holds
end Go.Proofs.Ytdembjfpgfaheaa
