/- The law FnExactStartMay returns true (no condition); its row. -/
import Derived.Test.YtmicgdfekpoajaaWka
import Derived.Test.YtmicgdfekpoajaaRows
namespace Go.Vm.Ytmicgdfekpoajaa
open Go Go.Vm
set_option maxRecDepth 10000
set_option linter.unusedSimpArgs false
set_option linter.unusedVariables false

theorem startM_w : wMay startM ≤ 1048576 := by unfold wMay startM; simp
theorem laws_FnExactStartMay.fc  :
    FCt prog F_laws_FnExactStartMay [] [] (Bb true) [] := by
  refine fct_run laws_FnExactStartMay.ok rfl ?_
  simp only [go_sem, ↓reduceIte, Nat.reduceEqDiff, Nat.reduceAdd, Nat.reduceMul, Nat.reduceBEq, Option.getD_none, Int.reduceToNat, Nat.reduceSub, Nat.reduceLT, Nat.reduceLeDiff, Int.reduceLE, Int.reduceLT, reduceCtorEq]
  have hs := spec_StartMay.fc
  have hi := impl_StartMay.fc
  have o0 := startM_w
  generalize startM = R0 at hs hi o0
  have hnr : noRs (MayD.d R0) = true := noRs_May
  refine fcW_bd hs hnr ?_
  simp only [go_sem, ↓reduceIte, Nat.reduceEqDiff, Nat.reduceAdd, Nat.reduceMul, Nat.reduceBEq, Option.getD_none, Int.reduceToNat, Nat.reduceSub, Nat.reduceLT, Nat.reduceLeDiff, Int.reduceLE, Int.reduceLT, reduceCtorEq, take_map_len, mkBoolS_len, mkKnownS_len, mkStretchS_len, mkBoolS_take, mkKnownS_take, mkStretchS_take]
  refine fcW_bd hi hnr ?_
  simp only [go_sem, ↓reduceIte, Nat.reduceEqDiff, Nat.reduceAdd, Nat.reduceMul, Nat.reduceBEq, Option.getD_none, Int.reduceToNat, Nat.reduceSub, Nat.reduceLT, Nat.reduceLeDiff, Int.reduceLE, Int.reduceLT, reduceCtorEq, take_map_len, mkBoolS_len, mkKnownS_len, mkStretchS_len, mkBoolS_take, mkKnownS_take, mkStretchS_take]
  refine fcW_bool (laws_eqMay.fcu R0 o0) ?_
  simp only [go_sem, ↓reduceIte, Nat.reduceEqDiff, Nat.reduceAdd, Nat.reduceMul, Nat.reduceBEq, Option.getD_none, Int.reduceToNat, Nat.reduceSub, Nat.reduceLT, Nat.reduceLeDiff, Int.reduceLE, Int.reduceLT, reduceCtorEq, take_map_len, mkBoolS_len, mkKnownS_len, mkStretchS_len, mkBoolS_take, mkKnownS_take, mkStretchS_take]
  have hc1 := cMay_le R0
  refine coW_of (laws_markMay.fcu R0 (1) o0 (by omega) (by omega)) rfl (by simp only [noRsL, noRs_May, Bool.and_self]) ?_
  have hn1 : ¬ ((1 + (cMay R0 : Nat) : Int) < 0) := by omega
  simp only [go_sem, ↓reduceIte, Nat.reduceEqDiff, Nat.reduceAdd, Nat.reduceMul, Nat.reduceBEq, Option.getD_none, Int.reduceToNat, Nat.reduceSub, Nat.reduceLT, Nat.reduceLeDiff, Int.reduceLE, Int.reduceLT, reduceCtorEq, hn1, mkMay, take_map_len, mkBoolS_len, mkKnownS_len, mkStretchS_len, mkBoolS_take, mkKnownS_take, mkStretchS_take]
  have hc2 := cMay_le R0
  refine fcW_int (laws_heldMay.fcu R0 (1) o0 (by omega) (by omega)) ?_
  have hn2 : ¬ ((1 + (cMay R0 : Nat) : Int) < 0) := by omega
  simp only [go_sem, ↓reduceIte, Nat.reduceEqDiff, Nat.reduceAdd, Nat.reduceMul, Nat.reduceBEq, Option.getD_none, Int.reduceToNat, Nat.reduceSub, Nat.reduceLT, Nat.reduceLeDiff, Int.reduceLE, Int.reduceLT, reduceCtorEq, hn2, mkMay, take_map_len, mkBoolS_len, mkKnownS_len, mkStretchS_len, mkBoolS_take, mkKnownS_take, mkStretchS_take]
  refine fcW_bd hi hnr ?_
  simp only [go_sem, ↓reduceIte, Nat.reduceEqDiff, Nat.reduceAdd, Nat.reduceMul, Nat.reduceBEq, Option.getD_none, Int.reduceToNat, Nat.reduceSub, Nat.reduceLT, Nat.reduceLeDiff, Int.reduceLE, Int.reduceLT, reduceCtorEq, take_map_len, mkBoolS_len, mkKnownS_len, mkStretchS_len, mkBoolS_take, mkKnownS_take, mkStretchS_take]
  refine fcW_bool (laws_eqMay.fcu R0 o0) ?_
  simp only [go_sem, ↓reduceIte, Nat.reduceEqDiff, Nat.reduceAdd, Nat.reduceMul, Nat.reduceBEq, Option.getD_none, Int.reduceToNat, Nat.reduceSub, Nat.reduceLT, Nat.reduceLeDiff, Int.reduceLE, Int.reduceLT, reduceCtorEq, take_map_len, mkBoolS_len, mkKnownS_len, mkStretchS_len, mkBoolS_take, mkKnownS_take, mkStretchS_take]
  have hc3 := cMay_le R0
  refine fcW_int (laws_heldMay.fcu R0 (1) o0 (by omega) (by omega)) ?_
  have hn3 : ¬ ((1 + (cMay R0 : Nat) : Int) < 0) := by omega
  simp only [go_sem, ↓reduceIte, Nat.reduceEqDiff, Nat.reduceAdd, Nat.reduceMul, Nat.reduceBEq, Option.getD_none, Int.reduceToNat, Nat.reduceSub, Nat.reduceLT, Nat.reduceLeDiff, Int.reduceLE, Int.reduceLT, reduceCtorEq, hn3, mkMay, take_map_len, mkBoolS_len, mkKnownS_len, mkStretchS_len, mkBoolS_take, mkKnownS_take, mkStretchS_take]
end Go.Vm.Ytmicgdfekpoajaa
namespace Go.Proofs.Ytmicgdfekpoajaa
open Go Go.Vm
theorem startMay_own : ownKnob Try.prog.godebug = none := by kernel_rfl
theorem startMay_laid : laidOutB Try.prog = true := by kernel_rfl
set_option maxRecDepth 100000 in
theorem startMay_lifted (os : Os) (started : os.Started) (H : Type) (enc : TypeId × Value → H) :
    ReturnsInHanded {} Try.checked os 4 .any (Rows.fnExactStartMaySpec.pre6 enc Try.prog Try.f4 Rows.fnExactStartMayRow.domain false) (Rows.fnExactStartMaySpec.post enc Try.prog Try.f4 false true false false) := by
  refine returnsInHanded_of_change_sized (C := Try.checked) startMay_own started (by kernel_rfl) Try.func4
    (ChangeSpec.witness6 (enc := enc) (C := Try.checked) false ⟨#[], #[], []⟩ 8 (by kernel_rfl) (by kernel_rfl) (by kernel_rfl) (by kernel_rfl)) ?_
  intro W base args ds gs before hval hW _ _ _
  refine law_contract (C := Try.checked) (f := 4) [] (rt := 4) rfl (by kernel_rfl) rfl (by kernel_rfl) startMay_laid (fun H ds h => ?_) (fun ds h => ?_) hval hW
  · match ds, h with
    | [], _ => rfl
  · simp only [HasTys] at h
    subst h
    exact Vm.Ytmicgdfekpoajaa.laws_FnExactStartMay.fc
theorem startMay_over : Rows.fnExactStartMayRow.holds Try.pinned (OpenSpec.ofChange Rows.fnExactStartMaySpec) :=
  OpenClaim.holds_of_wide 4 Try.f4 rfl rfl rfl rfl rfl rfl rfl ⟨rfl, rfl, rfl, rfl, rfl⟩ rfl rfl rfl rfl rfl (by kernel_rfl) Try.func4 (by kernel_rfl)
    (of_decide_eq_true (by kernel_rfl)) (by unfold Func.isWrapper; first | (rw [if_pos (by decide +kernel)]; kernel_rfl) | (rw [if_neg (by decide +kernel)]; exact ⟨rfl, rfl⟩))
    (fun os started H enc _ => startMay_lifted os started H enc)
/-- The law FnExactStartMay holds as given. -/
theorem startMay_holds : Rows.FnExactStartMaySaid := startMay_over
#print axioms startMay_holds
end Go.Proofs.Ytmicgdfekpoajaa
