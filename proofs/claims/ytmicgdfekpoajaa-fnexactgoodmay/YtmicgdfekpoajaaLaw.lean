/- The law FnExactGoodMay returns true at all arguments (no condition); its row. -/
import Derived.Test.YtmicgdfekpoajaaWka
import Derived.Test.YtmicgdfekpoajaaRows
namespace Go.Vm.Ytmicgdfekpoajaa
open Go Go.Vm
set_option maxRecDepth 10000
set_option linter.unusedSimpArgs false
set_option linter.unusedVariables false

theorem laws_FnExactGoodMay.fc (m : MayD) (wm : wfMay m) :
    FCt prog F_laws_FnExactGoodMay [.ro] [MayD.d m] (Bb true) [] := by
  refine fct_run laws_FnExactGoodMay.ok rfl ?_
  simp only [go_sem, ↓reduceIte, Nat.reduceEqDiff, Nat.reduceAdd, Nat.reduceMul, Nat.reduceBEq, Option.getD_none, Int.reduceToNat, Nat.reduceSub, Nat.reduceLT, Nat.reduceLeDiff, Int.reduceLE, Int.reduceLT, reduceCtorEq]
  refine fcW_int (laws_szMay.fcu m _ (by omega) wm) ?_
  by_cases zm : (1048576 : Int) < (wMay m : Nat)
  · rw [if_pos zm]; simp only [go_sem, ↓reduceIte, Nat.reduceEqDiff, Nat.reduceAdd, Nat.reduceMul, Nat.reduceBEq, Option.getD_none, Int.reduceToNat, Nat.reduceSub, Nat.reduceLT, Nat.reduceLeDiff, Int.reduceLE, Int.reduceLT, reduceCtorEq]
  have om : wMay m ≤ 1048576 := by omega
  rw [if_neg zm]
  have ym : ¬ ((1048576 : Int) - (wMay m : Nat) < 0) := by omega
  simp only [go_sem, ↓reduceIte, Nat.reduceEqDiff, Nat.reduceAdd, Nat.reduceMul, Nat.reduceBEq, Option.getD_none, Int.reduceToNat, Nat.reduceSub, Nat.reduceLT, Nat.reduceLeDiff, Int.reduceLE, Int.reduceLT, reduceCtorEq, ym]
  have hs := spec_GoodMay.fc m (by omega)
  have hi := impl_GoodMay.fc m (by omega)
  generalize goodMay m = R0 at hs hi
  have hnr : noRs (Bb R0) = true := rfl
  refine fcW_bd (laws_toMay.fcu m om) noRs_May ?_
  simp only [go_sem, ↓reduceIte, Nat.reduceEqDiff, Nat.reduceAdd, Nat.reduceMul, Nat.reduceBEq, Option.getD_none, Int.reduceToNat, Nat.reduceSub, Nat.reduceLT, Nat.reduceLeDiff, Int.reduceLE, Int.reduceLT, reduceCtorEq, ym, take_map_len]
  refine fcW_bd hs hnr ?_
  simp only [go_sem, ↓reduceIte, Nat.reduceEqDiff, Nat.reduceAdd, Nat.reduceMul, Nat.reduceBEq, Option.getD_none, Int.reduceToNat, Nat.reduceSub, Nat.reduceLT, Nat.reduceLeDiff, Int.reduceLE, Int.reduceLT, reduceCtorEq, ym, take_map_len]
  refine fcW_bd (laws_toMay.fcu m om) noRs_May ?_
  simp only [go_sem, ↓reduceIte, Nat.reduceEqDiff, Nat.reduceAdd, Nat.reduceMul, Nat.reduceBEq, Option.getD_none, Int.reduceToNat, Nat.reduceSub, Nat.reduceLT, Nat.reduceLeDiff, Int.reduceLE, Int.reduceLT, reduceCtorEq, ym, take_map_len]
  refine fcW_bd hi hnr ?_
  simp only [go_sem, ↓reduceIte, Nat.reduceEqDiff, Nat.reduceAdd, Nat.reduceMul, Nat.reduceBEq, Option.getD_none, Int.reduceToNat, Nat.reduceSub, Nat.reduceLT, Nat.reduceLeDiff, Int.reduceLE, Int.reduceLT, reduceCtorEq, ym, take_map_len]
  refine fcW_bd (laws_toMay.fcu m om) noRs_May ?_
  simp only [go_sem, ↓reduceIte, Nat.reduceEqDiff, Nat.reduceAdd, Nat.reduceMul, Nat.reduceBEq, Option.getD_none, Int.reduceToNat, Nat.reduceSub, Nat.reduceLT, Nat.reduceLeDiff, Int.reduceLE, Int.reduceLT, reduceCtorEq, ym, take_map_len]
  refine fcW_bool (laws_eqMay.fcu m om) ?_
  simp only [go_sem, ↓reduceIte, Nat.reduceEqDiff, Nat.reduceAdd, Nat.reduceMul, Nat.reduceBEq, Option.getD_none, Int.reduceToNat, Nat.reduceSub, Nat.reduceLT, Nat.reduceLeDiff, Int.reduceLE, Int.reduceLT, reduceCtorEq, ym, take_map_len]
end Go.Vm.Ytmicgdfekpoajaa
namespace Go.Proofs.Ytmicgdfekpoajaa
open Go Go.Vm
theorem goodMay_own : ownKnob Try.prog.godebug = none := by kernel_rfl
theorem goodMay_laid : laidOutB Try.prog = true := by kernel_rfl
set_option maxRecDepth 100000 in
theorem goodMay_lifted (os : Os) (started : os.Started) (H : Type) (enc : TypeId × Value → H) :
    ReturnsInHanded {} Try.checked os 3 .any (Rows.fnExactGoodMaySpec.pre6 enc Try.prog Try.f3 Rows.fnExactGoodMayRow.domain false) (Rows.fnExactGoodMaySpec.post enc Try.prog Try.f3 false true false false) := by
  refine returnsInHanded_of_change_sized (C := Try.checked) goodMay_own started (by kernel_rfl) Try.func3
    (ChangeSpec.witness6 (enc := enc) (C := Try.checked) false ⟨#[], #[.agg #[.slice none 0 0, .slice none 0 0, .slice none 0 0, .slice none 0 0]], []⟩ 8 (by kernel_rfl) (by kernel_rfl) (by kernel_rfl) (by kernel_rfl)) ?_
  intro W base args ds gs before hval hW _ _ _
  refine law_contract (C := Try.checked) (f := 3) [Vm.Ytmicgdfekpoajaa.TyMay] (rt := 4) rfl (by kernel_rfl) rfl (by kernel_rfl) goodMay_laid (fun H ds h => ?_) (fun ds h => ?_) hval hW
  · match ds, h with
    | [_], _ => rfl
  · simp only [HasTys] at h
    obtain ⟨d1, ds1, rfl, h1, rfl⟩ := h
    obtain ⟨m, rfl, wm⟩ := Vm.Ytmicgdfekpoajaa.hasMay h1
    exact Vm.Ytmicgdfekpoajaa.laws_FnExactGoodMay.fc m wm
theorem goodMay_over : Rows.fnExactGoodMayRow.holds Try.pinned (OpenSpec.ofChange Rows.fnExactGoodMaySpec) :=
  OpenClaim.holds_of_wide 3 Try.f3 rfl rfl rfl rfl rfl rfl rfl ⟨rfl, rfl, rfl, rfl, rfl⟩ rfl rfl rfl rfl rfl (by kernel_rfl) Try.func3 (by kernel_rfl)
    (of_decide_eq_true (by kernel_rfl)) (by unfold Func.isWrapper; first | (rw [if_pos (by decide +kernel)]; kernel_rfl) | (rw [if_neg (by decide +kernel)]; exact ⟨rfl, rfl⟩))
    (fun os started H enc _ => goodMay_lifted os started H enc)
/-- The law FnExactGoodMay holds as given. -/
theorem goodMay_holds : Rows.FnExactGoodMaySaid := goodMay_over
#print axioms goodMay_holds
end Go.Proofs.Ytmicgdfekpoajaa
