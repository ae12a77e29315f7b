/- The law FnExactInMay returns true at all arguments (no condition); its row. -/
import Derived.Test.YtmicgdfekpoajaaWka
import Derived.Test.YtmicgdfekpoajaaRows
namespace Go.Vm.Ytmicgdfekpoajaa
open Go Go.Vm
set_option maxRecDepth 10000
set_option maxHeartbeats 4000000
set_option linter.unusedSimpArgs false
set_option linter.unusedVariables false

theorem inMay_two (m : MayD) (x : MachD) : ∃ R0 R1, inMayD m x = .tup [Bb R0, Bb R1] := by
  unfold inMayD; split
  · exact ⟨_, _, rfl⟩
  · exact ⟨_, _, rfl⟩
theorem laws_FnExactInMay.fc (m : MayD) (x : MachD) (wm : wfMay m) (wx : wfMachine x) :
    FCt prog F_laws_FnExactInMay [.ro, .ro] [MayD.d m, MachD.d x] (Bb true) [] := by
  refine fct_run laws_FnExactInMay.ok rfl ?_
  simp only [go_sem, ↓reduceIte, Nat.reduceEqDiff, Nat.reduceAdd, Nat.reduceMul, Nat.reduceBEq, Option.getD_none, Int.reduceToNat, Nat.reduceSub, Nat.reduceLT, Nat.reduceLeDiff, Int.reduceLE, Int.reduceLT, reduceCtorEq]
  refine fcW_int (laws_szMay.fcu m _ (by omega) wm) ?_
  by_cases zm : (1048576 : Int) < (wMay m : Nat)
  · rw [if_pos zm]; simp only [go_sem, ↓reduceIte, Nat.reduceEqDiff, Nat.reduceAdd, Nat.reduceMul, Nat.reduceBEq, Option.getD_none, Int.reduceToNat, Nat.reduceSub, Nat.reduceLT, Nat.reduceLeDiff, Int.reduceLE, Int.reduceLT, reduceCtorEq]
  have om : wMay m ≤ 1048576 := by omega
  rw [if_neg zm]
  have ym : ¬ ((1048576 : Int) - (wMay m : Nat) < 0) := by omega
  simp only [go_sem, ↓reduceIte, Nat.reduceEqDiff, Nat.reduceAdd, Nat.reduceMul, Nat.reduceBEq, Option.getD_none, Int.reduceToNat, Nat.reduceSub, Nat.reduceLT, Nat.reduceLeDiff, Int.reduceLE, Int.reduceLT, reduceCtorEq, ym]
  refine fcW_int (laws_szMachine.fcu x _ (by omega) wx) ?_
  by_cases zx : (1048576 : Int) - (wMay m : Nat) < (wMachine x : Nat)
  · rw [if_pos zx]; simp only [go_sem, ↓reduceIte, Nat.reduceEqDiff, Nat.reduceAdd, Nat.reduceMul, Nat.reduceBEq, Option.getD_none, Int.reduceToNat, Nat.reduceSub, Nat.reduceLT, Nat.reduceLeDiff, Int.reduceLE, Int.reduceLT, reduceCtorEq, ym]
  have ox : wMachine x ≤ 1048576 := by omega
  rw [if_neg zx]
  have yx : ¬ ((1048576 : Int) - (wMay m : Nat) - (wMachine x : Nat) < 0) := by omega
  simp only [go_sem, ↓reduceIte, Nat.reduceEqDiff, Nat.reduceAdd, Nat.reduceMul, Nat.reduceBEq, Option.getD_none, Int.reduceToNat, Nat.reduceSub, Nat.reduceLT, Nat.reduceLeDiff, Int.reduceLE, Int.reduceLT, reduceCtorEq, ym, yx]
  obtain ⟨R0, R1, hR⟩ := inMay_two m x
  have hs := spec_InMay.fc m x (by omega) (by omega)
  have hi := impl_InMay.fc m x (by omega) (by omega)
  rw [hR] at hs hi
  have hnr : noRs (.tup [Bb R0, Bb R1]) = true := rfl
  refine fcW_bd (laws_toMay.fcu m om) noRs_May ?_
  simp only [go_sem, ↓reduceIte, Nat.reduceEqDiff, Nat.reduceAdd, Nat.reduceMul, Nat.reduceBEq, Option.getD_none, Int.reduceToNat, Nat.reduceSub, Nat.reduceLT, Nat.reduceLeDiff, Int.reduceLE, Int.reduceLT, reduceCtorEq, ym, yx, take_map_len]
  refine fcW_bd (laws_toMachine.fcu x ox) noRs_Machine ?_
  simp only [go_sem, ↓reduceIte, Nat.reduceEqDiff, Nat.reduceAdd, Nat.reduceMul, Nat.reduceBEq, Option.getD_none, Int.reduceToNat, Nat.reduceSub, Nat.reduceLT, Nat.reduceLeDiff, Int.reduceLE, Int.reduceLT, reduceCtorEq, ym, yx, take_map_len]
  refine fcW_bd hs hnr ?_
  simp only [go_sem, ↓reduceIte, Nat.reduceEqDiff, Nat.reduceAdd, Nat.reduceMul, Nat.reduceBEq, Option.getD_none, Int.reduceToNat, Nat.reduceSub, Nat.reduceLT, Nat.reduceLeDiff, Int.reduceLE, Int.reduceLT, reduceCtorEq, ym, yx, take_map_len]
  refine fcW_bd (laws_toMay.fcu m om) noRs_May ?_
  simp only [go_sem, ↓reduceIte, Nat.reduceEqDiff, Nat.reduceAdd, Nat.reduceMul, Nat.reduceBEq, Option.getD_none, Int.reduceToNat, Nat.reduceSub, Nat.reduceLT, Nat.reduceLeDiff, Int.reduceLE, Int.reduceLT, reduceCtorEq, ym, yx, take_map_len]
  refine fcW_bd (laws_toMachine.fcu x ox) noRs_Machine ?_
  simp only [go_sem, ↓reduceIte, Nat.reduceEqDiff, Nat.reduceAdd, Nat.reduceMul, Nat.reduceBEq, Option.getD_none, Int.reduceToNat, Nat.reduceSub, Nat.reduceLT, Nat.reduceLeDiff, Int.reduceLE, Int.reduceLT, reduceCtorEq, ym, yx, take_map_len]
  refine fcW_bd hi hnr ?_
  simp only [go_sem, ↓reduceIte, Nat.reduceEqDiff, Nat.reduceAdd, Nat.reduceMul, Nat.reduceBEq, Option.getD_none, Int.reduceToNat, Nat.reduceSub, Nat.reduceLT, Nat.reduceLeDiff, Int.reduceLE, Int.reduceLT, reduceCtorEq, ym, yx, take_map_len]
  refine fcW_bd (laws_toMay.fcu m om) noRs_May ?_
  simp only [go_sem, ↓reduceIte, Nat.reduceEqDiff, Nat.reduceAdd, Nat.reduceMul, Nat.reduceBEq, Option.getD_none, Int.reduceToNat, Nat.reduceSub, Nat.reduceLT, Nat.reduceLeDiff, Int.reduceLE, Int.reduceLT, reduceCtorEq, ym, yx, take_map_len]
  refine fcW_bool (laws_eqMay.fcu m om) ?_
  simp only [go_sem, ↓reduceIte, Nat.reduceEqDiff, Nat.reduceAdd, Nat.reduceMul, Nat.reduceBEq, Option.getD_none, Int.reduceToNat, Nat.reduceSub, Nat.reduceLT, Nat.reduceLeDiff, Int.reduceLE, Int.reduceLT, reduceCtorEq, ym, yx, take_map_len]
  refine fcW_bd (laws_toMachine.fcu x ox) noRs_Machine ?_
  simp only [go_sem, ↓reduceIte, Nat.reduceEqDiff, Nat.reduceAdd, Nat.reduceMul, Nat.reduceBEq, Option.getD_none, Int.reduceToNat, Nat.reduceSub, Nat.reduceLT, Nat.reduceLeDiff, Int.reduceLE, Int.reduceLT, reduceCtorEq, ym, yx, take_map_len]
  refine fcW_bool (laws_eqMachine.fcu x ox) ?_
  simp only [go_sem, ↓reduceIte, Nat.reduceEqDiff, Nat.reduceAdd, Nat.reduceMul, Nat.reduceBEq, Option.getD_none, Int.reduceToNat, Nat.reduceSub, Nat.reduceLT, Nat.reduceLeDiff, Int.reduceLE, Int.reduceLT, reduceCtorEq, ym, yx, take_map_len]
end Go.Vm.Ytmicgdfekpoajaa
namespace Go.Proofs.Ytmicgdfekpoajaa
open Go Go.Vm
theorem inMay_own : ownKnob Try.prog.godebug = none := by kernel_rfl
theorem inMay_laid : laidOutB Try.prog = true := by kernel_rfl
set_option maxRecDepth 100000 in
theorem inMay_lifted (os : Os) (started : os.Started) (H : Type) (enc : TypeId × Value → H) :
    ReturnsInHanded {} Try.checked os 5 .any (Rows.fnExactInMaySpec.pre6 enc Try.prog Try.f5 Rows.fnExactInMayRow.domain false) (Rows.fnExactInMaySpec.post enc Try.prog Try.f5 false true false false) := by
  refine returnsInHanded_of_change_sized (C := Try.checked) inMay_own started (by kernel_rfl) Try.func5
    (ChangeSpec.witness6 (enc := enc) (C := Try.checked) false ⟨#[], #[.agg #[.slice none 0 0, .slice none 0 0, .slice none 0 0, .slice none 0 0], .agg #[.int .i64 0, .slice none 0 0, .slice none 0 0, .slice none 0 0]], []⟩ 8 (by kernel_rfl) (by kernel_rfl) (by kernel_rfl) (by kernel_rfl)) ?_
  intro W base args ds gs before hval hW _ _ _
  refine law_contract (C := Try.checked) (f := 5) [Vm.Ytmicgdfekpoajaa.TyMay, Vm.Ytmicgdfekpoajaa.TyMachine] (rt := 4) rfl (by kernel_rfl) rfl (by kernel_rfl) inMay_laid (fun H ds h => ?_) (fun ds h => ?_) hval hW
  · match ds, h with
    | [_, _], _ => rfl
  · simp only [HasTys] at h
    obtain ⟨d1, ds1, rfl, h1, d2, ds2, rfl, h2, rfl⟩ := h
    obtain ⟨m, rfl, wm⟩ := Vm.Ytmicgdfekpoajaa.hasMay h1
    obtain ⟨x, rfl, wx⟩ := Vm.Ytmicgdfekpoajaa.hasMachine h2
    exact Vm.Ytmicgdfekpoajaa.laws_FnExactInMay.fc m x wm wx
theorem inMay_over : Rows.fnExactInMayRow.holds Try.pinned (OpenSpec.ofChange Rows.fnExactInMaySpec) :=
  OpenClaim.holds_of_wide 5 Try.f5 rfl rfl rfl rfl rfl rfl rfl ⟨rfl, rfl, rfl, rfl, rfl⟩ rfl rfl rfl rfl rfl (by kernel_rfl) Try.func5 (by kernel_rfl)
    (of_decide_eq_true (by kernel_rfl)) (by unfold Func.isWrapper; first | (rw [if_pos (by decide +kernel)]; kernel_rfl) | (rw [if_neg (by decide +kernel)]; exact ⟨rfl, rfl⟩))
    (fun os started H enc _ => inMay_lifted os started H enc)
/-- The law FnExactInMay holds as given. -/
theorem inMay_holds : Rows.FnExactInMaySaid := inMay_over
#print axioms inMay_holds
end Go.Proofs.Ytmicgdfekpoajaa
