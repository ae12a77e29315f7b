/- The law FnExactReduceBoth returns true at all arguments (no condition); its row. -/
import Derived.Test.YtedcnkglldmkbaaWka
import Derived.Test.YtedcnkglldmkbaaRows
namespace Go.Vm.Ytedcnkglldmkbaa
open Go Go.Vm
set_option maxRecDepth 10000
set_option linter.unusedSimpArgs false
set_option linter.unusedVariables false

abbrev PairT : Ty := .st [.int .i64, .int .i64]
theorem hasPair {d : D} (h : HasTy PairT d) : ∃ a b, d = pr a b := by
  simp only [HasTy] at h
  obtain ⟨xs, rfl, h⟩ := h
  simp only [HasTys] at h
  obtain ⟨d1, ds1, rfl, h1, d2, ds2, rfl, h2, rfl⟩ := h
  obtain ⟨a, rfl, _⟩ := hasInt h1
  obtain ⟨b, rfl, _⟩ := hasInt h2
  exact ⟨a, b, rfl⟩
theorem spec_ReduceBoth.tup (a b v m : Int) : ∃ x y z u c, FCt prog F_spec_ReduceBoth [.ro, .ro] [pr a b, pr v m] (.tup [pr x y, pr z u, Bb c]) [] ∧ FCt prog F_impl_ReduceBoth [.ro, .ro] [pr a b, pr v m] (.tup [pr x y, pr z u, Bb c]) [] := by
  have h1 := spec_ReduceBoth.fc a b v m
  have h2 := impl_ReduceBoth.fc a b v m
  cases hg : goodS a b && goodK v m with
  | false => rw [hg] at h1 h2; exact ⟨_, _, _, _, _, h1, h2⟩
  | true =>
    rw [hg] at h1 h2
    obtain ⟨x, y, z, u, c, hr⟩ := redu_tup a b v m
    rw [hr] at h1 h2
    exact ⟨_, _, _, _, _, h1, h2⟩
theorem laws_FnExactReduceBoth.fc (a b v m : Int) : FCt prog F_laws_FnExactReduceBoth [.ro, .ro] [pr a b, pr v m] (Bb true) [] := by
  refine fct_run laws_FnExactReduceBoth.ok rfl ?_
  obtain ⟨x, y, z, u, c, hs, hi⟩ := spec_ReduceBoth.tup a b v m
  simp only [go_sem, ↓reduceIte, Nat.reduceEqDiff, Nat.reduceAdd, Nat.reduceMul, Nat.reduceBEq, Nat.reduceSub, Nat.reduceLT, Nat.reduceLeDiff, Int.reduceLE, Int.reduceLT, reduceCtorEq]
  refine fcW_bd (laws_toStretch.fc ..) rfl ?_
  simp only [go_sem, ↓reduceIte, Nat.reduceEqDiff, Nat.reduceAdd, Nat.reduceMul, Nat.reduceBEq, Nat.reduceSub, Nat.reduceLT, Nat.reduceLeDiff, Int.reduceLE, Int.reduceLT, reduceCtorEq]
  refine fcW_bd (laws_toKnown.fc ..) rfl ?_
  simp only [go_sem, ↓reduceIte, Nat.reduceEqDiff, Nat.reduceAdd, Nat.reduceMul, Nat.reduceBEq, Nat.reduceSub, Nat.reduceLT, Nat.reduceLeDiff, Int.reduceLE, Int.reduceLT, reduceCtorEq]
  refine fcW_bd hs rfl ?_
  simp only [go_sem, ↓reduceIte, Nat.reduceEqDiff, Nat.reduceAdd, Nat.reduceMul, Nat.reduceBEq, Nat.reduceSub, Nat.reduceLT, Nat.reduceLeDiff, Int.reduceLE, Int.reduceLT, reduceCtorEq]
  refine fcW_bd (laws_toStretch.fc ..) rfl ?_
  simp only [go_sem, ↓reduceIte, Nat.reduceEqDiff, Nat.reduceAdd, Nat.reduceMul, Nat.reduceBEq, Nat.reduceSub, Nat.reduceLT, Nat.reduceLeDiff, Int.reduceLE, Int.reduceLT, reduceCtorEq]
  refine fcW_bd (laws_toKnown.fc ..) rfl ?_
  simp only [go_sem, ↓reduceIte, Nat.reduceEqDiff, Nat.reduceAdd, Nat.reduceMul, Nat.reduceBEq, Nat.reduceSub, Nat.reduceLT, Nat.reduceLeDiff, Int.reduceLE, Int.reduceLT, reduceCtorEq]
  refine fcW_bd hi rfl ?_
  simp only [go_sem, ↓reduceIte, Nat.reduceEqDiff, Nat.reduceAdd, Nat.reduceMul, Nat.reduceBEq, Nat.reduceSub, Nat.reduceLT, Nat.reduceLeDiff, Int.reduceLE, Int.reduceLT, reduceCtorEq]
  refine fcW_bool (laws_eqStretch.fc ..) ?_
  simp only [go_sem, ↓reduceIte, Nat.reduceEqDiff, Nat.reduceAdd, Nat.reduceMul, Nat.reduceBEq, Nat.reduceSub, Nat.reduceLT, Nat.reduceLeDiff, Int.reduceLE, Int.reduceLT, reduceCtorEq]
  refine fcW_bool (laws_eqKnown.fc ..) ?_
  simp only [go_sem, ↓reduceIte, Nat.reduceEqDiff, Nat.reduceAdd, Nat.reduceMul, Nat.reduceBEq, Nat.reduceSub, Nat.reduceLT, Nat.reduceLeDiff, Int.reduceLE, Int.reduceLT, reduceCtorEq]
end Go.Vm.Ytedcnkglldmkbaa
namespace Go.Proofs.Ytedcnkglldmkbaa
open Go Go.Vm
theorem reduceBoth_own : ownKnob Try.prog.godebug = none := by kernel_rfl
theorem reduceBoth_laid : laidOutB Try.prog = true := by kernel_rfl
set_option maxRecDepth 100000 in
theorem reduceBoth_lifted (os : Os) (started : os.Started) (H : Type) (enc : TypeId × Value → H) :
    ReturnsInHanded {} Try.checked os 3 .any (Rows.fnExactReduceBothSpec.pre6 enc Try.prog Try.f3 Rows.fnExactReduceBothRow.domain false) (Rows.fnExactReduceBothSpec.post enc Try.prog Try.f3 false true false false) := by
  refine returnsInHanded_of_change_sized (C := Try.checked) reduceBoth_own started (by kernel_rfl) Try.func3
    (ChangeSpec.witness6 (enc := enc) (C := Try.checked) false ⟨#[], #[.agg #[.int .i64 0, .int .i64 0], .agg #[.int .i64 0, .int .i64 0]], []⟩ 8 (by kernel_rfl) (by kernel_rfl) (by kernel_rfl) (by kernel_rfl)) ?_
  intro W base args ds gs before hval hW _ _ _
  refine law_contract (C := Try.checked) (f := 3) [Vm.Ytedcnkglldmkbaa.PairT, Vm.Ytedcnkglldmkbaa.PairT] (rt := 4) rfl (by kernel_rfl) rfl (by kernel_rfl) reduceBoth_laid (fun H ds h => ?_) (fun ds h => ?_) hval hW
  · match ds, h with
    | [_, _], _ => rfl
  · simp only [HasTys] at h
    obtain ⟨d1, ds1, rfl, h1, d2, ds2, rfl, h2, rfl⟩ := h
    obtain ⟨a, b, rfl⟩ := Vm.Ytedcnkglldmkbaa.hasPair h1
    obtain ⟨v, m, rfl⟩ := Vm.Ytedcnkglldmkbaa.hasPair h2
    exact Vm.Ytedcnkglldmkbaa.laws_FnExactReduceBoth.fc a b v m
theorem reduceBoth_over : Rows.fnExactReduceBothRow.holds Try.pinned (OpenSpec.ofChange Rows.fnExactReduceBothSpec) :=
  OpenClaim.holds_of_wide 3 Try.f3 rfl rfl rfl rfl rfl rfl rfl ⟨rfl, rfl, rfl, rfl, rfl⟩ rfl rfl rfl rfl rfl (by kernel_rfl) Try.func3 (by kernel_rfl)
    (of_decide_eq_true (by kernel_rfl)) (by unfold Func.isWrapper; first | (rw [if_pos (by decide +kernel)]; kernel_rfl) | (rw [if_neg (by decide +kernel)]; exact ⟨rfl, rfl⟩))
    (fun os started H enc _ => reduceBoth_lifted os started H enc)
/-- The law FnExactReduceBoth holds as given. -/
theorem reduceBoth_holds : Rows.FnExactReduceBothSaid := reduceBoth_over
#print axioms reduceBoth_holds
end Go.Proofs.Ytedcnkglldmkbaa
