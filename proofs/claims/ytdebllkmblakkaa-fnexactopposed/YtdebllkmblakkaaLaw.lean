/- The law FnExactOpposed returns true at all arguments (no condition); its row. -/
import Derived.Test.YtdebllkmblakkaaWka
import Derived.Test.YtdebllkmblakkaaRows
namespace Go.Vm.Ytdebllkmblakkaa
open Go Go.Vm
set_option maxRecDepth 10000
set_option maxHeartbeats 4000000
set_option linter.unusedSimpArgs false
set_option linter.unusedVariables false

theorem intss_few {l : List (List Int)} (h : wIntSS l ≤ 1048576) : l.length ≤ 4294967296 ∧ ∀ r ∈ l, r.length ≤ 4294967296 := by
  unfold wIntSS at h
  refine ⟨by omega, fun r hr => ?_⟩
  have := accC_mem (c := fun x : List Int => x.length) hr
  omega
theorem laws_FnExactOpposed.fc (v : Int) (l : List (List Int)) (wl : wfIntSS l) :
    FCt prog F_laws_FnExactOpposed [.ro, .ro] [Ii v, intss l] (Bb true) [] := by
  refine fct_run laws_FnExactOpposed.ok rfl ?_
  simp only [go_sem, ↓reduceIte, Nat.reduceEqDiff, Nat.reduceAdd, Nat.reduceMul, Nat.reduceBEq, Option.getD_none, Int.reduceToNat, Nat.reduceSub, Nat.reduceLT, Nat.reduceLeDiff, Int.reduceLE, Int.reduceLT, reduceCtorEq]
  refine fcW_int (laws_szIntSS.fcu l _ (by omega) wl) ?_
  by_cases zl : (1048576 : Int) < (wIntSS l : Nat)
  · rw [if_pos zl]; simp only [go_sem, ↓reduceIte, Nat.reduceEqDiff, Nat.reduceAdd, Nat.reduceMul, Nat.reduceBEq, Option.getD_none, Int.reduceToNat, Nat.reduceSub, Nat.reduceLT, Nat.reduceLeDiff, Int.reduceLE, Int.reduceLT, reduceCtorEq]
  have ol : wIntSS l ≤ 1048576 := by omega
  rw [if_neg zl]
  have yl : ¬ ((1048576 : Int) - (wIntSS l : Nat) < 0) := by omega
  simp only [go_sem, ↓reduceIte, Nat.reduceEqDiff, Nat.reduceAdd, Nat.reduceMul, Nat.reduceBEq, Option.getD_none, Int.reduceToNat, Nat.reduceSub, Nat.reduceLT, Nat.reduceLeDiff, Int.reduceLE, Int.reduceLT, reduceCtorEq, yl]
  obtain ⟨hl1, hl2⟩ := intss_few ol
  have hs := spec_Opposed.fc v l hl1 hl2
  have hi := impl_Opposed.fc v l hl1 hl2
  generalize oppD v l = R at hs hi
  obtain ⟨R0, R1⟩ := R
  dsimp only at hs hi
  have hnr : noRs (.tup [Ii R0, Bb R1]) = true := rfl
  refine fcW_bd (laws_toIntSS.fcu l ol) noRs_intss ?_
  simp only [go_sem, ↓reduceIte, Nat.reduceEqDiff, Nat.reduceAdd, Nat.reduceMul, Nat.reduceBEq, Option.getD_none, Int.reduceToNat, Nat.reduceSub, Nat.reduceLT, Nat.reduceLeDiff, Int.reduceLE, Int.reduceLT, reduceCtorEq, yl, take_map_len]
  refine fcW_bd hs hnr ?_
  simp only [go_sem, ↓reduceIte, Nat.reduceEqDiff, Nat.reduceAdd, Nat.reduceMul, Nat.reduceBEq, Option.getD_none, Int.reduceToNat, Nat.reduceSub, Nat.reduceLT, Nat.reduceLeDiff, Int.reduceLE, Int.reduceLT, reduceCtorEq, yl, take_map_len]
  refine fcW_bd (laws_toIntSS.fcu l ol) noRs_intss ?_
  simp only [go_sem, ↓reduceIte, Nat.reduceEqDiff, Nat.reduceAdd, Nat.reduceMul, Nat.reduceBEq, Option.getD_none, Int.reduceToNat, Nat.reduceSub, Nat.reduceLT, Nat.reduceLeDiff, Int.reduceLE, Int.reduceLT, reduceCtorEq, yl, take_map_len]
  refine fcW_bd hi hnr ?_
  simp only [go_sem, ↓reduceIte, Nat.reduceEqDiff, Nat.reduceAdd, Nat.reduceMul, Nat.reduceBEq, Option.getD_none, Int.reduceToNat, Nat.reduceSub, Nat.reduceLT, Nat.reduceLeDiff, Int.reduceLE, Int.reduceLT, reduceCtorEq, yl, take_map_len]
  refine fcW_bd (laws_toIntSS.fcu l ol) noRs_intss ?_
  simp only [go_sem, ↓reduceIte, Nat.reduceEqDiff, Nat.reduceAdd, Nat.reduceMul, Nat.reduceBEq, Option.getD_none, Int.reduceToNat, Nat.reduceSub, Nat.reduceLT, Nat.reduceLeDiff, Int.reduceLE, Int.reduceLT, reduceCtorEq, yl, take_map_len]
  refine fcW_bool (laws_eqIntSS.fcu l ol) ?_
  simp only [go_sem, ↓reduceIte, Nat.reduceEqDiff, Nat.reduceAdd, Nat.reduceMul, Nat.reduceBEq, Option.getD_none, Int.reduceToNat, Nat.reduceSub, Nat.reduceLT, Nat.reduceLeDiff, Int.reduceLE, Int.reduceLT, reduceCtorEq, yl, take_map_len]
end Go.Vm.Ytdebllkmblakkaa
namespace Go.Proofs.Ytdebllkmblakkaa
open Go Go.Vm
theorem opposed_own : ownKnob Try.prog.godebug = none := by kernel_rfl
theorem opposed_laid : laidOutB Try.prog = true := by kernel_rfl
set_option maxRecDepth 100000 in
theorem opposed_lifted (os : Os) (started : os.Started) (H : Type) (enc : TypeId × Value → H) :
    ReturnsInHanded {} Try.checked os 3 .any (Rows.fnExactOpposedSpec.pre6 enc Try.prog Try.f3 Rows.fnExactOpposedRow.domain false) (Rows.fnExactOpposedSpec.post enc Try.prog Try.f3 false true false false) := by
  refine returnsInHanded_of_change_sized (C := Try.checked) opposed_own started (by kernel_rfl) Try.func3
    (ChangeSpec.witness6 (enc := enc) (C := Try.checked) false ⟨#[], #[.int .i64 0, .slice none 0 0], []⟩ 8 (by kernel_rfl) (by kernel_rfl) (by kernel_rfl) (by kernel_rfl)) ?_
  intro W base args ds gs before hval hW _ _ _
  refine law_contract (C := Try.checked) (f := 3) [.int .i64, .sl (.sl (.int .i64))] (rt := 4) rfl (by kernel_rfl) rfl (by kernel_rfl) opposed_laid (fun H ds h => ?_) (fun ds h => ?_) hval hW
  · match ds, h with
    | [_, _], _ => rfl
  · simp only [HasTys] at h
    obtain ⟨d1, ds1, rfl, h1, d2, ds2, rfl, h2, rfl⟩ := h
    obtain ⟨v, rfl, _⟩ := hasInt h1
    obtain ⟨l, rfl, wl⟩ := Vm.Ytdebllkmblakkaa.hasIntSS h2
    exact Vm.Ytdebllkmblakkaa.laws_FnExactOpposed.fc v l wl
theorem opposed_over : Rows.fnExactOpposedRow.holds Try.pinned (OpenSpec.ofChange Rows.fnExactOpposedSpec) :=
  OpenClaim.holds_of_wide 3 Try.f3 rfl rfl rfl rfl rfl rfl rfl ⟨rfl, rfl, rfl, rfl, rfl⟩ rfl rfl rfl rfl rfl (by kernel_rfl) Try.func3 (by kernel_rfl)
    (of_decide_eq_true (by kernel_rfl)) (by unfold Func.isWrapper; first | (rw [if_pos (by decide +kernel)]; kernel_rfl) | (rw [if_neg (by decide +kernel)]; exact ⟨rfl, rfl⟩))
    (fun os started H enc _ => opposed_lifted os started H enc)
/-- The law FnExactOpposed holds as given. -/
theorem opposed_holds : Rows.FnExactOpposedSaid := opposed_over
#print axioms opposed_holds
end Go.Proofs.Ytdebllkmblakkaa
