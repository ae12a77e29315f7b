/- The law FnExactSolveTwo returns true at all arguments (no condition); its row. -/
import Derived.Test.YtdebllkmblakkaaWkb
import Derived.Test.YtdebllkmblakkaaRows
namespace Go.Vm.Ytdebllkmblakkaa
open Go Go.Vm
set_option maxRecDepth 10000
set_option maxHeartbeats 4000000
set_option linter.unusedSimpArgs false
set_option linter.unusedVariables false

theorem intss_few {l : List (List Int)} (h : wIntSS l ≤ 1048576) : l.length ≤ 4294967296 ∧ ∀ r ∈ l, r.length ≤ 4294967296 := by
  unfold wIntSS at h
  refine ⟨by omega, fun r hr => ?_⟩
  have := accC_mem (c := fun x : List Int => x.length) hr
  omega
theorem solveD_w (v : Int) (l : List (List Int)) : (solveD v l).1.length ≤ 1048576 := by
  unfold solveD
  split
  · rename_i h
    have hv := (two_ok h).2.2.hv
    split
    · unfold boolsL
      simp
      omega
    · simp
  · simp
theorem laws_FnExactSolveTwo.fc (v : Int) (l : List (List Int)) (wl : wfIntSS l) :
    FCt prog F_laws_FnExactSolveTwo [.ro, .ro] [Ii v, intss l] (Bb true) [] := by
  refine fct_run laws_FnExactSolveTwo.ok rfl ?_
  simp only [go_sem, ↓reduceIte, Nat.reduceEqDiff, Nat.reduceAdd, Nat.reduceMul, Nat.reduceBEq, Option.getD_none, Int.reduceToNat, Nat.reduceSub, Nat.reduceLT, Nat.reduceLeDiff, Int.reduceLE, Int.reduceLT, reduceCtorEq]
  refine fcW_int (laws_szIntSS.fcu l _ (by omega) wl) ?_
  by_cases zl : (1048576 : Int) < (wIntSS l : Nat)
  · rw [if_pos zl]; simp only [go_sem, ↓reduceIte, Nat.reduceEqDiff, Nat.reduceAdd, Nat.reduceMul, Nat.reduceBEq, Option.getD_none, Int.reduceToNat, Nat.reduceSub, Nat.reduceLT, Nat.reduceLeDiff, Int.reduceLE, Int.reduceLT, reduceCtorEq]
  have ol : wIntSS l ≤ 1048576 := by omega
  rw [if_neg zl]
  have yl : ¬ ((1048576 : Int) - (wIntSS l : Nat) < 0) := by omega
  simp only [go_sem, ↓reduceIte, Nat.reduceEqDiff, Nat.reduceAdd, Nat.reduceMul, Nat.reduceBEq, Option.getD_none, Int.reduceToNat, Nat.reduceSub, Nat.reduceLT, Nat.reduceLeDiff, Int.reduceLE, Int.reduceLT, reduceCtorEq, yl]
  obtain ⟨hl1, hl2⟩ := intss_few ol
  have hs := spec_SolveTwo.fc v l hl1 hl2
  have hi := impl_SolveTwo.fc v l hl1 hl2
  have o0 := solveD_w v l
  generalize solveD v l = R at hs hi o0
  obtain ⟨R0, R1, R2⟩ := R
  dsimp only at hs hi o0
  have hnr : noRs (.tup [bools R0, Bb R1, Bb R2]) = true := noRs_t3 noRs_bools rfl rfl
  refine fcW_bd (laws_toIntSS.fcu l ol) noRs_intss ?_
  simp only [go_sem, ↓reduceIte, Nat.reduceEqDiff, Nat.reduceAdd, Nat.reduceMul, Nat.reduceBEq, Option.getD_none, Int.reduceToNat, Nat.reduceSub, Nat.reduceLT, Nat.reduceLeDiff, Int.reduceLE, Int.reduceLT, reduceCtorEq, yl, take_map_len, mkBoolS_len, mkIntSS_len, mkBoolS_take, mkIntSS_take]
  refine fcW_bd hs hnr ?_
  simp only [go_sem, ↓reduceIte, Nat.reduceEqDiff, Nat.reduceAdd, Nat.reduceMul, Nat.reduceBEq, Option.getD_none, Int.reduceToNat, Nat.reduceSub, Nat.reduceLT, Nat.reduceLeDiff, Int.reduceLE, Int.reduceLT, reduceCtorEq, yl, take_map_len, mkBoolS_len, mkIntSS_len, mkBoolS_take, mkIntSS_take]
  refine fcW_bd (laws_toIntSS.fcu l ol) noRs_intss ?_
  simp only [go_sem, ↓reduceIte, Nat.reduceEqDiff, Nat.reduceAdd, Nat.reduceMul, Nat.reduceBEq, Option.getD_none, Int.reduceToNat, Nat.reduceSub, Nat.reduceLT, Nat.reduceLeDiff, Int.reduceLE, Int.reduceLT, reduceCtorEq, yl, take_map_len, mkBoolS_len, mkIntSS_len, mkBoolS_take, mkIntSS_take]
  refine fcW_bd hi hnr ?_
  simp only [go_sem, ↓reduceIte, Nat.reduceEqDiff, Nat.reduceAdd, Nat.reduceMul, Nat.reduceBEq, Option.getD_none, Int.reduceToNat, Nat.reduceSub, Nat.reduceLT, Nat.reduceLeDiff, Int.reduceLE, Int.reduceLT, reduceCtorEq, yl, take_map_len, mkBoolS_len, mkIntSS_len, mkBoolS_take, mkIntSS_take]
  refine fcW_bool (laws_eqBoolS.fcu R0 o0) ?_
  simp only [go_sem, ↓reduceIte, Nat.reduceEqDiff, Nat.reduceAdd, Nat.reduceMul, Nat.reduceBEq, Option.getD_none, Int.reduceToNat, Nat.reduceSub, Nat.reduceLT, Nat.reduceLeDiff, Int.reduceLE, Int.reduceLT, reduceCtorEq, yl, take_map_len, mkBoolS_len, mkIntSS_len, mkBoolS_take, mkIntSS_take]
  refine fcW_bd (laws_toIntSS.fcu l ol) noRs_intss ?_
  simp only [go_sem, ↓reduceIte, Nat.reduceEqDiff, Nat.reduceAdd, Nat.reduceMul, Nat.reduceBEq, Option.getD_none, Int.reduceToNat, Nat.reduceSub, Nat.reduceLT, Nat.reduceLeDiff, Int.reduceLE, Int.reduceLT, reduceCtorEq, yl, take_map_len, mkBoolS_len, mkIntSS_len, mkBoolS_take, mkIntSS_take]
  refine fcW_bool (laws_eqIntSS.fcu l ol) ?_
  simp only [go_sem, ↓reduceIte, Nat.reduceEqDiff, Nat.reduceAdd, Nat.reduceMul, Nat.reduceBEq, Option.getD_none, Int.reduceToNat, Nat.reduceSub, Nat.reduceLT, Nat.reduceLeDiff, Int.reduceLE, Int.reduceLT, reduceCtorEq, yl, take_map_len, mkBoolS_len, mkIntSS_len, mkBoolS_take, mkIntSS_take]
  have hc1 := cIntSS_le l
  refine coW_of (laws_markIntSS.fcu l (1) ol (by omega) (by omega)) rfl (by simp only [noRsL, noRs_intss, Bool.and_self]) ?_
  have hn1 : ¬ ((1 + (cIntSS l : Nat) : Int) < 0) := by omega
  simp only [go_sem, ↓reduceIte, Nat.reduceEqDiff, Nat.reduceAdd, Nat.reduceMul, Nat.reduceBEq, Option.getD_none, Int.reduceToNat, Nat.reduceSub, Nat.reduceLT, Nat.reduceLeDiff, Int.reduceLE, Int.reduceLT, reduceCtorEq, hn1, yl, take_map_len, mkBoolS_len, mkIntSS_len, mkBoolS_take, mkIntSS_take]
  refine fcW_bool (laws_eqBoolS.fcu R0 o0) ?_
  simp only [go_sem, ↓reduceIte, Nat.reduceEqDiff, Nat.reduceAdd, Nat.reduceMul, Nat.reduceBEq, Option.getD_none, Int.reduceToNat, Nat.reduceSub, Nat.reduceLT, Nat.reduceLeDiff, Int.reduceLE, Int.reduceLT, reduceCtorEq, yl, take_map_len, mkBoolS_len, mkIntSS_len, mkBoolS_take, mkIntSS_take]
  refine coW_of (laws_markBoolS.fcu R0 (1) o0 (by omega) (by omega)) rfl (by simp only [noRsL, noRs_bools, Bool.and_self]) ?_
  have hn2 : ¬ ((1 + (R0.length : Nat) : Int) < 0) := by omega
  simp only [go_sem, ↓reduceIte, Nat.reduceEqDiff, Nat.reduceAdd, Nat.reduceMul, Nat.reduceBEq, Option.getD_none, Int.reduceToNat, Nat.reduceSub, Nat.reduceLT, Nat.reduceLeDiff, Int.reduceLE, Int.reduceLT, reduceCtorEq, hn2, yl, take_map_len, mkBoolS_len, mkIntSS_len, mkBoolS_take, mkIntSS_take]
  refine fcW_int (laws_heldBoolS.fcu R0 (1) o0 (by omega) (by omega)) ?_
  have hn3 : ¬ ((1 + (R0.length : Nat) : Int) < 0) := by omega
  simp only [go_sem, ↓reduceIte, Nat.reduceEqDiff, Nat.reduceAdd, Nat.reduceMul, Nat.reduceBEq, Option.getD_none, Int.reduceToNat, Nat.reduceSub, Nat.reduceLT, Nat.reduceLeDiff, Int.reduceLE, Int.reduceLT, reduceCtorEq, hn3, yl, take_map_len, mkBoolS_len, mkIntSS_len, mkBoolS_take, mkIntSS_take]
  refine fcW_bd (laws_toIntSS.fcu l ol) noRs_intss ?_
  simp only [go_sem, ↓reduceIte, Nat.reduceEqDiff, Nat.reduceAdd, Nat.reduceMul, Nat.reduceBEq, Option.getD_none, Int.reduceToNat, Nat.reduceSub, Nat.reduceLT, Nat.reduceLeDiff, Int.reduceLE, Int.reduceLT, reduceCtorEq, yl, take_map_len, mkBoolS_len, mkIntSS_len, mkBoolS_take, mkIntSS_take]
  refine fcW_bd hi hnr ?_
  simp only [go_sem, ↓reduceIte, Nat.reduceEqDiff, Nat.reduceAdd, Nat.reduceMul, Nat.reduceBEq, Option.getD_none, Int.reduceToNat, Nat.reduceSub, Nat.reduceLT, Nat.reduceLeDiff, Int.reduceLE, Int.reduceLT, reduceCtorEq, yl, take_map_len, mkBoolS_len, mkIntSS_len, mkBoolS_take, mkIntSS_take]
  refine fcW_bool (laws_eqBoolS.fcu R0 o0) ?_
  simp only [go_sem, ↓reduceIte, Nat.reduceEqDiff, Nat.reduceAdd, Nat.reduceMul, Nat.reduceBEq, Option.getD_none, Int.reduceToNat, Nat.reduceSub, Nat.reduceLT, Nat.reduceLeDiff, Int.reduceLE, Int.reduceLT, reduceCtorEq, yl, take_map_len, mkBoolS_len, mkIntSS_len, mkBoolS_take, mkIntSS_take]
  refine fcW_int (laws_heldBoolS.fcu R0 (1) o0 (by omega) (by omega)) ?_
  have hn4 : ¬ ((1 + (R0.length : Nat) : Int) < 0) := by omega
  simp only [go_sem, ↓reduceIte, Nat.reduceEqDiff, Nat.reduceAdd, Nat.reduceMul, Nat.reduceBEq, Option.getD_none, Int.reduceToNat, Nat.reduceSub, Nat.reduceLT, Nat.reduceLeDiff, Int.reduceLE, Int.reduceLT, reduceCtorEq, hn4, yl, take_map_len, mkBoolS_len, mkIntSS_len, mkBoolS_take, mkIntSS_take]
end Go.Vm.Ytdebllkmblakkaa
namespace Go.Proofs.Ytdebllkmblakkaa
open Go Go.Vm
theorem solveTwo_own : ownKnob Try.prog.godebug = none := by kernel_rfl
theorem solveTwo_laid : laidOutB Try.prog = true := by kernel_rfl
set_option maxRecDepth 100000 in
theorem solveTwo_lifted (os : Os) (started : os.Started) (H : Type) (enc : TypeId × Value → H) :
    ReturnsInHanded {} Try.checked os 7 .any (Rows.fnExactSolveTwoSpec.pre6 enc Try.prog Try.f7 Rows.fnExactSolveTwoRow.domain false) (Rows.fnExactSolveTwoSpec.post enc Try.prog Try.f7 false true false false) := by
  refine returnsInHanded_of_change_sized (C := Try.checked) solveTwo_own started (by kernel_rfl) Try.func7
    (ChangeSpec.witness6 (enc := enc) (C := Try.checked) false ⟨#[], #[.int .i64 0, .slice none 0 0], []⟩ 8 (by kernel_rfl) (by kernel_rfl) (by kernel_rfl) (by kernel_rfl)) ?_
  intro W base args ds gs before hval hW _ _ _
  refine law_contract (C := Try.checked) (f := 7) [.int .i64, .sl (.sl (.int .i64))] (rt := 4) rfl (by kernel_rfl) rfl (by kernel_rfl) solveTwo_laid (fun H ds h => ?_) (fun ds h => ?_) hval hW
  · match ds, h with
    | [_, _], _ => rfl
  · simp only [HasTys] at h
    obtain ⟨d1, ds1, rfl, h1, d2, ds2, rfl, h2, rfl⟩ := h
    obtain ⟨v, rfl, _⟩ := hasInt h1
    obtain ⟨l, rfl, wl⟩ := Vm.Ytdebllkmblakkaa.hasIntSS h2
    exact Vm.Ytdebllkmblakkaa.laws_FnExactSolveTwo.fc v l wl
theorem solveTwo_over : Rows.fnExactSolveTwoRow.holds Try.pinned (OpenSpec.ofChange Rows.fnExactSolveTwoSpec) :=
  OpenClaim.holds_of_wide 7 Try.f7 rfl rfl rfl rfl rfl rfl rfl ⟨rfl, rfl, rfl, rfl, rfl⟩ rfl rfl rfl rfl rfl (by kernel_rfl) Try.func7 (by kernel_rfl)
    (of_decide_eq_true (by kernel_rfl)) (by unfold Func.isWrapper; first | (rw [if_pos (by decide +kernel)]; kernel_rfl) | (rw [if_neg (by decide +kernel)]; exact ⟨rfl, rfl⟩))
    (fun os started H enc _ => solveTwo_lifted os started H enc)
/-- The law FnExactSolveTwo holds as given. -/
theorem solveTwo_holds : Rows.FnExactSolveTwoSaid := solveTwo_over
#print axioms solveTwo_holds
end Go.Proofs.Ytdebllkmblakkaa
