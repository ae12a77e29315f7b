/- The law FnExactBackArcs returns true at all arguments (no condition); its row. -/
import Derived.Test.YtedcnkglldmkbaaWka
import Derived.Test.YtedcnkglldmkbaaRows
namespace Go.Vm.Ytedcnkglldmkbaa
open Go Go.Vm
set_option maxRecDepth 10000
set_option linter.unusedSimpArgs false
set_option linter.unusedVariables false

theorem backI_tup (n : Int) (l : List (Int × Int)) : ∃ R b, backI n l = .tup [ints R, Bb b] ∧ R.length ≤ 1048576 := by
  unfold backI
  split
  · rename_i h
    obtain ⟨hn, h2, _⟩ := goodA_mem h
    have := listI_len l.length (backP n.toNat l)
    exact ⟨_, _, rfl, by omega⟩
  · exact ⟨[], _, rfl, by simp⟩
theorem laws_FnExactBackArcs.fc (n : Int) (l : List (Int × Int)) (wl : l.length ≤ 9223372036854775807) :
    FCt prog F_laws_FnExactBackArcs [.ro, .ro] [Ii n, arcs l] (Bb true) [] := by
  refine fct_run laws_FnExactBackArcs.ok rfl ?_
  simp only [go_sem, ↓reduceIte, Nat.reduceEqDiff, Nat.reduceAdd, Nat.reduceMul, Nat.reduceBEq, Option.getD_none, Int.reduceToNat, Nat.reduceSub, Nat.reduceLT, Nat.reduceLeDiff, Int.reduceLE, Int.reduceLT, reduceCtorEq]
  refine fcW_int (laws_szArcS.fcu l _ (by omega) wl) ?_
  by_cases zl : (1048576 : Int) < (l.length : Nat)
  · rw [if_pos zl]; simp only [go_sem, ↓reduceIte, Nat.reduceEqDiff, Nat.reduceAdd, Nat.reduceMul, Nat.reduceBEq, Option.getD_none, Int.reduceToNat, Nat.reduceSub, Nat.reduceLT, Nat.reduceLeDiff, Int.reduceLE, Int.reduceLT, reduceCtorEq]
  have ol : l.length ≤ 1048576 := by omega
  rw [if_neg zl]
  have yl : ¬ ((1048576 : Int) - (l.length : Nat) < 0) := by omega
  simp only [go_sem, ↓reduceIte, Nat.reduceEqDiff, Nat.reduceAdd, Nat.reduceMul, Nat.reduceBEq, Option.getD_none, Int.reduceToNat, Nat.reduceSub, Nat.reduceLT, Nat.reduceLeDiff, Int.reduceLE, Int.reduceLT, reduceCtorEq, yl]
  have hl' : l.length ≤ 4294967296 := by omega
  obtain ⟨R0, R1, hR, o0⟩ := backI_tup n l
  have hs := spec_BackArcs.fc n l hl'
  have hi := impl_BackArcs.fc n l hl'
  rw [hR] at hs hi
  have hnr : noRs (.tup [ints R0, Bb R1]) = true := by simp only [noRs, noRsL, Bool.and_true, Bool.true_and]; exact noRs_ints
  refine fcW_bd (laws_toArcS.fcu l ol) noRs_arcs ?_
  simp only [go_sem, ↓reduceIte, Nat.reduceEqDiff, Nat.reduceAdd, Nat.reduceMul, Nat.reduceBEq, Option.getD_none, Int.reduceToNat, Nat.reduceSub, Nat.reduceLT, Nat.reduceLeDiff, Int.reduceLE, Int.reduceLT, reduceCtorEq, yl, take_map_len, mkArcS_len, mkIntS_len, mkArcS_take, mkIntS_take]
  refine fcW_bd hs hnr ?_
  simp only [go_sem, ↓reduceIte, Nat.reduceEqDiff, Nat.reduceAdd, Nat.reduceMul, Nat.reduceBEq, Option.getD_none, Int.reduceToNat, Nat.reduceSub, Nat.reduceLT, Nat.reduceLeDiff, Int.reduceLE, Int.reduceLT, reduceCtorEq, yl, take_map_len, mkArcS_len, mkIntS_len, mkArcS_take, mkIntS_take]
  refine fcW_bd (laws_toArcS.fcu l ol) noRs_arcs ?_
  simp only [go_sem, ↓reduceIte, Nat.reduceEqDiff, Nat.reduceAdd, Nat.reduceMul, Nat.reduceBEq, Option.getD_none, Int.reduceToNat, Nat.reduceSub, Nat.reduceLT, Nat.reduceLeDiff, Int.reduceLE, Int.reduceLT, reduceCtorEq, yl, take_map_len, mkArcS_len, mkIntS_len, mkArcS_take, mkIntS_take]
  refine fcW_bd hi hnr ?_
  simp only [go_sem, ↓reduceIte, Nat.reduceEqDiff, Nat.reduceAdd, Nat.reduceMul, Nat.reduceBEq, Option.getD_none, Int.reduceToNat, Nat.reduceSub, Nat.reduceLT, Nat.reduceLeDiff, Int.reduceLE, Int.reduceLT, reduceCtorEq, yl, take_map_len, mkArcS_len, mkIntS_len, mkArcS_take, mkIntS_take]
  refine fcW_bool (laws_eqIntS.fcu R0 o0) ?_
  simp only [go_sem, ↓reduceIte, Nat.reduceEqDiff, Nat.reduceAdd, Nat.reduceMul, Nat.reduceBEq, Option.getD_none, Int.reduceToNat, Nat.reduceSub, Nat.reduceLT, Nat.reduceLeDiff, Int.reduceLE, Int.reduceLT, reduceCtorEq, yl, take_map_len, mkArcS_len, mkIntS_len, mkArcS_take, mkIntS_take]
  refine fcW_bd (laws_toArcS.fcu l ol) noRs_arcs ?_
  simp only [go_sem, ↓reduceIte, Nat.reduceEqDiff, Nat.reduceAdd, Nat.reduceMul, Nat.reduceBEq, Option.getD_none, Int.reduceToNat, Nat.reduceSub, Nat.reduceLT, Nat.reduceLeDiff, Int.reduceLE, Int.reduceLT, reduceCtorEq, yl, take_map_len, mkArcS_len, mkIntS_len, mkArcS_take, mkIntS_take]
  refine fcW_bool (laws_eqArcS.fcu l ol) ?_
  simp only [go_sem, ↓reduceIte, Nat.reduceEqDiff, Nat.reduceAdd, Nat.reduceMul, Nat.reduceBEq, Option.getD_none, Int.reduceToNat, Nat.reduceSub, Nat.reduceLT, Nat.reduceLeDiff, Int.reduceLE, Int.reduceLT, reduceCtorEq, yl, take_map_len, mkArcS_len, mkIntS_len, mkArcS_take, mkIntS_take]
  refine coW_of (laws_markArcS.fcu l (1) ol (by omega) (by omega)) rfl (by simp only [noRsL, noRs_arcs, Bool.and_self]) ?_
  have hn1 : ¬ ((1 + ((2 * l.length) : Nat) : Int) < 0) := by omega
  simp only [go_sem, ↓reduceIte, Nat.reduceEqDiff, Nat.reduceAdd, Nat.reduceMul, Nat.reduceBEq, Option.getD_none, Int.reduceToNat, Nat.reduceSub, Nat.reduceLT, Nat.reduceLeDiff, Int.reduceLE, Int.reduceLT, reduceCtorEq, hn1, yl, take_map_len, mkArcS_len, mkIntS_len, mkArcS_take, mkIntS_take]
  refine fcW_bool (laws_eqIntS.fcu R0 o0) ?_
  simp only [go_sem, ↓reduceIte, Nat.reduceEqDiff, Nat.reduceAdd, Nat.reduceMul, Nat.reduceBEq, Option.getD_none, Int.reduceToNat, Nat.reduceSub, Nat.reduceLT, Nat.reduceLeDiff, Int.reduceLE, Int.reduceLT, reduceCtorEq, yl, take_map_len, mkArcS_len, mkIntS_len, mkArcS_take, mkIntS_take]
  refine coW_of (laws_markIntS.fcu R0 (1) o0 (by omega) (by omega)) rfl (by simp only [noRsL, noRs_ints, Bool.and_self]) ?_
  have hn2 : ¬ ((1 + (R0.length : Nat) : Int) < 0) := by omega
  simp only [go_sem, ↓reduceIte, Nat.reduceEqDiff, Nat.reduceAdd, Nat.reduceMul, Nat.reduceBEq, Option.getD_none, Int.reduceToNat, Nat.reduceSub, Nat.reduceLT, Nat.reduceLeDiff, Int.reduceLE, Int.reduceLT, reduceCtorEq, hn2, yl, take_map_len, mkArcS_len, mkIntS_len, mkArcS_take, mkIntS_take]
  refine fcW_int (laws_heldIntS.fcu R0 (1) o0 (by omega) (by omega)) ?_
  have hn3 : ¬ ((1 + (R0.length : Nat) : Int) < 0) := by omega
  simp only [go_sem, ↓reduceIte, Nat.reduceEqDiff, Nat.reduceAdd, Nat.reduceMul, Nat.reduceBEq, Option.getD_none, Int.reduceToNat, Nat.reduceSub, Nat.reduceLT, Nat.reduceLeDiff, Int.reduceLE, Int.reduceLT, reduceCtorEq, hn3, yl, take_map_len, mkArcS_len, mkIntS_len, mkArcS_take, mkIntS_take]
  refine fcW_bd (laws_toArcS.fcu l ol) noRs_arcs ?_
  simp only [go_sem, ↓reduceIte, Nat.reduceEqDiff, Nat.reduceAdd, Nat.reduceMul, Nat.reduceBEq, Option.getD_none, Int.reduceToNat, Nat.reduceSub, Nat.reduceLT, Nat.reduceLeDiff, Int.reduceLE, Int.reduceLT, reduceCtorEq, yl, take_map_len, mkArcS_len, mkIntS_len, mkArcS_take, mkIntS_take]
  refine fcW_bd hi hnr ?_
  simp only [go_sem, ↓reduceIte, Nat.reduceEqDiff, Nat.reduceAdd, Nat.reduceMul, Nat.reduceBEq, Option.getD_none, Int.reduceToNat, Nat.reduceSub, Nat.reduceLT, Nat.reduceLeDiff, Int.reduceLE, Int.reduceLT, reduceCtorEq, yl, take_map_len, mkArcS_len, mkIntS_len, mkArcS_take, mkIntS_take]
  refine fcW_bool (laws_eqIntS.fcu R0 o0) ?_
  simp only [go_sem, ↓reduceIte, Nat.reduceEqDiff, Nat.reduceAdd, Nat.reduceMul, Nat.reduceBEq, Option.getD_none, Int.reduceToNat, Nat.reduceSub, Nat.reduceLT, Nat.reduceLeDiff, Int.reduceLE, Int.reduceLT, reduceCtorEq, yl, take_map_len, mkArcS_len, mkIntS_len, mkArcS_take, mkIntS_take]
  refine fcW_int (laws_heldIntS.fcu R0 (1) o0 (by omega) (by omega)) ?_
  have hn4 : ¬ ((1 + (R0.length : Nat) : Int) < 0) := by omega
  simp only [go_sem, ↓reduceIte, Nat.reduceEqDiff, Nat.reduceAdd, Nat.reduceMul, Nat.reduceBEq, Option.getD_none, Int.reduceToNat, Nat.reduceSub, Nat.reduceLT, Nat.reduceLeDiff, Int.reduceLE, Int.reduceLT, reduceCtorEq, hn4, yl, take_map_len, mkArcS_len, mkIntS_len, mkArcS_take, mkIntS_take]
end Go.Vm.Ytedcnkglldmkbaa
namespace Go.Proofs.Ytedcnkglldmkbaa
open Go Go.Vm
theorem backArcs_own : ownKnob Try.prog.godebug = none := by kernel_rfl
theorem backArcs_laid : laidOutB Try.prog = true := by kernel_rfl
set_option maxRecDepth 100000 in
theorem backArcs_lifted (os : Os) (started : os.Started) (H : Type) (enc : TypeId × Value → H) :
    ReturnsInHanded {} Try.checked os 11 .any (Rows.fnExactBackArcsSpec.pre6 enc Try.prog Try.f11 Rows.fnExactBackArcsRow.domain false) (Rows.fnExactBackArcsSpec.post enc Try.prog Try.f11 false true false false) := by
  refine returnsInHanded_of_change_sized (C := Try.checked) backArcs_own started (by kernel_rfl) Try.func11
    (ChangeSpec.witness6 (enc := enc) (C := Try.checked) false ⟨#[], #[.int .i64 0, .slice none 0 0], []⟩ 8 (by kernel_rfl) (by kernel_rfl) (by kernel_rfl) (by kernel_rfl)) ?_
  intro W base args ds gs before hval hW _ _ _
  refine law_contract (C := Try.checked) (f := 11) [.int .i64, .sl Vm.Ytedcnkglldmkbaa.TyArc] (rt := 4) rfl (by kernel_rfl) rfl (by kernel_rfl) backArcs_laid (fun H ds h => ?_) (fun ds h => ?_) hval hW
  · match ds, h with
    | [_, _], _ => rfl
  · simp only [HasTys] at h
    obtain ⟨d1, ds1, rfl, h1, d2, ds2, rfl, h2, rfl⟩ := h
    obtain ⟨n, rfl, _⟩ := hasInt h1
    obtain ⟨l, rfl, wl⟩ := Vm.Ytedcnkglldmkbaa.hasArcS h2
    exact Vm.Ytedcnkglldmkbaa.laws_FnExactBackArcs.fc n l wl
theorem backArcs_over : Rows.fnExactBackArcsRow.holds Try.pinned (OpenSpec.ofChange Rows.fnExactBackArcsSpec) :=
  OpenClaim.holds_of_wide 11 Try.f11 rfl rfl rfl rfl rfl rfl rfl ⟨rfl, rfl, rfl, rfl, rfl⟩ rfl rfl rfl rfl rfl (by kernel_rfl) Try.func11 (by kernel_rfl)
    (of_decide_eq_true (by kernel_rfl)) (by unfold Func.isWrapper; first | (rw [if_pos (by decide +kernel)]; kernel_rfl) | (rw [if_neg (by decide +kernel)]; exact ⟨rfl, rfl⟩))
    (fun os started H enc _ => backArcs_lifted os started H enc)
/-- The law FnExactBackArcs holds as given. -/
theorem backArcs_holds : Rows.FnExactBackArcsSaid := backArcs_over
#print axioms backArcs_holds
end Go.Proofs.Ytedcnkglldmkbaa
