/- The law FnExactIsHorn returns true at all arguments (no condition); its row. -/
import Derived.Test.YtedcnkglldmkbaaWka
import Derived.Test.YtedcnkglldmkbaaRows
namespace Go.Vm.Ytedcnkglldmkbaa
open Go Go.Vm
set_option maxRecDepth 10000
set_option linter.unusedSimpArgs false
set_option linter.unusedVariables false

theorem hornD_tup (v : Int) (l : List (List Int)) : ∃ a b, hornD v l = .tup [Bb a, Bb b] := by
  unfold hornD
  split <;> exact ⟨_, _, rfl⟩
theorem intss_few {l : List (List Int)} (h : wIntSS l ≤ 1048576) : l.length ≤ 4294967296 ∧ ∀ r ∈ l, r.length ≤ 4294967296 := by
  unfold wIntSS at h
  refine ⟨by omega, fun r hr => ?_⟩
  have := accC_mem (c := fun x : List Int => x.length) hr
  omega
theorem laws_FnExactIsHorn.fc (v : Int) (l : List (List Int)) (wl : wfIntSS l) :
    FCt prog F_laws_FnExactIsHorn [.ro, .ro] [Ii v, intss l] (Bb true) [] := by
  refine fct_run laws_FnExactIsHorn.ok rfl ?_
  simp only [go_sem, ↓reduceIte, Nat.reduceEqDiff, Nat.reduceAdd, Nat.reduceMul, Nat.reduceBEq, Option.getD_none, Int.reduceToNat, Nat.reduceSub, Nat.reduceLT, Nat.reduceLeDiff, Int.reduceLE, Int.reduceLT, reduceCtorEq]
  refine fcW_int (laws_szIntSS.fcu l _ (by omega) wl) ?_
  by_cases zl : (1048576 : Int) < (wIntSS l : Nat)
  · rw [if_pos zl]; simp only [go_sem, ↓reduceIte, Nat.reduceEqDiff, Nat.reduceAdd, Nat.reduceMul, Nat.reduceBEq, Option.getD_none, Int.reduceToNat, Nat.reduceSub, Nat.reduceLT, Nat.reduceLeDiff, Int.reduceLE, Int.reduceLT, reduceCtorEq]
  have ol : wIntSS l ≤ 1048576 := by omega
  rw [if_neg zl]
  have yl : ¬ ((1048576 : Int) - (wIntSS l : Nat) < 0) := by omega
  simp only [go_sem, ↓reduceIte, Nat.reduceEqDiff, Nat.reduceAdd, Nat.reduceMul, Nat.reduceBEq, Option.getD_none, Int.reduceToNat, Nat.reduceSub, Nat.reduceLT, Nat.reduceLeDiff, Int.reduceLE, Int.reduceLT, reduceCtorEq, yl]
  obtain ⟨hl1, hl2⟩ := intss_few ol
  obtain ⟨R0, R1, hR⟩ := hornD_tup v l
  have hs := spec_IsHorn.fc v l hl1 hl2
  have hi := impl_IsHorn.fc v l hl1 hl2
  rw [hR] at hs hi
  have hnr : noRs (.tup [Bb R0, Bb R1]) = true := rfl
  refine fcW_bd (laws_toIntSS.fcu l ol) noRs_intss ?_
  simp only [go_sem, ↓reduceIte, Nat.reduceEqDiff, Nat.reduceAdd, Nat.reduceMul, Nat.reduceBEq, Option.getD_none, Int.reduceToNat, Nat.reduceSub, Nat.reduceLT, Nat.reduceLeDiff, Int.reduceLE, Int.reduceLT, reduceCtorEq, yl, take_map_len]
  refine fcW_bd hs hnr ?_
  simp only [go_sem, ↓reduceIte, Nat.reduceEqDiff, Nat.reduceAdd, Nat.reduceMul, Nat.reduceBEq, Option.getD_none, Int.reduceToNat, Nat.reduceSub, Nat.reduceLT, Nat.reduceLeDiff, Int.reduceLE, Int.reduceLT, reduceCtorEq, yl, take_map_len]
  refine fcW_bd (laws_toIntSS.fcu l ol) noRs_intss ?_
  simp only [go_sem, ↓reduceIte, Nat.reduceEqDiff, Nat.reduceAdd, Nat.reduceMul, Nat.reduceBEq, Option.getD_none, Int.reduceToNat, Nat.reduceSub, Nat.reduceLT, Nat.reduceLeDiff, Int.reduceLE, Int.reduceLT, reduceCtorEq, yl, take_map_len]
  refine fcW_bd hi hnr ?_
  simp only [go_sem, ↓reduceIte, Nat.reduceEqDiff, Nat.reduceAdd, Nat.reduceMul, Nat.reduceBEq, Option.getD_none, Int.reduceToNat, Nat.reduceSub, Nat.reduceLT, Nat.reduceLeDiff, Int.reduceLE, Int.reduceLT, reduceCtorEq, yl, take_map_len]
  refine fcW_bd (laws_toIntSS.fcu l ol) noRs_intss ?_
  simp only [go_sem, ↓reduceIte, Nat.reduceEqDiff, Nat.reduceAdd, Nat.reduceMul, Nat.reduceBEq, Option.getD_none, Int.reduceToNat, Nat.reduceSub, Nat.reduceLT, Nat.reduceLeDiff, Int.reduceLE, Int.reduceLT, reduceCtorEq, yl, take_map_len]
  refine fcW_bool (laws_eqIntSS.fcu l ol) ?_
  simp only [go_sem, ↓reduceIte, Nat.reduceEqDiff, Nat.reduceAdd, Nat.reduceMul, Nat.reduceBEq, Option.getD_none, Int.reduceToNat, Nat.reduceSub, Nat.reduceLT, Nat.reduceLeDiff, Int.reduceLE, Int.reduceLT, reduceCtorEq, yl, take_map_len]
end Go.Vm.Ytedcnkglldmkbaa
namespace Go.Proofs.Ytedcnkglldmkbaa
open Go Go.Vm
theorem isHorn_own : ownKnob Try.prog.godebug = none := by kernel_rfl
theorem isHorn_laid : laidOutB Try.prog = true := by kernel_rfl
set_option maxRecDepth 100000 in
theorem isHorn_lifted (os : Os) (started : os.Started) (H : Type) (enc : TypeId × Value → H) :
    ReturnsInHanded {} Try.checked os 9 .any (Rows.fnExactIsHornSpec.pre6 enc Try.prog Try.f9 Rows.fnExactIsHornRow.domain false) (Rows.fnExactIsHornSpec.post enc Try.prog Try.f9 false true false false) := by
  refine returnsInHanded_of_change_sized (C := Try.checked) isHorn_own started (by kernel_rfl) Try.func9
    (ChangeSpec.witness6 (enc := enc) (C := Try.checked) false ⟨#[], #[.int .i64 0, .slice none 0 0], []⟩ 8 (by kernel_rfl) (by kernel_rfl) (by kernel_rfl) (by kernel_rfl)) ?_
  intro W base args ds gs before hval hW _ _ _
  refine law_contract (C := Try.checked) (f := 9) [.int .i64, .sl (.sl (.int .i64))] (rt := 4) rfl (by kernel_rfl) rfl (by kernel_rfl) isHorn_laid (fun H ds h => ?_) (fun ds h => ?_) hval hW
  · match ds, h with
    | [_, _], _ => rfl
  · simp only [HasTys] at h
    obtain ⟨d1, ds1, rfl, h1, d2, ds2, rfl, h2, rfl⟩ := h
    obtain ⟨v, rfl, _⟩ := hasInt h1
    obtain ⟨l, rfl, wl⟩ := Vm.Ytedcnkglldmkbaa.hasIntSS h2
    exact Vm.Ytedcnkglldmkbaa.laws_FnExactIsHorn.fc v l wl
theorem isHorn_over : Rows.fnExactIsHornRow.holds Try.pinned (OpenSpec.ofChange Rows.fnExactIsHornSpec) :=
  OpenClaim.holds_of_wide 9 Try.f9 rfl rfl rfl rfl rfl rfl rfl ⟨rfl, rfl, rfl, rfl, rfl⟩ rfl rfl rfl rfl rfl (by kernel_rfl) Try.func9 (by kernel_rfl)
    (of_decide_eq_true (by kernel_rfl)) (by unfold Func.isWrapper; first | (rw [if_pos (by decide +kernel)]; kernel_rfl) | (rw [if_neg (by decide +kernel)]; exact ⟨rfl, rfl⟩))
    (fun os started H enc _ => isHorn_lifted os started H enc)
/-- The law FnExactIsHorn holds as given. -/
theorem isHorn_holds : Rows.FnExactIsHornSaid := isHorn_over
#print axioms isHorn_holds
end Go.Proofs.Ytedcnkglldmkbaa
