/- The law FnExactIsTwo returns true at all arguments (no condition); its row. -/
import Derived.Test.YtedcnkglldmkbaaWka
import Derived.Test.YtedcnkglldmkbaaRows
namespace Go.Vm.Ytedcnkglldmkbaa
open Go Go.Vm
set_option maxRecDepth 10000
set_option linter.unusedSimpArgs false
set_option linter.unusedVariables false

theorem laws_FnExactIsTwo.fc (n : Int) (l : List (List Int)) (hl : l.length ≤ 9223372036854775807) (hr : ∀ r ∈ l, r.length ≤ 9223372036854775807) :
    FCt prog F_laws_FnExactIsTwo [.ro, .ro] [Ii n, intss l] (Bb true) [] := by
  refine fct_run laws_FnExactIsTwo.ok rfl ?_
  simp only [go_sem, ↓reduceIte, Nat.reduceEqDiff, Nat.reduceAdd, Nat.reduceMul, Nat.reduceBEq, Option.getD_none, Int.reduceToNat, Nat.reduceSub, Nat.reduceLT, Nat.reduceLeDiff, Int.reduceLE, Int.reduceLT, reduceCtorEq]
  refine fcW_int (laws_szIntSS.fc l _ (by omega) hl hr) ?_
  by_cases h1 : (1048576 : Int) - l.length < 0
  · simp only [go_sem, ↓reduceIte, Nat.reduceEqDiff, Nat.reduceAdd, Nat.reduceMul, Nat.reduceBEq, Option.getD_none, Int.reduceToNat, Nat.reduceSub, Nat.reduceLT, Nat.reduceLeDiff, Int.reduceLE, Int.reduceLT, reduceCtorEq, h1]
  · by_cases h2 : szL List.length l (1048576 - l.length) < 0
    · simp only [go_sem, ↓reduceIte, Nat.reduceEqDiff, Nat.reduceAdd, Nat.reduceMul, Nat.reduceBEq, Option.getD_none, Int.reduceToNat, Nat.reduceSub, Nat.reduceLT, Nat.reduceLeDiff, Int.reduceLE, Int.reduceLT, reduceCtorEq, h1, h2]
    · have hl' : l.length ≤ 4294967296 := by omega
      have hr' : ∀ r ∈ l, r.length ≤ 4294967296 := fun r hm => by have := szL_small h2 r hm; omega
      simp only [go_sem, ↓reduceIte, Nat.reduceEqDiff, Nat.reduceAdd, Nat.reduceMul, Nat.reduceBEq, Option.getD_none, Int.reduceToNat, Nat.reduceSub, Nat.reduceLT, Nat.reduceLeDiff, Int.reduceLE, Int.reduceLT, reduceCtorEq, h1, h2, take_map_len]
      refine fcW_bd (laws_toIntSS.fc l hl' hr') noRs_intss ?_
      simp only [go_sem, ↓reduceIte, Nat.reduceEqDiff, Nat.reduceAdd, Nat.reduceMul, Nat.reduceBEq, Option.getD_none, Int.reduceToNat, Nat.reduceSub, Nat.reduceLT, Nat.reduceLeDiff, Int.reduceLE, Int.reduceLT, reduceCtorEq, h1, h2, take_map_len]
      refine fcW_bool (spec_IsTwo.fc n l hl' hr') ?_
      simp only [go_sem, ↓reduceIte, Nat.reduceEqDiff, Nat.reduceAdd, Nat.reduceMul, Nat.reduceBEq, Option.getD_none, Int.reduceToNat, Nat.reduceSub, Nat.reduceLT, Nat.reduceLeDiff, Int.reduceLE, Int.reduceLT, reduceCtorEq, h1, h2, take_map_len]
      refine fcW_bd (laws_toIntSS.fc l hl' hr') noRs_intss ?_
      simp only [go_sem, ↓reduceIte, Nat.reduceEqDiff, Nat.reduceAdd, Nat.reduceMul, Nat.reduceBEq, Option.getD_none, Int.reduceToNat, Nat.reduceSub, Nat.reduceLT, Nat.reduceLeDiff, Int.reduceLE, Int.reduceLT, reduceCtorEq, h1, h2, take_map_len]
      refine fcW_bool (impl_IsTwo.fc n l hl' hr') ?_
      simp only [go_sem, ↓reduceIte, Nat.reduceEqDiff, Nat.reduceAdd, Nat.reduceMul, Nat.reduceBEq, Option.getD_none, Int.reduceToNat, Nat.reduceSub, Nat.reduceLT, Nat.reduceLeDiff, Int.reduceLE, Int.reduceLT, reduceCtorEq, h1, h2, take_map_len]
      refine fcW_bd (laws_toIntSS.fc l hl' hr') noRs_intss ?_
      simp only [go_sem, ↓reduceIte, Nat.reduceEqDiff, Nat.reduceAdd, Nat.reduceMul, Nat.reduceBEq, Option.getD_none, Int.reduceToNat, Nat.reduceSub, Nat.reduceLT, Nat.reduceLeDiff, Int.reduceLE, Int.reduceLT, reduceCtorEq, h1, h2, take_map_len]
      refine fcW_bool (laws_eqIntSS.fc l l hl' hl' hr') ?_
      simp only [go_sem, ↓reduceIte, Nat.reduceEqDiff, Nat.reduceAdd, Nat.reduceMul, Nat.reduceBEq, Option.getD_none, Int.reduceToNat, Nat.reduceSub, Nat.reduceLT, Nat.reduceLeDiff, Int.reduceLE, Int.reduceLT, reduceCtorEq, h1, h2, take_map_len]
theorem hasIntss {d : D} (h : HasTy (.sl (.sl (.int .i64))) d) : ∃ l : List (List Int), d = intss l ∧ l.length ≤ 9223372036854775807 ∧ ∀ r ∈ l, r.length ≤ 9223372036854775807 := by
  simp only [HasTy] at h
  obtain ⟨xs, rfl, hl, h⟩ := h
  have : ∀ xs : List D, (∀ x ∈ xs, HasTy (.sl (.int .i64)) x) → ∃ l : List (List Int), xs = l.map ints ∧ ∀ n ∈ l, n.length ≤ 9223372036854775807 := by
    intro xs
    induction xs with
    | nil => intro _; exact ⟨[], rfl, by simp⟩
    | cons x xs ih =>
      intro h
      obtain ⟨n, rfl, hn, _⟩ := hasInts (h x List.mem_cons_self)
      obtain ⟨l, rfl, hl⟩ := ih fun y hy => h y (List.mem_cons_of_mem _ hy)
      exact ⟨n :: l, rfl, fun m hm => by
        rcases List.mem_cons.1 hm with rfl | hm
        · exact hn
        · exact hl m hm⟩
  obtain ⟨l, rfl, hn⟩ := this xs (by simpa only [HasTy] using h)
  exact ⟨l, rfl, by simpa [maxLen] using hl, hn⟩
end Go.Vm.Ytedcnkglldmkbaa
namespace Go.Proofs.Ytedcnkglldmkbaa
open Go Go.Vm
theorem isTwo_own : ownKnob Try.prog.godebug = none := by kernel_rfl
theorem isTwo_laid : laidOutB Try.prog = true := by kernel_rfl
set_option maxRecDepth 100000 in
theorem isTwo_lifted (os : Os) (started : os.Started) (H : Type) (enc : TypeId × Value → H) :
    ReturnsInHanded {} Try.checked os 6 .any (Rows.fnExactIsTwoSpec.pre6 enc Try.prog Try.f6 Rows.fnExactIsTwoRow.domain false) (Rows.fnExactIsTwoSpec.post enc Try.prog Try.f6 false true false false) := by
  refine returnsInHanded_of_change_sized (C := Try.checked) isTwo_own started (by kernel_rfl) Try.func6
    (ChangeSpec.witness6 (enc := enc) (C := Try.checked) false ⟨#[], #[.int .i64 0, .slice none 0 0], []⟩ 8 (by kernel_rfl) (by kernel_rfl) (by kernel_rfl) (by kernel_rfl)) ?_
  intro W base args ds gs before hval hW _ _ _
  refine law_contract (C := Try.checked) (f := 6) [.int .i64, .sl (.sl (.int .i64))] (rt := 4) rfl (by kernel_rfl) rfl (by kernel_rfl) isTwo_laid (fun H ds h => ?_) (fun ds h => ?_) hval hW
  · match ds, h with
    | [_, _], _ => rfl
  · simp only [HasTys] at h
    obtain ⟨d1, ds1, rfl, h1, d2, ds2, rfl, h2, rfl⟩ := h
    obtain ⟨n, rfl, _⟩ := hasInt h1
    obtain ⟨l, rfl, hl, hr⟩ := Vm.Ytedcnkglldmkbaa.hasIntss h2
    exact Vm.Ytedcnkglldmkbaa.laws_FnExactIsTwo.fc n l hl hr
theorem isTwo_over : Rows.fnExactIsTwoRow.holds Try.pinned (OpenSpec.ofChange Rows.fnExactIsTwoSpec) :=
  OpenClaim.holds_of_wide 6 Try.f6 rfl rfl rfl rfl rfl rfl rfl ⟨rfl, rfl, rfl, rfl, rfl⟩ rfl rfl rfl rfl rfl (by kernel_rfl) Try.func6 (by kernel_rfl)
    (of_decide_eq_true (by kernel_rfl)) (by unfold Func.isWrapper; first | (rw [if_pos (by decide +kernel)]; kernel_rfl) | (rw [if_neg (by decide +kernel)]; exact ⟨rfl, rfl⟩))
    (fun os started H enc _ => isTwo_lifted os started H enc)
/-- The law FnExactIsTwo holds as given. -/
theorem isTwo_holds : Rows.FnExactIsTwoSaid := isTwo_over
#print axioms isTwo_holds
end Go.Proofs.Ytedcnkglldmkbaa
