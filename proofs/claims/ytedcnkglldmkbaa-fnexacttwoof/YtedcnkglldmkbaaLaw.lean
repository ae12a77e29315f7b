/- The law FnExactTwoOf returns true at all arguments (no condition); its row. -/
import Derived.Test.YtedcnkglldmkbaaWka
import Derived.Test.YtedcnkglldmkbaaRows
namespace Go.Vm.Ytedcnkglldmkbaa
open Go Go.Vm
set_option maxRecDepth 10000
set_option linter.unusedSimpArgs false
set_option linter.unusedVariables false

theorem laws_FnExactTwoOf.fc (n : Int) (l : List (List Int)) (hl : l.length ≤ 9223372036854775807) (hr : ∀ r ∈ l, r.length ≤ 9223372036854775807) :
    FCt prog F_laws_FnExactTwoOf [.ro, .ro] [Ii n, intss l] (Bb true) [] := by
  refine fct_run laws_FnExactTwoOf.ok rfl ?_
  simp only [go_sem, ↓reduceIte, Nat.reduceEqDiff, Nat.reduceAdd, Nat.reduceMul, Nat.reduceBEq, Option.getD_none, Int.reduceToNat, Nat.reduceSub, Nat.reduceLT, Nat.reduceLeDiff, Int.reduceLE, Int.reduceLT, reduceCtorEq]
  refine fcW_int (laws_szIntSS.fc l _ (by omega) hl hr) ?_
  by_cases h1 : (1048576 : Int) - l.length < 0
  · simp only [go_sem, ↓reduceIte, Nat.reduceEqDiff, Nat.reduceAdd, Nat.reduceMul, Nat.reduceBEq, Option.getD_none, Int.reduceToNat, Nat.reduceSub, Nat.reduceLT, Nat.reduceLeDiff, Int.reduceLE, Int.reduceLT, reduceCtorEq, h1]
  by_cases h2 : szL List.length l (1048576 - l.length) < 0
  · simp only [go_sem, ↓reduceIte, Nat.reduceEqDiff, Nat.reduceAdd, Nat.reduceMul, Nat.reduceBEq, Option.getD_none, Int.reduceToNat, Nat.reduceSub, Nat.reduceLT, Nat.reduceLeDiff, Int.reduceLE, Int.reduceLT, reduceCtorEq, h1, h2]
  have hl' : l.length ≤ 4294967296 := by omega
  have hr' : ∀ r ∈ l, r.length ≤ 4294967296 := fun r hm => by have := szL_small h2 r hm; omega
  have hac : accC List.length l ≤ 1048576 := by have := szL_acc (by omega) h2; omega
  obtain ⟨R, b, hR, hRl, hRc, hRr⟩ := twoOf_tup n l
  have hs := spec_TwoOf.fc n l hl' hr'
  have hi := impl_TwoOf.fc n l hl' hr'
  rw [hR] at hs hi
  have hnr : noRs (.tup [intss R, Bb b]) = true := by simp only [noRs, noRsL, Bool.and_true]; exact noRs_intss
  have hRl' : R.length ≤ 4294967296 := by omega
  have hRr' : ∀ r ∈ R, r.length ≤ 4294967296 := fun r hm => by have := hRr r hm; omega
  have htR : (R.map ints).take R.length = R.map ints := take_map_len
  have htl : (l.map ints).take l.length = l.map ints := take_map_len
  have hml : (mkII 1 R).length = R.length := accM_len
  have htm : ((mkII 1 R).map ints).take R.length = (mkII 1 R).map ints := List.take_of_length_le (by simp [accM_len])
  have hnb : (b != b) = false := by cases b <;> rfl
  have hneg1 : ¬ (1 + (accC List.length l : Int) < 0) := by omega
  have hneg2 : ¬ (1 + (accC List.length R : Int) < 0) := by omega
  simp only [go_sem, ↓reduceIte, Nat.reduceEqDiff, Nat.reduceAdd, Nat.reduceMul, Nat.reduceBEq, Option.getD_none, Int.reduceToNat, Nat.reduceSub, Nat.reduceLT, Nat.reduceLeDiff, Int.reduceLE, Int.reduceLT, reduceCtorEq, h1, h2, htR, htl, htm, hml, hneg1, hneg2]
  refine fcW_bd (laws_toIntSS.fc l hl' hr') noRs_intss ?_
  simp only [go_sem, ↓reduceIte, Nat.reduceEqDiff, Nat.reduceAdd, Nat.reduceMul, Nat.reduceBEq, Option.getD_none, Int.reduceToNat, Nat.reduceSub, Nat.reduceLT, Nat.reduceLeDiff, Int.reduceLE, Int.reduceLT, reduceCtorEq, h1, h2, htR, htl, htm, hml, hneg1, hneg2]
  refine fcW_bd hs hnr ?_
  simp only [go_sem, ↓reduceIte, Nat.reduceEqDiff, Nat.reduceAdd, Nat.reduceMul, Nat.reduceBEq, Option.getD_none, Int.reduceToNat, Nat.reduceSub, Nat.reduceLT, Nat.reduceLeDiff, Int.reduceLE, Int.reduceLT, reduceCtorEq, h1, h2, htR, htl, htm, hml, hneg1, hneg2]
  refine fcW_bd (laws_toIntSS.fc l hl' hr') noRs_intss ?_
  simp only [go_sem, ↓reduceIte, Nat.reduceEqDiff, Nat.reduceAdd, Nat.reduceMul, Nat.reduceBEq, Option.getD_none, Int.reduceToNat, Nat.reduceSub, Nat.reduceLT, Nat.reduceLeDiff, Int.reduceLE, Int.reduceLT, reduceCtorEq, h1, h2, htR, htl, htm, hml, hneg1, hneg2]
  refine fcW_bd hi hnr ?_
  simp only [go_sem, ↓reduceIte, Nat.reduceEqDiff, Nat.reduceAdd, Nat.reduceMul, Nat.reduceBEq, Option.getD_none, Int.reduceToNat, Nat.reduceSub, Nat.reduceLT, Nat.reduceLeDiff, Int.reduceLE, Int.reduceLT, reduceCtorEq, h1, h2, htR, htl, htm, hml, hneg1, hneg2]
  refine fcW_bool (laws_eqIntSS.fc R R hRl' hRl' hRr') ?_
  simp only [go_sem, ↓reduceIte, Nat.reduceEqDiff, Nat.reduceAdd, Nat.reduceMul, Nat.reduceBEq, Option.getD_none, Int.reduceToNat, Nat.reduceSub, Nat.reduceLT, Nat.reduceLeDiff, Int.reduceLE, Int.reduceLT, reduceCtorEq, h1, h2, htR, htl, htm, hml, hneg1, hneg2]
  refine fcW_bd (laws_toIntSS.fc l hl' hr') noRs_intss ?_
  simp only [go_sem, ↓reduceIte, Nat.reduceEqDiff, Nat.reduceAdd, Nat.reduceMul, Nat.reduceBEq, Option.getD_none, Int.reduceToNat, Nat.reduceSub, Nat.reduceLT, Nat.reduceLeDiff, Int.reduceLE, Int.reduceLT, reduceCtorEq, h1, h2, htR, htl, htm, hml, hneg1, hneg2]
  refine fcW_bool (laws_eqIntSS.fc l l hl' hl' hr') ?_
  simp only [go_sem, ↓reduceIte, Nat.reduceEqDiff, Nat.reduceAdd, Nat.reduceMul, Nat.reduceBEq, Option.getD_none, Int.reduceToNat, Nat.reduceSub, Nat.reduceLT, Nat.reduceLeDiff, Int.reduceLE, Int.reduceLT, reduceCtorEq, h1, h2, htR, htl, htm, hml, hneg1, hneg2]
  refine coW_of (laws_markIntSS.fc l 1 hl' (by omega) (by omega)) rfl (by simp [noRsL, noRs_intss]) ?_
  simp only [go_sem, ↓reduceIte, Nat.reduceEqDiff, Nat.reduceAdd, Nat.reduceMul, Nat.reduceBEq, Option.getD_none, Int.reduceToNat, Nat.reduceSub, Nat.reduceLT, Nat.reduceLeDiff, Int.reduceLE, Int.reduceLT, reduceCtorEq, accM_len, h1, h2, htR, htl, htm, hml, hneg1, hneg2]
  refine fcW_bool (laws_eqIntSS.fc R R hRl' hRl' hRr') ?_
  simp only [go_sem, ↓reduceIte, Nat.reduceEqDiff, Nat.reduceAdd, Nat.reduceMul, Nat.reduceBEq, Option.getD_none, Int.reduceToNat, Nat.reduceSub, Nat.reduceLT, Nat.reduceLeDiff, Int.reduceLE, Int.reduceLT, reduceCtorEq, h1, h2, htR, htl, htm, hml, hneg1, hneg2]
  refine coW_of (laws_markIntSS.fc R 1 hRl' (by omega) (by omega)) rfl (by simp [noRsL, noRs_intss]) ?_
  simp only [go_sem, ↓reduceIte, Nat.reduceEqDiff, Nat.reduceAdd, Nat.reduceMul, Nat.reduceBEq, Option.getD_none, Int.reduceToNat, Nat.reduceSub, Nat.reduceLT, Nat.reduceLeDiff, Int.reduceLE, Int.reduceLT, reduceCtorEq, accM_len, h1, h2, htR, htl, htm, hml, hneg1, hneg2]
  refine fcW_int (laws_heldIntSS.fc R 1 hRl' (by omega) (by omega)) ?_
  simp only [go_sem, ↓reduceIte, Nat.reduceEqDiff, Nat.reduceAdd, Nat.reduceMul, Nat.reduceBEq, Option.getD_none, Int.reduceToNat, Nat.reduceSub, Nat.reduceLT, Nat.reduceLeDiff, Int.reduceLE, Int.reduceLT, reduceCtorEq, h1, h2, htR, htl, htm, hml, hneg1, hneg2]
  refine fcW_bd (laws_toIntSS.fc l hl' hr') noRs_intss ?_
  simp only [go_sem, ↓reduceIte, Nat.reduceEqDiff, Nat.reduceAdd, Nat.reduceMul, Nat.reduceBEq, Option.getD_none, Int.reduceToNat, Nat.reduceSub, Nat.reduceLT, Nat.reduceLeDiff, Int.reduceLE, Int.reduceLT, reduceCtorEq, h1, h2, htR, htl, htm, hml, hneg1, hneg2]
  refine fcW_bd hi hnr ?_
  simp only [go_sem, ↓reduceIte, Nat.reduceEqDiff, Nat.reduceAdd, Nat.reduceMul, Nat.reduceBEq, Option.getD_none, Int.reduceToNat, Nat.reduceSub, Nat.reduceLT, Nat.reduceLeDiff, Int.reduceLE, Int.reduceLT, reduceCtorEq, h1, h2, htR, htl, htm, hml, hneg1, hneg2]
  refine fcW_bool (laws_eqIntSS.fc R R hRl' hRl' hRr') ?_
  simp only [go_sem, ↓reduceIte, Nat.reduceEqDiff, Nat.reduceAdd, Nat.reduceMul, Nat.reduceBEq, Option.getD_none, Int.reduceToNat, Nat.reduceSub, Nat.reduceLT, Nat.reduceLeDiff, Int.reduceLE, Int.reduceLT, reduceCtorEq, h1, h2, htR, htl, htm, hml, hneg1, hneg2]
  refine fcW_int (laws_heldIntSS.fc R 1 hRl' (by omega) (by omega)) ?_
  simp only [go_sem, ↓reduceIte, Nat.reduceEqDiff, Nat.reduceAdd, Nat.reduceMul, Nat.reduceBEq, Option.getD_none, Int.reduceToNat, Nat.reduceSub, Nat.reduceLT, Nat.reduceLeDiff, Int.reduceLE, Int.reduceLT, reduceCtorEq, h1, h2, htR, htl, htm, hml, hneg1, hneg2]
theorem hasIntss {d : D} (h : HasTy (.sl (.sl (.int .i64))) d) : ∃ l : List (List Int), d = intss l ∧ l.length ≤ 9223372036854775807 ∧ ∀ r ∈ l, r.length ≤ 9223372036854775807 := by
  simp only [HasTy] at h
  obtain ⟨xs, rfl, hl, h⟩ := h
  have : ∀ xs : List D, (∀ x ∈ xs, HasTy (.sl (.int .i64)) x) → ∃ l : List (List Int), xs = l.map ints ∧ ∀ n ∈ l, n.length ≤ 9223372036854775807 := by
    intro xs
    induction xs with
    | nil => intro _; exact ⟨[], rfl, by simp⟩
    | cons x xs ih =>
      intro h
      obtain ⟨n, rfl, hn, _⟩ := hasInts (h x List.mem_cons_self)
      obtain ⟨l, rfl, hl⟩ := ih fun y hy => h y (List.mem_cons_of_mem _ hy)
      exact ⟨n :: l, rfl, fun m hm => by
        rcases List.mem_cons.1 hm with rfl | hm
        · exact hn
        · exact hl m hm⟩
  obtain ⟨l, rfl, hn⟩ := this xs (by simpa only [HasTy] using h)
  exact ⟨l, rfl, by simpa [maxLen] using hl, hn⟩
end Go.Vm.Ytedcnkglldmkbaa
namespace Go.Proofs.Ytedcnkglldmkbaa
open Go Go.Vm
theorem twoOf_own : ownKnob Try.prog.godebug = none := by kernel_rfl
theorem twoOf_laid : laidOutB Try.prog = true := by kernel_rfl
set_option maxRecDepth 100000 in
theorem twoOf_lifted (os : Os) (started : os.Started) (H : Type) (enc : TypeId × Value → H) :
    ReturnsInHanded {} Try.checked os 7 .any (Rows.fnExactTwoOfSpec.pre6 enc Try.prog Try.f7 Rows.fnExactTwoOfRow.domain false) (Rows.fnExactTwoOfSpec.post enc Try.prog Try.f7 false true false false) := by
  refine returnsInHanded_of_change_sized (C := Try.checked) twoOf_own started (by kernel_rfl) Try.func7
    (ChangeSpec.witness6 (enc := enc) (C := Try.checked) false ⟨#[], #[.int .i64 0, .slice none 0 0], []⟩ 8 (by kernel_rfl) (by kernel_rfl) (by kernel_rfl) (by kernel_rfl)) ?_
  intro W base args ds gs before hval hW _ _ _
  refine law_contract (C := Try.checked) (f := 7) [.int .i64, .sl (.sl (.int .i64))] (rt := 4) rfl (by kernel_rfl) rfl (by kernel_rfl) twoOf_laid (fun H ds h => ?_) (fun ds h => ?_) hval hW
  · match ds, h with
    | [_, _], _ => rfl
  · simp only [HasTys] at h
    obtain ⟨d1, ds1, rfl, h1, d2, ds2, rfl, h2, rfl⟩ := h
    obtain ⟨n, rfl, _⟩ := hasInt h1
    obtain ⟨l, rfl, hl, hr⟩ := Vm.Ytedcnkglldmkbaa.hasIntss h2
    exact Vm.Ytedcnkglldmkbaa.laws_FnExactTwoOf.fc n l hl hr
theorem twoOf_over : Rows.fnExactTwoOfRow.holds Try.pinned (OpenSpec.ofChange Rows.fnExactTwoOfSpec) :=
  OpenClaim.holds_of_wide 7 Try.f7 rfl rfl rfl rfl rfl rfl rfl ⟨rfl, rfl, rfl, rfl, rfl⟩ rfl rfl rfl rfl rfl (by kernel_rfl) Try.func7 (by kernel_rfl)
    (of_decide_eq_true (by kernel_rfl)) (by unfold Func.isWrapper; first | (rw [if_pos (by decide +kernel)]; kernel_rfl) | (rw [if_neg (by decide +kernel)]; exact ⟨rfl, rfl⟩))
    (fun os started H enc _ => twoOf_lifted os started H enc)
/-- The law FnExactTwoOf holds as given. -/
theorem twoOf_holds : Rows.FnExactTwoOfSaid := twoOf_over
#print axioms twoOf_holds
end Go.Proofs.Ytedcnkglldmkbaa
