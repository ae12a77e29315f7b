/- The law FnExactReachWithin returns true at all arguments (no condition); its row. -/
import Derived.Test.YtedcnkglldmkbaaWka
import Derived.Test.YtedcnkglldmkbaaRows
namespace Go.Vm.Ytedcnkglldmkbaa
open Go Go.Vm
set_option maxRecDepth 10000
set_option linter.unusedSimpArgs false
set_option linter.unusedVariables false

abbrev ArcT : Ty := .st [.int .i64, .int .i64]
theorem hasArcs {d : D} (h : HasTy (.sl ArcT) d) : ∃ l : List (Int × Int), d = arcs l ∧ l.length ≤ 9223372036854775807 := by
  simp only [HasTy] at h
  obtain ⟨xs, rfl, hl, h⟩ := h
  have one : ∀ x, HasTy ArcT x → ∃ a : Int × Int, x = arcD a := by
    intro x h
    simp only [HasTy] at h
    obtain ⟨ys, rfl, h⟩ := h
    simp only [HasTys] at h
    obtain ⟨d1, ds1, rfl, h1, d2, ds2, rfl, h2, rfl⟩ := h
    obtain ⟨a, rfl, _⟩ := hasInt h1
    obtain ⟨b, rfl, _⟩ := hasInt h2
    exact ⟨(a, b), rfl⟩
  have : ∀ xs : List D, (∀ x ∈ xs, HasTy ArcT x) → ∃ l : List (Int × Int), xs = l.map arcD := by
    intro xs
    induction xs with
    | nil => intro _; exact ⟨[], rfl⟩
    | cons x xs ih =>
      intro h
      obtain ⟨a, rfl⟩ := one x (h x List.mem_cons_self)
      obtain ⟨l, rfl⟩ := ih fun y hy => h y (List.mem_cons_of_mem _ hy)
      exact ⟨a :: l, rfl⟩
  obtain ⟨l, rfl⟩ := this xs (by simpa only [HasTy] using h)
  exact ⟨l, rfl, by simpa [maxLen] using hl⟩
theorem rwI_tup (n : Int) (l : List (Int × Int)) (f m : Int) : ∃ R b, rwI n l f m = .tup [ints R, Bb b] ∧ R.length ≤ 6 := by
  unfold rwI
  split
  · rename_i h
    simp only [Bool.and_eq_true] at h
    obtain ⟨hn, _, _⟩ := goodA_mem h.1.1
    refine ⟨_, _, rfl, ?_⟩
    have h2 : ∀ (k : Nat) (o : List Bool), (withinB l k o).length = o.length := by
      intro k
      induction k with
      | zero => intro o; rfl
      | succ k ih => intro o; simp only [withinB]; rw [ih, roundB_len]
    have := listI_len (withinB l m.toNat ((List.replicate n.toNat false).set f.toNat true)).length (fun i => (withinB l m.toNat ((List.replicate n.toNat false).set f.toNat true)).getD i false)
    rw [h2] at this
    simp only [List.length_set, List.length_replicate] at this
    unfold ofRow
    rw [h2]
    simp only [List.length_set, List.length_replicate]
    omega
  · exact ⟨[], _, rfl, by simp⟩
theorem laws_FnExactReachWithin.fc (n : Int) (l : List (Int × Int)) (f m : Int) (hl : l.length ≤ 9223372036854775807) :
    FCt prog F_laws_FnExactReachWithin [.ro, .ro, .ro, .ro] [Ii n, arcs l, Ii f, Ii m] (Bb true) [] := by
  refine fct_run laws_FnExactReachWithin.ok rfl ?_
  simp only [go_sem, ↓reduceIte, Nat.reduceEqDiff, Nat.reduceAdd, Nat.reduceMul, Nat.reduceBEq, Option.getD_none, Int.reduceToNat, Nat.reduceSub, Nat.reduceLT, Nat.reduceLeDiff, Int.reduceLE, Int.reduceLT, reduceCtorEq]
  refine fcW_int (laws_szArcS.fc l _ (by omega) hl) ?_
  by_cases h1 : (1048576 : Int) - l.length < 0
  · simp only [go_sem, ↓reduceIte, Nat.reduceEqDiff, Nat.reduceAdd, Nat.reduceMul, Nat.reduceBEq, Option.getD_none, Int.reduceToNat, Nat.reduceSub, Nat.reduceLT, Nat.reduceLeDiff, Int.reduceLE, Int.reduceLT, reduceCtorEq, h1]
  have hl' : l.length ≤ 4294967296 := by omega
  obtain ⟨R, b, hR, hRl⟩ := rwI_tup n l f m
  have hs := spec_ReachWithin.fc n l f m hl'
  have hi := impl_ReachWithin.fc n l f m hl'
  rw [hR] at hs hi
  have hnr : noRs (.tup [ints R, Bb b]) = true := by simp only [noRs, noRsL, Bool.and_true]; exact noRs_ints
  have hRl' : R.length ≤ 4294967296 := by omega
  have htR : (R.map Ii).take R.length = R.map Ii := take_map_len
  have htl : (l.map arcD).take l.length = l.map arcD := take_map_len
  have hml : (upFrom 1 R.length).length = R.length := upFrom_len
  have htm : ((upFrom 1 R.length).map Ii).take R.length = (upFrom 1 R.length).map Ii := List.take_of_length_le (by simp [upFrom_len])
  have hneg1 : ¬ (1 + 2 * (l.length : Int) < 0) := by omega
  have hneg2 : ¬ (1 + (R.length : Int) < 0) := by omega
  simp only [go_sem, ↓reduceIte, Nat.reduceEqDiff, Nat.reduceAdd, Nat.reduceMul, Nat.reduceBEq, Option.getD_none, Int.reduceToNat, Nat.reduceSub, Nat.reduceLT, Nat.reduceLeDiff, Int.reduceLE, Int.reduceLT, reduceCtorEq, h1, htR, htl, htm, hml, hneg1, hneg2]
  refine fcW_bd (laws_toArcS.fc l hl') noRs_arcs ?_
  simp only [go_sem, ↓reduceIte, Nat.reduceEqDiff, Nat.reduceAdd, Nat.reduceMul, Nat.reduceBEq, Option.getD_none, Int.reduceToNat, Nat.reduceSub, Nat.reduceLT, Nat.reduceLeDiff, Int.reduceLE, Int.reduceLT, reduceCtorEq, h1, htR, htl, htm, hml, hneg1, hneg2]
  refine fcW_bd hs hnr ?_
  simp only [go_sem, ↓reduceIte, Nat.reduceEqDiff, Nat.reduceAdd, Nat.reduceMul, Nat.reduceBEq, Option.getD_none, Int.reduceToNat, Nat.reduceSub, Nat.reduceLT, Nat.reduceLeDiff, Int.reduceLE, Int.reduceLT, reduceCtorEq, h1, htR, htl, htm, hml, hneg1, hneg2]
  refine fcW_bd (laws_toArcS.fc l hl') noRs_arcs ?_
  simp only [go_sem, ↓reduceIte, Nat.reduceEqDiff, Nat.reduceAdd, Nat.reduceMul, Nat.reduceBEq, Option.getD_none, Int.reduceToNat, Nat.reduceSub, Nat.reduceLT, Nat.reduceLeDiff, Int.reduceLE, Int.reduceLT, reduceCtorEq, h1, htR, htl, htm, hml, hneg1, hneg2]
  refine fcW_bd hi hnr ?_
  simp only [go_sem, ↓reduceIte, Nat.reduceEqDiff, Nat.reduceAdd, Nat.reduceMul, Nat.reduceBEq, Option.getD_none, Int.reduceToNat, Nat.reduceSub, Nat.reduceLT, Nat.reduceLeDiff, Int.reduceLE, Int.reduceLT, reduceCtorEq, h1, htR, htl, htm, hml, hneg1, hneg2]
  refine fcW_bool (laws_eqIntS.fc R R hRl') ?_
  simp only [go_sem, ↓reduceIte, Nat.reduceEqDiff, Nat.reduceAdd, Nat.reduceMul, Nat.reduceBEq, Option.getD_none, Int.reduceToNat, Nat.reduceSub, Nat.reduceLT, Nat.reduceLeDiff, Int.reduceLE, Int.reduceLT, reduceCtorEq, h1, htR, htl, htm, hml, hneg1, hneg2]
  refine fcW_bd (laws_toArcS.fc l hl') noRs_arcs ?_
  simp only [go_sem, ↓reduceIte, Nat.reduceEqDiff, Nat.reduceAdd, Nat.reduceMul, Nat.reduceBEq, Option.getD_none, Int.reduceToNat, Nat.reduceSub, Nat.reduceLT, Nat.reduceLeDiff, Int.reduceLE, Int.reduceLT, reduceCtorEq, h1, htR, htl, htm, hml, hneg1, hneg2]
  refine fcW_bool (laws_eqArcS.fc l l hl' hl') ?_
  simp only [go_sem, ↓reduceIte, Nat.reduceEqDiff, Nat.reduceAdd, Nat.reduceMul, Nat.reduceBEq, Option.getD_none, Int.reduceToNat, Nat.reduceSub, Nat.reduceLT, Nat.reduceLeDiff, Int.reduceLE, Int.reduceLT, reduceCtorEq, h1, htR, htl, htm, hml, hneg1, hneg2]
  refine coW_of (laws_markArcS.fc l 1 hl' (by omega)) rfl (by simp [noRsL, noRs_arcs]) ?_
  simp only [go_sem, ↓reduceIte, Nat.reduceEqDiff, Nat.reduceAdd, Nat.reduceMul, Nat.reduceBEq, Option.getD_none, Int.reduceToNat, Nat.reduceSub, Nat.reduceLT, Nat.reduceLeDiff, Int.reduceLE, Int.reduceLT, reduceCtorEq, mkP_len, h1, htR, htl, htm, hml, hneg1, hneg2]
  refine fcW_bool (laws_eqIntS.fc R R hRl') ?_
  simp only [go_sem, ↓reduceIte, Nat.reduceEqDiff, Nat.reduceAdd, Nat.reduceMul, Nat.reduceBEq, Option.getD_none, Int.reduceToNat, Nat.reduceSub, Nat.reduceLT, Nat.reduceLeDiff, Int.reduceLE, Int.reduceLT, reduceCtorEq, h1, htR, htl, htm, hml, hneg1, hneg2]
  refine coW_of (laws_markIntS.fc R 1 hRl' (by omega)) rfl (by simp [noRsL, noRs_ints]) ?_
  simp only [go_sem, ↓reduceIte, Nat.reduceEqDiff, Nat.reduceAdd, Nat.reduceMul, Nat.reduceBEq, Option.getD_none, Int.reduceToNat, Nat.reduceSub, Nat.reduceLT, Nat.reduceLeDiff, Int.reduceLE, Int.reduceLT, reduceCtorEq, h1, htR, htl, htm, hml, hneg1, hneg2]
  refine fcW_int (laws_heldIntS.fc 1 R.length hRl' (by omega)) ?_
  simp only [go_sem, ↓reduceIte, Nat.reduceEqDiff, Nat.reduceAdd, Nat.reduceMul, Nat.reduceBEq, Option.getD_none, Int.reduceToNat, Nat.reduceSub, Nat.reduceLT, Nat.reduceLeDiff, Int.reduceLE, Int.reduceLT, reduceCtorEq, h1, htR, htl, htm, hml, hneg1, hneg2]
  refine fcW_bd (laws_toArcS.fc l hl') noRs_arcs ?_
  simp only [go_sem, ↓reduceIte, Nat.reduceEqDiff, Nat.reduceAdd, Nat.reduceMul, Nat.reduceBEq, Option.getD_none, Int.reduceToNat, Nat.reduceSub, Nat.reduceLT, Nat.reduceLeDiff, Int.reduceLE, Int.reduceLT, reduceCtorEq, h1, htR, htl, htm, hml, hneg1, hneg2]
  refine fcW_bd hi hnr ?_
  simp only [go_sem, ↓reduceIte, Nat.reduceEqDiff, Nat.reduceAdd, Nat.reduceMul, Nat.reduceBEq, Option.getD_none, Int.reduceToNat, Nat.reduceSub, Nat.reduceLT, Nat.reduceLeDiff, Int.reduceLE, Int.reduceLT, reduceCtorEq, h1, htR, htl, htm, hml, hneg1, hneg2]
  refine fcW_bool (laws_eqIntS.fc R R hRl') ?_
  simp only [go_sem, ↓reduceIte, Nat.reduceEqDiff, Nat.reduceAdd, Nat.reduceMul, Nat.reduceBEq, Option.getD_none, Int.reduceToNat, Nat.reduceSub, Nat.reduceLT, Nat.reduceLeDiff, Int.reduceLE, Int.reduceLT, reduceCtorEq, h1, htR, htl, htm, hml, hneg1, hneg2]
  refine fcW_int (laws_heldIntS.fc 1 R.length hRl' (by omega)) ?_
  simp only [go_sem, ↓reduceIte, Nat.reduceEqDiff, Nat.reduceAdd, Nat.reduceMul, Nat.reduceBEq, Option.getD_none, Int.reduceToNat, Nat.reduceSub, Nat.reduceLT, Nat.reduceLeDiff, Int.reduceLE, Int.reduceLT, reduceCtorEq, h1, htR, htl, htm, hml, hneg1, hneg2]
end Go.Vm.Ytedcnkglldmkbaa
namespace Go.Proofs.Ytedcnkglldmkbaa
open Go Go.Vm
theorem reachWithin_own : ownKnob Try.prog.godebug = none := by kernel_rfl
theorem reachWithin_laid : laidOutB Try.prog = true := by kernel_rfl
set_option maxRecDepth 100000 in
theorem reachWithin_lifted (os : Os) (started : os.Started) (H : Type) (enc : TypeId × Value → H) :
    ReturnsInHanded {} Try.checked os 10 .any (Rows.fnExactReachWithinSpec.pre6 enc Try.prog Try.f10 Rows.fnExactReachWithinRow.domain false) (Rows.fnExactReachWithinSpec.post enc Try.prog Try.f10 false true false false) := by
  refine returnsInHanded_of_change_sized (C := Try.checked) reachWithin_own started (by kernel_rfl) Try.func10
    (ChangeSpec.witness6 (enc := enc) (C := Try.checked) false ⟨#[], #[.int .i64 0, .slice none 0 0, .int .i64 0, .int .i64 0], []⟩ 8 (by kernel_rfl) (by kernel_rfl) (by kernel_rfl) (by kernel_rfl)) ?_
  intro W base args ds gs before hval hW _ _ _
  refine law_contract (C := Try.checked) (f := 10) [.int .i64, .sl Vm.Ytedcnkglldmkbaa.ArcT, .int .i64, .int .i64] (rt := 4) rfl (by kernel_rfl) rfl (by kernel_rfl) reachWithin_laid (fun H ds h => ?_) (fun ds h => ?_) hval hW
  · match ds, h with
    | [_, _, _, _], _ => rfl
  · simp only [HasTys] at h
    obtain ⟨d1, ds1, rfl, h1, d2, ds2, rfl, h2, d3, ds3, rfl, h3, d4, ds4, rfl, h4, rfl⟩ := h
    obtain ⟨n, rfl, _⟩ := hasInt h1
    obtain ⟨l, rfl, hl⟩ := Vm.Ytedcnkglldmkbaa.hasArcs h2
    obtain ⟨f, rfl, _⟩ := hasInt h3
    obtain ⟨m, rfl, _⟩ := hasInt h4
    exact Vm.Ytedcnkglldmkbaa.laws_FnExactReachWithin.fc n l f m hl
theorem reachWithin_over : Rows.fnExactReachWithinRow.holds Try.pinned (OpenSpec.ofChange Rows.fnExactReachWithinSpec) :=
  OpenClaim.holds_of_wide 10 Try.f10 rfl rfl rfl rfl rfl rfl rfl ⟨rfl, rfl, rfl, rfl, rfl⟩ rfl rfl rfl rfl rfl (by kernel_rfl) Try.func10 (by kernel_rfl)
    (of_decide_eq_true (by kernel_rfl)) (by unfold Func.isWrapper; first | (rw [if_pos (by decide +kernel)]; kernel_rfl) | (rw [if_neg (by decide +kernel)]; exact ⟨rfl, rfl⟩))
    (fun os started H enc _ => reachWithin_lifted os started H enc)
/-- The law FnExactReachWithin holds as given. -/
theorem reachWithin_holds : Rows.FnExactReachWithinSaid := reachWithin_over
#print axioms reachWithin_holds
end Go.Proofs.Ytedcnkglldmkbaa
