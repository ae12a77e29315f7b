/- What the functions that the law reaches return: part 2 (the conditions stand at each). -/
import Derived.Test.YtdebllkmblakkaaWka
/- Walks: 2-SAT: the solver, by the reference. -/
namespace Go.Vm.Ytdebllkmblakkaa
open Go Go.Vm
set_option maxRecDepth 10000
set_option maxHeartbeats 16000000
set_option linter.unusedSimpArgs false
set_option linter.unusedVariables false

theorem putI_le (l : List Int) (x : Int) : (putI l x).length ≤ l.length + 1 := by
  unfold putI
  split
  · omega
  · rw [List.length_append, List.length_cons, List.length_take, List.length_drop]; omega
theorem any_same {a b : List Int} (h : ∀ y, y ∈ a ↔ y ∈ b) (x : Int) : a.any (· == x) = b.any (· == x) := by
  rw [Bool.eq_iff_iff, List.any_eq_true, List.any_eq_true]
  constructor
  · rintro ⟨y, hy, e⟩; exact ⟨y, (h y).1 hy, e⟩
  · rintro ⟨y, hy, e⟩; exact ⟨y, (h y).2 hy, e⟩
theorem spec_SolveTwo.fc (v : Int) (l : List (List Int)) (hl : l.length ≤ 4294967296) (hr : ∀ c ∈ l, c.length ≤ 4294967296) :
    FCt prog F_spec_SolveTwo [.ro, .ro] [Ii v, intss l] (.tup [bools (solveD v l).1, Bb (solveD v l).2.1, Bb (solveD v l).2.2]) [] := by
  refine fct_run spec_SolveTwo.ok rfl ?_
  unfold solveD
  simp only [go_sem, ↓reduceIte, Nat.reduceEqDiff, Nat.reduceAdd, Nat.reduceMul, Nat.reduceBEq, Option.getD_none, Int.reduceToNat, Nat.reduceSub, Nat.reduceLT, Nat.reduceLeDiff, Int.reduceLE, Int.reduceLT, reduceCtorEq]
  refine fcW_bool (spec_IsTwo.fc v l hl hr) ?_
  cases h : isTwoB v l with
  | false => simp only [go_sem, ↓reduceIte, Nat.reduceEqDiff, Nat.reduceAdd, Nat.reduceMul, Nat.reduceBEq, Option.getD_none, Int.reduceToNat, Nat.reduceSub, Nat.reduceLT, Nat.reduceLeDiff, Int.reduceLE, Int.reduceLT, reduceCtorEq]; try rfl
  | true =>
    obtain ⟨h0, h1, h2⟩ := two_ok h
    have hv := h2.hv
    have hc := spec_l15Opposed.fc v.toNat l h2
    generalize v.toNat = v at h1 h2 hc hv
    subst h1
    have onn := oppV_nn v l
    simp only [go_sem, ↓reduceIte, Nat.reduceEqDiff, Nat.reduceAdd, Nat.reduceMul, Nat.reduceBEq, Option.getD_none, Int.reduceToNat, Nat.reduceSub, Nat.reduceLT, Nat.reduceLeDiff, Int.reduceLE, Int.reduceLT, reduceCtorEq]
    refine fcW_int hc ?_
    cases ho : (oppV v l == 0) with
    | false =>
      have ho3 : oppV v l > 0 := by have : oppV v l ≠ 0 := by simpa using ho
                                    omega
      simp only [go_sem, ↓reduceIte, Nat.reduceEqDiff, Nat.reduceAdd, Nat.reduceMul, Nat.reduceBEq, Option.getD_none, Int.reduceToNat, Nat.reduceSub, Nat.reduceLT, Nat.reduceLeDiff, Int.reduceLE, Int.reduceLT, reduceCtorEq, ho, ho3]
      try rfl
    | true =>
      have ho3 : ¬ (oppV v l > 0) := by have : oppV v l = 0 := by simpa using ho
                                        omega
      simp only [go_sem, ↓reduceIte, Nat.reduceEqDiff, Nat.reduceAdd, Nat.reduceMul, Nat.reduceBEq, Option.getD_none, Int.reduceToNat, Nat.reduceSub, Nat.reduceLT, Nat.reduceLeDiff, Int.reduceLE, Int.reduceLT, reduceCtorEq, ho, ho3]
      refine R_loop (α := Nat × List Int) (fun a s' M' => a.1 ≤ v ∧ s' 8 = aI ((a.1 : Int) + 1) ∧ (∀ y, y ∈ a.2 ↔ y ∈ solL v l a.1) ∧ a.2.length ≤ 25 * a.1 ∧ RowX (s' 7) M' [3456] (a.2.map Ii)) (fun a => v - a.1) (0, [])
        ⟨by simp, by simp only [go_sem, ↓reduceIte, Nat.reduceEqDiff, Nat.reduceAdd, Nat.reduceMul, Nat.reduceBEq, Option.getD_none, Int.reduceToNat, Nat.reduceSub, Nat.reduceLT, Nat.reduceLeDiff, Int.reduceLE, Int.reduceLT, reduceCtorEq]; try rfl, fun y => by simp [solL], by simp, .inl ⟨rfl, by simp only [go_sem, ↓reduceIte, Nat.reduceEqDiff, Nat.reduceAdd, Nat.reduceMul, Nat.reduceBEq, Option.getD_none, Int.reduceToNat, Nat.reduceSub, Nat.reduceLT, Nat.reduceLeDiff, Int.reduceLE, Int.reduceLT, reduceCtorEq]⟩⟩ ?_
      rintro ⟨k, so⟩ s' M' ⟨hk, h8, hso, hsl, hrow⟩ ho'
      dsimp only at hk h8 hso hsl hrow
      unfold spec_SolveTwo.b1
      have q0 : s' 0 = .dat none (Ii v) := by rw [ho' 0 rfl]; simp only [go_sem, ↓reduceIte, Nat.reduceEqDiff, Nat.reduceAdd, Nat.reduceMul, Nat.reduceBEq, Option.getD_none, Int.reduceToNat, Nat.reduceSub, Nat.reduceLT, Nat.reduceLeDiff, Int.reduceLE, Int.reduceLT, reduceCtorEq]
      have q1 : s' 1 = .dat none (intss l) := by rw [ho' 1 rfl]; simp only [go_sem, ↓reduceIte, Nat.reduceEqDiff, Nat.reduceAdd, Nat.reduceMul, Nat.reduceBEq, Option.getD_none, Int.reduceToNat, Nat.reduceSub, Nat.reduceLT, Nat.reduceLeDiff, Int.reduceLE, Int.reduceLT, reduceCtorEq]
      clear ho'
      by_cases hlt : k < v
      · have hi' : (k : Int) + 1 ≤ v := by omega
        have hl1 : Lit v ((k : Int) + 1) := by unfold Lit; omega
        have hl2 : Lit v (-((k : Int) + 1)) := by unfold Lit; omega
        have hneg := neg_in (n := (k : Int) + 1) (by omega)
        have hw : IntKind.i64.wrap ((k : Int) + 1 + 1) = ((k + 1 : Nat) : Int) + 1 := by rw [wrap_in (by omega) (by omega)]; omega
        have hst : solL v l (k + 1) = if (solL v l k).any (· == (k : Int) + 1) || (solL v l k).any (· == -((k : Int) + 1)) then solL v l k else solL v l k ++ reachL v l (choiceV v l ((k : Int) + 1)) := rfl
        generalize hx : (k : Int) + 1 = x at h8 hi' hl1 hl2 hneg hw hst
        have hwx := hw
        unfold choiceV at hst
        generalize hS : solL v l k = S at hst hso
        have heq := any_same hso
        rcases hrow with ⟨hd9, h7⟩ | ⟨nm, hnm, w, h7, hm⟩
        · obtain rfl := List.map_eq_nil_iff.1 hd9
          have hm : True := trivial
          simp only [go_sem, ↓reduceIte, Nat.reduceEqDiff, Nat.reduceAdd, Nat.reduceMul, Nat.reduceBEq, Option.getD_none, Int.reduceToNat, Nat.reduceSub, Nat.reduceLT, Nat.reduceLeDiff, Int.reduceLE, Int.reduceLT, reduceCtorEq, hi', h7, q0, q1, h8]
          refine fcW_bool (spec_l1Has.fc [] x (by first | omega | simp)) ?_
          cases hq1 : S.any (· == x) with
          | true =>
            simp only [hq1, Bool.true_or, if_true] at hst
            rw [heq x, hq1]
            simp only [go_sem, ↓reduceIte, Nat.reduceEqDiff, Nat.reduceAdd, Nat.reduceMul, Nat.reduceBEq, Option.getD_none, Int.reduceToNat, Nat.reduceSub, Nat.reduceLT, Nat.reduceLeDiff, Int.reduceLE, Int.reduceLT, reduceCtorEq, hw, q0, q1, h8]
            exact ⟨(k + 1, []), by dsimp only; omega, by dsimp only; omega, by simp only [go_sem, ↓reduceIte, Nat.reduceEqDiff, Nat.reduceAdd, Nat.reduceMul, Nat.reduceBEq, Option.getD_none, Int.reduceToNat, Nat.reduceSub, Nat.reduceLT, Nat.reduceLeDiff, Int.reduceLE, Int.reduceLT, reduceCtorEq, q0, q1, h8], by dsimp only; rw [hst]; exact hso, by dsimp only; omega, .inl ⟨rfl, by simp only [go_sem, ↓reduceIte, Nat.reduceEqDiff, Nat.reduceAdd, Nat.reduceMul, Nat.reduceBEq, Option.getD_none, Int.reduceToNat, Nat.reduceSub, Nat.reduceLT, Nat.reduceLeDiff, Int.reduceLE, Int.reduceLT, reduceCtorEq, h7, q0, q1, h8]⟩⟩
          | false =>
            rw [heq x, hq1]
            simp only [go_sem, ↓reduceIte, Nat.reduceEqDiff, Nat.reduceAdd, Nat.reduceMul, Nat.reduceBEq, Option.getD_none, Int.reduceToNat, Nat.reduceSub, Nat.reduceLT, Nat.reduceLeDiff, Int.reduceLE, Int.reduceLT, reduceCtorEq, hneg, h7, hm, take_map_len, q0, q1, h8]
            refine fcW_bool (spec_l1Has.fc [] (-x) (by first | omega | simp)) ?_
            cases hq2 : S.any (· == -x) with
            | true =>
              simp only [hq1, hq2, Bool.or_true, if_true] at hst
              rw [heq (-x), hq2]
              simp only [go_sem, ↓reduceIte, Nat.reduceEqDiff, Nat.reduceAdd, Nat.reduceMul, Nat.reduceBEq, Option.getD_none, Int.reduceToNat, Nat.reduceSub, Nat.reduceLT, Nat.reduceLeDiff, Int.reduceLE, Int.reduceLT, reduceCtorEq, hw, q0, q1, h8]
              exact ⟨(k + 1, []), by dsimp only; omega, by dsimp only; omega, by simp only [go_sem, ↓reduceIte, Nat.reduceEqDiff, Nat.reduceAdd, Nat.reduceMul, Nat.reduceBEq, Option.getD_none, Int.reduceToNat, Nat.reduceSub, Nat.reduceLT, Nat.reduceLeDiff, Int.reduceLE, Int.reduceLT, reduceCtorEq, q0, q1, h8], by dsimp only; rw [hst]; exact hso, by dsimp only; omega, .inl ⟨rfl, by simp only [go_sem, ↓reduceIte, Nat.reduceEqDiff, Nat.reduceAdd, Nat.reduceMul, Nat.reduceBEq, Option.getD_none, Int.reduceToNat, Nat.reduceSub, Nat.reduceLT, Nat.reduceLeDiff, Int.reduceLE, Int.reduceLT, reduceCtorEq, h7, q0, q1, h8]⟩⟩
            | false =>
              rw [heq (-x), hq2]
              simp only [go_sem, ↓reduceIte, Nat.reduceEqDiff, Nat.reduceAdd, Nat.reduceMul, Nat.reduceBEq, Option.getD_none, Int.reduceToNat, Nat.reduceSub, Nat.reduceLT, Nat.reduceLeDiff, Int.reduceLE, Int.reduceLT, reduceCtorEq, q0, q1, h8]
              have hr1 := reachL_len v l x
              refine fcW_bd (spec_l15Leads.fc v l x h2.hv h2.lits h2.two h2.dist hl1 h2.len) noRs_ints ?_
              simp only [go_sem, ↓reduceIte, Nat.reduceEqDiff, Nat.reduceAdd, Nat.reduceMul, Nat.reduceBEq, Option.getD_none, Int.reduceToNat, Nat.reduceSub, Nat.reduceLT, Nat.reduceLeDiff, Int.reduceLE, Int.reduceLT, reduceCtorEq, hneg, take_map_len, q0, q1, h8]
              refine fcW_bool (spec_l1Has.fc (reachL v l x) (-x) (by omega)) ?_
              cases hq3 : (reachL v l x).any (· == -x) with
              | true =>
                simp only [hq1, hq2, hq3, Bool.or_self, Bool.false_eq_true, if_false, if_true] at hst
                simp only [go_sem, ↓reduceIte, Nat.reduceEqDiff, Nat.reduceAdd, Nat.reduceMul, Nat.reduceBEq, Option.getD_none, Int.reduceToNat, Nat.reduceSub, Nat.reduceLT, Nat.reduceLeDiff, Int.reduceLE, Int.reduceLT, reduceCtorEq, hneg, q0, q1, h8]
                refine fcW_bd (spec_l15Leads.fc v l (-x) h2.hv h2.lits h2.two h2.dist hl2 h2.len) noRs_ints ?_
                have hrl := reachL_len v l (-x)
                generalize reachL v l (-x) = R at hst hrl ⊢
                simp only [go_sem, ↓reduceIte, Nat.reduceEqDiff, Nat.reduceAdd, Nat.reduceMul, Nat.reduceBEq, Option.getD_none, Int.reduceToNat, Nat.reduceSub, Nat.reduceLT, Nat.reduceLeDiff, Int.reduceLE, Int.reduceLT, reduceCtorEq, q0, q1, h8]
                refine R_loop (α := Nat × List Int) (fun a s' M' => a.1 ≤ R.length ∧ s' 49 = aI a.1 ∧ (∀ y, y ∈ a.2 ↔ y ∈ S ∨ y ∈ R.take a.1) ∧ a.2.length ≤ 25 * k + a.1 ∧ (∃ u, s' 47 = .sl 2880 u 0 R.length 1 ∧ M'.m 2880 = some (.arr u true 1 (R.map Ii))) ∧ RowX (s' 7) M' [3456] (a.2.map Ii)) (fun a => R.length - a.1) (0, [])
                  ⟨by simp, by simp only [go_sem, ↓reduceIte, Nat.reduceEqDiff, Nat.reduceAdd, Nat.reduceMul, Nat.reduceBEq, Option.getD_none, Int.reduceToNat, Nat.reduceSub, Nat.reduceLT, Nat.reduceLeDiff, Int.reduceLE, Int.reduceLT, reduceCtorEq, q0, q1, h8]; rfl, fun y => by rw [hso y]; simp, by dsimp only; omega, ⟨_, by simp only [go_sem, ↓reduceIte, Nat.reduceEqDiff, Nat.reduceAdd, Nat.reduceMul, Nat.reduceBEq, Option.getD_none, Int.reduceToNat, Nat.reduceSub, Nat.reduceLT, Nat.reduceLeDiff, Int.reduceLE, Int.reduceLT, reduceCtorEq, q0, q1, h8]; try rfl, by simp only [go_sem, ↓reduceIte, Nat.reduceEqDiff, Nat.reduceAdd, Nat.reduceMul, Nat.reduceBEq, Option.getD_none, Int.reduceToNat, Nat.reduceSub, Nat.reduceLT, Nat.reduceLeDiff, Int.reduceLE, Int.reduceLT, reduceCtorEq, q0, q1, h8]; try rfl⟩, .inl ⟨rfl, by simp only [go_sem, ↓reduceIte, Nat.reduceEqDiff, Nat.reduceAdd, Nat.reduceMul, Nat.reduceBEq, Option.getD_none, Int.reduceToNat, Nat.reduceSub, Nat.reduceLT, Nat.reduceLeDiff, Int.reduceLE, Int.reduceLT, reduceCtorEq, h7, q0, q1, h8]⟩⟩ ?_
                rintro ⟨j, so2⟩ s2 M2 ⟨hj, h49, hso2, hsl2, ⟨u, h47, hmR⟩, hrow2⟩ ho2
                dsimp only at hj h49 hso2 hsl2 hrow2
                unfold spec_SolveTwo.b0
                have g0 : s2 0 = .dat none (Ii v) := by rw [ho2 0 rfl]; simp only [go_sem, ↓reduceIte, Nat.reduceEqDiff, Nat.reduceAdd, Nat.reduceMul, Nat.reduceBEq, Option.getD_none, Int.reduceToNat, Nat.reduceSub, Nat.reduceLT, Nat.reduceLeDiff, Int.reduceLE, Int.reduceLT, reduceCtorEq, q0, q1, h8]
                have g1 : s2 1 = .dat none (intss l) := by rw [ho2 1 rfl]; simp only [go_sem, ↓reduceIte, Nat.reduceEqDiff, Nat.reduceAdd, Nat.reduceMul, Nat.reduceBEq, Option.getD_none, Int.reduceToNat, Nat.reduceSub, Nat.reduceLT, Nat.reduceLeDiff, Int.reduceLE, Int.reduceLT, reduceCtorEq, q0, q1, h8]
                have g8 : s2 8 = aI x := by rw [ho2 8 rfl]; simp only [go_sem, ↓reduceIte, Nat.reduceEqDiff, Nat.reduceAdd, Nat.reduceMul, Nat.reduceBEq, Option.getD_none, Int.reduceToNat, Nat.reduceSub, Nat.reduceLT, Nat.reduceLeDiff, Int.reduceLE, Int.reduceLT, reduceCtorEq, q0, q1, h8]
                have g48 : s2 48 = aI R.length := by rw [ho2 48 rfl]; simp only [go_sem, ↓reduceIte, Nat.reduceEqDiff, Nat.reduceAdd, Nat.reduceMul, Nat.reduceBEq, Option.getD_none, Int.reduceToNat, Nat.reduceSub, Nat.reduceLT, Nat.reduceLeDiff, Int.reduceLE, Int.reduceLT, reduceCtorEq, q0, q1, h8]
                clear ho2
                by_cases hlt : j < R.length
                · have hi' : (j : Int) < R.length := by omega
                  have ga : R[j]? = some R[j] := List.getElem?_eq_getElem hlt
                  have hw : IntKind.i64.wrap (j + 1) = ((j + 1 : Nat) : Int) := wrap_k hlt (by omega)
                  have htk : R.take (j + 1) = R.take j ++ [R[j]] := take_succ' hlt
                  generalize R[j] = y at ga htk
                  have hso3 : ∀ z, z ∈ putI so2 y ↔ z ∈ S ∨ z ∈ R.take (j + 1) := fun z => by
                    rw [putI_mem, hso2 z, htk, List.mem_append, List.mem_singleton]
                    constructor
                    · rintro (h | h | h)
                      · exact .inr (.inr h)
                      · exact .inl h
                      · exact .inr (.inl h)
                    · rintro (h | h | h)
                      · exact .inr (.inl h)
                      · exact .inr (.inr h)
                      · exact .inl h
                  have hpl := putI_le so2 y
                  rcases hrow2 with ⟨hd9, h7'⟩ | ⟨nm2, hnm2, w2, h7', hm'⟩
                  · obtain rfl := List.map_eq_nil_iff.1 hd9
                    simp only [go_sem, ↓reduceIte, Nat.reduceEqDiff, Nat.reduceAdd, Nat.reduceMul, Nat.reduceBEq, Option.getD_none, Int.reduceToNat, Nat.reduceSub, Nat.reduceLT, Nat.reduceLeDiff, Int.reduceLE, Int.reduceLT, reduceCtorEq, hi', ga, h7', q0, q1, h8, g0, g1, g8, g48, h49, h47, hmR]
                    refine coW_of (spec_l1Put.fco [] y (by simp)) noRs_ints rfl ?_
                    simp only [go_sem, ↓reduceIte, Nat.reduceEqDiff, Nat.reduceAdd, Nat.reduceMul, Nat.reduceBEq, Option.getD_none, Int.reduceToNat, Nat.reduceSub, Nat.reduceLT, Nat.reduceLeDiff, Int.reduceLE, Int.reduceLT, reduceCtorEq, hw, q0, q1, h8, g0, g1, g8, g48, h49, h47, hmR]
                    exact ⟨(j + 1, putI [] y), by dsimp only; omega, by dsimp only; omega, by simp only [go_sem, ↓reduceIte, Nat.reduceEqDiff, Nat.reduceAdd, Nat.reduceMul, Nat.reduceBEq, Option.getD_none, Int.reduceToNat, Nat.reduceSub, Nat.reduceLT, Nat.reduceLeDiff, Int.reduceLE, Int.reduceLT, reduceCtorEq, q0, q1, h8, g0, g1, g8, g48, h49, h47, hmR], hso3, by dsimp only; omega, ⟨u, by simp only [go_sem, ↓reduceIte, Nat.reduceEqDiff, Nat.reduceAdd, Nat.reduceMul, Nat.reduceBEq, Option.getD_none, Int.reduceToNat, Nat.reduceSub, Nat.reduceLT, Nat.reduceLeDiff, Int.reduceLE, Int.reduceLT, reduceCtorEq, q0, q1, h8, g0, g1, g8, g48, h49, h47, hmR], by simp only [go_sem, ↓reduceIte, Nat.reduceEqDiff, Nat.reduceAdd, Nat.reduceMul, Nat.reduceBEq, Option.getD_none, Int.reduceToNat, Nat.reduceSub, Nat.reduceLT, Nat.reduceLeDiff, Int.reduceLE, Int.reduceLT, reduceCtorEq, q0, q1, h8, g0, g1, g8, g48, h49, h47, hmR]⟩, .inr ⟨3456, by simp, _, by rw [List.length_map]; simp only [go_sem, ↓reduceIte, Nat.reduceEqDiff, Nat.reduceAdd, Nat.reduceMul, Nat.reduceBEq, Option.getD_none, Int.reduceToNat, Nat.reduceSub, Nat.reduceLT, Nat.reduceLeDiff, Int.reduceLE, Int.reduceLT, reduceCtorEq, q0, q1, h8, g0, g1, g8, g48, h49, h47, hmR]; try rfl, by simp only [go_sem, ↓reduceIte, Nat.reduceEqDiff, Nat.reduceAdd, Nat.reduceMul, Nat.reduceBEq, Option.getD_none, Int.reduceToNat, Nat.reduceSub, Nat.reduceLT, Nat.reduceLeDiff, Int.reduceLE, Int.reduceLT, reduceCtorEq, q0, q1, h8, g0, g1, g8, g48, h49, h47, hmR]; try rfl⟩⟩
                  · rw [List.length_map] at h7'
                    rw [List.mem_singleton] at hnm2
                    subst hnm2
                    simp only [go_sem, ↓reduceIte, Nat.reduceEqDiff, Nat.reduceAdd, Nat.reduceMul, Nat.reduceBEq, Option.getD_none, Int.reduceToNat, Nat.reduceSub, Nat.reduceLT, Nat.reduceLeDiff, Int.reduceLE, Int.reduceLT, reduceCtorEq, hi', ga, h7', hm', take_map_len, q0, q1, h8, g0, g1, g8, g48, h49, h47, hmR]
                    refine coW_of (spec_l1Put.fco so2 y (by omega)) noRs_ints rfl ?_
                    simp only [go_sem, ↓reduceIte, Nat.reduceEqDiff, Nat.reduceAdd, Nat.reduceMul, Nat.reduceBEq, Option.getD_none, Int.reduceToNat, Nat.reduceSub, Nat.reduceLT, Nat.reduceLeDiff, Int.reduceLE, Int.reduceLT, reduceCtorEq, hw, q0, q1, h8, g0, g1, g8, g48, h49, h47, hmR]
                    exact ⟨(j + 1, putI so2 y), by dsimp only; omega, by dsimp only; omega, by simp only [go_sem, ↓reduceIte, Nat.reduceEqDiff, Nat.reduceAdd, Nat.reduceMul, Nat.reduceBEq, Option.getD_none, Int.reduceToNat, Nat.reduceSub, Nat.reduceLT, Nat.reduceLeDiff, Int.reduceLE, Int.reduceLT, reduceCtorEq, q0, q1, h8, g0, g1, g8, g48, h49, h47, hmR], hso3, by dsimp only; omega, ⟨u, by simp only [go_sem, ↓reduceIte, Nat.reduceEqDiff, Nat.reduceAdd, Nat.reduceMul, Nat.reduceBEq, Option.getD_none, Int.reduceToNat, Nat.reduceSub, Nat.reduceLT, Nat.reduceLeDiff, Int.reduceLE, Int.reduceLT, reduceCtorEq, q0, q1, h8, g0, g1, g8, g48, h49, h47, hmR], by simp only [go_sem, ↓reduceIte, Nat.reduceEqDiff, Nat.reduceAdd, Nat.reduceMul, Nat.reduceBEq, Option.getD_none, Int.reduceToNat, Nat.reduceSub, Nat.reduceLT, Nat.reduceLeDiff, Int.reduceLE, Int.reduceLT, reduceCtorEq, q0, q1, h8, g0, g1, g8, g48, h49, h47, hmR]⟩, .inr ⟨3456, by simp, _, by rw [List.length_map]; simp only [go_sem, ↓reduceIte, Nat.reduceEqDiff, Nat.reduceAdd, Nat.reduceMul, Nat.reduceBEq, Option.getD_none, Int.reduceToNat, Nat.reduceSub, Nat.reduceLT, Nat.reduceLeDiff, Int.reduceLE, Int.reduceLT, reduceCtorEq, q0, q1, h8, g0, g1, g8, g48, h49, h47, hmR]; try rfl, by simp only [go_sem, ↓reduceIte, Nat.reduceEqDiff, Nat.reduceAdd, Nat.reduceMul, Nat.reduceBEq, Option.getD_none, Int.reduceToNat, Nat.reduceSub, Nat.reduceLT, Nat.reduceLeDiff, Int.reduceLE, Int.reduceLT, reduceCtorEq, q0, q1, h8, g0, g1, g8, g48, h49, h47, hmR]; try rfl⟩⟩
                · have hi' : ¬ (j : Int) < R.length := by omega
                  obtain rfl : j = R.length := by omega
                  rw [List.take_length] at hso2
                  have hso4 : ∀ y, y ∈ so2 ↔ y ∈ solL v l (k + 1) := fun y => by rw [hst, List.mem_append]; exact hso2 y
                  have hsl4 : so2.length ≤ 25 * (k + 1) := by omega
                  rcases hrow2 with ⟨hd9, h7'⟩ | ⟨nm2, hnm2, w2, h7', hm'⟩
                  · simp only [go_sem, ↓reduceIte, Nat.reduceEqDiff, Nat.reduceAdd, Nat.reduceMul, Nat.reduceBEq, Option.getD_none, Int.reduceToNat, Nat.reduceSub, Nat.reduceLT, Nat.reduceLeDiff, Int.reduceLE, Int.reduceLT, reduceCtorEq, Int.lt_irrefl, h7', hwx, q0, q1, h8, g0, g1, g8, g48, h49, h47, hmR]
                    exact ⟨(k + 1, so2), by dsimp only; omega, by dsimp only; omega, by simp only [go_sem, ↓reduceIte, Nat.reduceEqDiff, Nat.reduceAdd, Nat.reduceMul, Nat.reduceBEq, Option.getD_none, Int.reduceToNat, Nat.reduceSub, Nat.reduceLT, Nat.reduceLeDiff, Int.reduceLE, Int.reduceLT, reduceCtorEq, q0, q1, h8, g0, g1, g8, g48, h49, h47, hmR], hso4, hsl4, .inl ⟨hd9, by simp only [go_sem, ↓reduceIte, Nat.reduceEqDiff, Nat.reduceAdd, Nat.reduceMul, Nat.reduceBEq, Option.getD_none, Int.reduceToNat, Nat.reduceSub, Nat.reduceLT, Nat.reduceLeDiff, Int.reduceLE, Int.reduceLT, reduceCtorEq, h7', q0, q1, h8, g0, g1, g8, g48, h49, h47, hmR]⟩⟩
                  · rw [List.mem_singleton] at hnm2
                    subst hnm2
                    simp only [go_sem, ↓reduceIte, Nat.reduceEqDiff, Nat.reduceAdd, Nat.reduceMul, Nat.reduceBEq, Option.getD_none, Int.reduceToNat, Nat.reduceSub, Nat.reduceLT, Nat.reduceLeDiff, Int.reduceLE, Int.reduceLT, reduceCtorEq, Int.lt_irrefl, h7', hm', hwx, q0, q1, h8, g0, g1, g8, g48, h49, h47, hmR]
                    exact ⟨(k + 1, so2), by dsimp only; omega, by dsimp only; omega, by simp only [go_sem, ↓reduceIte, Nat.reduceEqDiff, Nat.reduceAdd, Nat.reduceMul, Nat.reduceBEq, Option.getD_none, Int.reduceToNat, Nat.reduceSub, Nat.reduceLT, Nat.reduceLeDiff, Int.reduceLE, Int.reduceLT, reduceCtorEq, q0, q1, h8, g0, g1, g8, g48, h49, h47, hmR], hso4, hsl4, .inr ⟨3456, by simp, w2, by simp only [go_sem, ↓reduceIte, Nat.reduceEqDiff, Nat.reduceAdd, Nat.reduceMul, Nat.reduceBEq, Option.getD_none, Int.reduceToNat, Nat.reduceSub, Nat.reduceLT, Nat.reduceLeDiff, Int.reduceLE, Int.reduceLT, reduceCtorEq, h7', q0, q1, h8, g0, g1, g8, g48, h49, h47, hmR], by simp only [go_sem, ↓reduceIte, Nat.reduceEqDiff, Nat.reduceAdd, Nat.reduceMul, Nat.reduceBEq, Option.getD_none, Int.reduceToNat, Nat.reduceSub, Nat.reduceLT, Nat.reduceLeDiff, Int.reduceLE, Int.reduceLT, reduceCtorEq, hm', q0, q1, h8, g0, g1, g8, g48, h49, h47, hmR]⟩⟩
              | false =>
                simp only [hq1, hq2, hq3, Bool.or_self, Bool.false_eq_true, if_false] at hst
                simp only [go_sem, ↓reduceIte, Nat.reduceEqDiff, Nat.reduceAdd, Nat.reduceMul, Nat.reduceBEq, Option.getD_none, Int.reduceToNat, Nat.reduceSub, Nat.reduceLT, Nat.reduceLeDiff, Int.reduceLE, Int.reduceLT, reduceCtorEq, q0, q1, h8]
                refine fcW_bd (spec_l15Leads.fc v l (x) h2.hv h2.lits h2.two h2.dist hl1 h2.len) noRs_ints ?_
                have hrl := reachL_len v l (x)
                generalize reachL v l (x) = R at hst hrl ⊢
                simp only [go_sem, ↓reduceIte, Nat.reduceEqDiff, Nat.reduceAdd, Nat.reduceMul, Nat.reduceBEq, Option.getD_none, Int.reduceToNat, Nat.reduceSub, Nat.reduceLT, Nat.reduceLeDiff, Int.reduceLE, Int.reduceLT, reduceCtorEq, q0, q1, h8]
                refine R_loop (α := Nat × List Int) (fun a s' M' => a.1 ≤ R.length ∧ s' 49 = aI a.1 ∧ (∀ y, y ∈ a.2 ↔ y ∈ S ∨ y ∈ R.take a.1) ∧ a.2.length ≤ 25 * k + a.1 ∧ (∃ u, s' 47 = .sl 2880 u 0 R.length 1 ∧ M'.m 2880 = some (.arr u true 1 (R.map Ii))) ∧ RowX (s' 7) M' [3456] (a.2.map Ii)) (fun a => R.length - a.1) (0, [])
                  ⟨by simp, by simp only [go_sem, ↓reduceIte, Nat.reduceEqDiff, Nat.reduceAdd, Nat.reduceMul, Nat.reduceBEq, Option.getD_none, Int.reduceToNat, Nat.reduceSub, Nat.reduceLT, Nat.reduceLeDiff, Int.reduceLE, Int.reduceLT, reduceCtorEq, q0, q1, h8]; rfl, fun y => by rw [hso y]; simp, by dsimp only; omega, ⟨_, by simp only [go_sem, ↓reduceIte, Nat.reduceEqDiff, Nat.reduceAdd, Nat.reduceMul, Nat.reduceBEq, Option.getD_none, Int.reduceToNat, Nat.reduceSub, Nat.reduceLT, Nat.reduceLeDiff, Int.reduceLE, Int.reduceLT, reduceCtorEq, q0, q1, h8]; try rfl, by simp only [go_sem, ↓reduceIte, Nat.reduceEqDiff, Nat.reduceAdd, Nat.reduceMul, Nat.reduceBEq, Option.getD_none, Int.reduceToNat, Nat.reduceSub, Nat.reduceLT, Nat.reduceLeDiff, Int.reduceLE, Int.reduceLT, reduceCtorEq, q0, q1, h8]; try rfl⟩, .inl ⟨rfl, by simp only [go_sem, ↓reduceIte, Nat.reduceEqDiff, Nat.reduceAdd, Nat.reduceMul, Nat.reduceBEq, Option.getD_none, Int.reduceToNat, Nat.reduceSub, Nat.reduceLT, Nat.reduceLeDiff, Int.reduceLE, Int.reduceLT, reduceCtorEq, h7, q0, q1, h8]⟩⟩ ?_
                rintro ⟨j, so2⟩ s2 M2 ⟨hj, h49, hso2, hsl2, ⟨u, h47, hmR⟩, hrow2⟩ ho2
                dsimp only at hj h49 hso2 hsl2 hrow2
                unfold spec_SolveTwo.b0
                have g0 : s2 0 = .dat none (Ii v) := by rw [ho2 0 rfl]; simp only [go_sem, ↓reduceIte, Nat.reduceEqDiff, Nat.reduceAdd, Nat.reduceMul, Nat.reduceBEq, Option.getD_none, Int.reduceToNat, Nat.reduceSub, Nat.reduceLT, Nat.reduceLeDiff, Int.reduceLE, Int.reduceLT, reduceCtorEq, q0, q1, h8]
                have g1 : s2 1 = .dat none (intss l) := by rw [ho2 1 rfl]; simp only [go_sem, ↓reduceIte, Nat.reduceEqDiff, Nat.reduceAdd, Nat.reduceMul, Nat.reduceBEq, Option.getD_none, Int.reduceToNat, Nat.reduceSub, Nat.reduceLT, Nat.reduceLeDiff, Int.reduceLE, Int.reduceLT, reduceCtorEq, q0, q1, h8]
                have g8 : s2 8 = aI x := by rw [ho2 8 rfl]; simp only [go_sem, ↓reduceIte, Nat.reduceEqDiff, Nat.reduceAdd, Nat.reduceMul, Nat.reduceBEq, Option.getD_none, Int.reduceToNat, Nat.reduceSub, Nat.reduceLT, Nat.reduceLeDiff, Int.reduceLE, Int.reduceLT, reduceCtorEq, q0, q1, h8]
                have g48 : s2 48 = aI R.length := by rw [ho2 48 rfl]; simp only [go_sem, ↓reduceIte, Nat.reduceEqDiff, Nat.reduceAdd, Nat.reduceMul, Nat.reduceBEq, Option.getD_none, Int.reduceToNat, Nat.reduceSub, Nat.reduceLT, Nat.reduceLeDiff, Int.reduceLE, Int.reduceLT, reduceCtorEq, q0, q1, h8]
                clear ho2
                by_cases hlt : j < R.length
                · have hi' : (j : Int) < R.length := by omega
                  have ga : R[j]? = some R[j] := List.getElem?_eq_getElem hlt
                  have hw : IntKind.i64.wrap (j + 1) = ((j + 1 : Nat) : Int) := wrap_k hlt (by omega)
                  have htk : R.take (j + 1) = R.take j ++ [R[j]] := take_succ' hlt
                  generalize R[j] = y at ga htk
                  have hso3 : ∀ z, z ∈ putI so2 y ↔ z ∈ S ∨ z ∈ R.take (j + 1) := fun z => by
                    rw [putI_mem, hso2 z, htk, List.mem_append, List.mem_singleton]
                    constructor
                    · rintro (h | h | h)
                      · exact .inr (.inr h)
                      · exact .inl h
                      · exact .inr (.inl h)
                    · rintro (h | h | h)
                      · exact .inr (.inl h)
                      · exact .inr (.inr h)
                      · exact .inl h
                  have hpl := putI_le so2 y
                  rcases hrow2 with ⟨hd9, h7'⟩ | ⟨nm2, hnm2, w2, h7', hm'⟩
                  · obtain rfl := List.map_eq_nil_iff.1 hd9
                    simp only [go_sem, ↓reduceIte, Nat.reduceEqDiff, Nat.reduceAdd, Nat.reduceMul, Nat.reduceBEq, Option.getD_none, Int.reduceToNat, Nat.reduceSub, Nat.reduceLT, Nat.reduceLeDiff, Int.reduceLE, Int.reduceLT, reduceCtorEq, hi', ga, h7', q0, q1, h8, g0, g1, g8, g48, h49, h47, hmR]
                    refine coW_of (spec_l1Put.fco [] y (by simp)) noRs_ints rfl ?_
                    simp only [go_sem, ↓reduceIte, Nat.reduceEqDiff, Nat.reduceAdd, Nat.reduceMul, Nat.reduceBEq, Option.getD_none, Int.reduceToNat, Nat.reduceSub, Nat.reduceLT, Nat.reduceLeDiff, Int.reduceLE, Int.reduceLT, reduceCtorEq, hw, q0, q1, h8, g0, g1, g8, g48, h49, h47, hmR]
                    exact ⟨(j + 1, putI [] y), by dsimp only; omega, by dsimp only; omega, by simp only [go_sem, ↓reduceIte, Nat.reduceEqDiff, Nat.reduceAdd, Nat.reduceMul, Nat.reduceBEq, Option.getD_none, Int.reduceToNat, Nat.reduceSub, Nat.reduceLT, Nat.reduceLeDiff, Int.reduceLE, Int.reduceLT, reduceCtorEq, q0, q1, h8, g0, g1, g8, g48, h49, h47, hmR], hso3, by dsimp only; omega, ⟨u, by simp only [go_sem, ↓reduceIte, Nat.reduceEqDiff, Nat.reduceAdd, Nat.reduceMul, Nat.reduceBEq, Option.getD_none, Int.reduceToNat, Nat.reduceSub, Nat.reduceLT, Nat.reduceLeDiff, Int.reduceLE, Int.reduceLT, reduceCtorEq, q0, q1, h8, g0, g1, g8, g48, h49, h47, hmR], by simp only [go_sem, ↓reduceIte, Nat.reduceEqDiff, Nat.reduceAdd, Nat.reduceMul, Nat.reduceBEq, Option.getD_none, Int.reduceToNat, Nat.reduceSub, Nat.reduceLT, Nat.reduceLeDiff, Int.reduceLE, Int.reduceLT, reduceCtorEq, q0, q1, h8, g0, g1, g8, g48, h49, h47, hmR]⟩, .inr ⟨3456, by simp, _, by rw [List.length_map]; simp only [go_sem, ↓reduceIte, Nat.reduceEqDiff, Nat.reduceAdd, Nat.reduceMul, Nat.reduceBEq, Option.getD_none, Int.reduceToNat, Nat.reduceSub, Nat.reduceLT, Nat.reduceLeDiff, Int.reduceLE, Int.reduceLT, reduceCtorEq, q0, q1, h8, g0, g1, g8, g48, h49, h47, hmR]; try rfl, by simp only [go_sem, ↓reduceIte, Nat.reduceEqDiff, Nat.reduceAdd, Nat.reduceMul, Nat.reduceBEq, Option.getD_none, Int.reduceToNat, Nat.reduceSub, Nat.reduceLT, Nat.reduceLeDiff, Int.reduceLE, Int.reduceLT, reduceCtorEq, q0, q1, h8, g0, g1, g8, g48, h49, h47, hmR]; try rfl⟩⟩
                  · rw [List.length_map] at h7'
                    rw [List.mem_singleton] at hnm2
                    subst hnm2
                    simp only [go_sem, ↓reduceIte, Nat.reduceEqDiff, Nat.reduceAdd, Nat.reduceMul, Nat.reduceBEq, Option.getD_none, Int.reduceToNat, Nat.reduceSub, Nat.reduceLT, Nat.reduceLeDiff, Int.reduceLE, Int.reduceLT, reduceCtorEq, hi', ga, h7', hm', take_map_len, q0, q1, h8, g0, g1, g8, g48, h49, h47, hmR]
                    refine coW_of (spec_l1Put.fco so2 y (by omega)) noRs_ints rfl ?_
                    simp only [go_sem, ↓reduceIte, Nat.reduceEqDiff, Nat.reduceAdd, Nat.reduceMul, Nat.reduceBEq, Option.getD_none, Int.reduceToNat, Nat.reduceSub, Nat.reduceLT, Nat.reduceLeDiff, Int.reduceLE, Int.reduceLT, reduceCtorEq, hw, q0, q1, h8, g0, g1, g8, g48, h49, h47, hmR]
                    exact ⟨(j + 1, putI so2 y), by dsimp only; omega, by dsimp only; omega, by simp only [go_sem, ↓reduceIte, Nat.reduceEqDiff, Nat.reduceAdd, Nat.reduceMul, Nat.reduceBEq, Option.getD_none, Int.reduceToNat, Nat.reduceSub, Nat.reduceLT, Nat.reduceLeDiff, Int.reduceLE, Int.reduceLT, reduceCtorEq, q0, q1, h8, g0, g1, g8, g48, h49, h47, hmR], hso3, by dsimp only; omega, ⟨u, by simp only [go_sem, ↓reduceIte, Nat.reduceEqDiff, Nat.reduceAdd, Nat.reduceMul, Nat.reduceBEq, Option.getD_none, Int.reduceToNat, Nat.reduceSub, Nat.reduceLT, Nat.reduceLeDiff, Int.reduceLE, Int.reduceLT, reduceCtorEq, q0, q1, h8, g0, g1, g8, g48, h49, h47, hmR], by simp only [go_sem, ↓reduceIte, Nat.reduceEqDiff, Nat.reduceAdd, Nat.reduceMul, Nat.reduceBEq, Option.getD_none, Int.reduceToNat, Nat.reduceSub, Nat.reduceLT, Nat.reduceLeDiff, Int.reduceLE, Int.reduceLT, reduceCtorEq, q0, q1, h8, g0, g1, g8, g48, h49, h47, hmR]⟩, .inr ⟨3456, by simp, _, by rw [List.length_map]; simp only [go_sem, ↓reduceIte, Nat.reduceEqDiff, Nat.reduceAdd, Nat.reduceMul, Nat.reduceBEq, Option.getD_none, Int.reduceToNat, Nat.reduceSub, Nat.reduceLT, Nat.reduceLeDiff, Int.reduceLE, Int.reduceLT, reduceCtorEq, q0, q1, h8, g0, g1, g8, g48, h49, h47, hmR]; try rfl, by simp only [go_sem, ↓reduceIte, Nat.reduceEqDiff, Nat.reduceAdd, Nat.reduceMul, Nat.reduceBEq, Option.getD_none, Int.reduceToNat, Nat.reduceSub, Nat.reduceLT, Nat.reduceLeDiff, Int.reduceLE, Int.reduceLT, reduceCtorEq, q0, q1, h8, g0, g1, g8, g48, h49, h47, hmR]; try rfl⟩⟩
                · have hi' : ¬ (j : Int) < R.length := by omega
                  obtain rfl : j = R.length := by omega
                  rw [List.take_length] at hso2
                  have hso4 : ∀ y, y ∈ so2 ↔ y ∈ solL v l (k + 1) := fun y => by rw [hst, List.mem_append]; exact hso2 y
                  have hsl4 : so2.length ≤ 25 * (k + 1) := by omega
                  rcases hrow2 with ⟨hd9, h7'⟩ | ⟨nm2, hnm2, w2, h7', hm'⟩
                  · simp only [go_sem, ↓reduceIte, Nat.reduceEqDiff, Nat.reduceAdd, Nat.reduceMul, Nat.reduceBEq, Option.getD_none, Int.reduceToNat, Nat.reduceSub, Nat.reduceLT, Nat.reduceLeDiff, Int.reduceLE, Int.reduceLT, reduceCtorEq, Int.lt_irrefl, h7', hwx, q0, q1, h8, g0, g1, g8, g48, h49, h47, hmR]
                    exact ⟨(k + 1, so2), by dsimp only; omega, by dsimp only; omega, by simp only [go_sem, ↓reduceIte, Nat.reduceEqDiff, Nat.reduceAdd, Nat.reduceMul, Nat.reduceBEq, Option.getD_none, Int.reduceToNat, Nat.reduceSub, Nat.reduceLT, Nat.reduceLeDiff, Int.reduceLE, Int.reduceLT, reduceCtorEq, q0, q1, h8, g0, g1, g8, g48, h49, h47, hmR], hso4, hsl4, .inl ⟨hd9, by simp only [go_sem, ↓reduceIte, Nat.reduceEqDiff, Nat.reduceAdd, Nat.reduceMul, Nat.reduceBEq, Option.getD_none, Int.reduceToNat, Nat.reduceSub, Nat.reduceLT, Nat.reduceLeDiff, Int.reduceLE, Int.reduceLT, reduceCtorEq, h7', q0, q1, h8, g0, g1, g8, g48, h49, h47, hmR]⟩⟩
                  · rw [List.mem_singleton] at hnm2
                    subst hnm2
                    simp only [go_sem, ↓reduceIte, Nat.reduceEqDiff, Nat.reduceAdd, Nat.reduceMul, Nat.reduceBEq, Option.getD_none, Int.reduceToNat, Nat.reduceSub, Nat.reduceLT, Nat.reduceLeDiff, Int.reduceLE, Int.reduceLT, reduceCtorEq, Int.lt_irrefl, h7', hm', hwx, q0, q1, h8, g0, g1, g8, g48, h49, h47, hmR]
                    exact ⟨(k + 1, so2), by dsimp only; omega, by dsimp only; omega, by simp only [go_sem, ↓reduceIte, Nat.reduceEqDiff, Nat.reduceAdd, Nat.reduceMul, Nat.reduceBEq, Option.getD_none, Int.reduceToNat, Nat.reduceSub, Nat.reduceLT, Nat.reduceLeDiff, Int.reduceLE, Int.reduceLT, reduceCtorEq, q0, q1, h8, g0, g1, g8, g48, h49, h47, hmR], hso4, hsl4, .inr ⟨3456, by simp, w2, by simp only [go_sem, ↓reduceIte, Nat.reduceEqDiff, Nat.reduceAdd, Nat.reduceMul, Nat.reduceBEq, Option.getD_none, Int.reduceToNat, Nat.reduceSub, Nat.reduceLT, Nat.reduceLeDiff, Int.reduceLE, Int.reduceLT, reduceCtorEq, h7', q0, q1, h8, g0, g1, g8, g48, h49, h47, hmR], by simp only [go_sem, ↓reduceIte, Nat.reduceEqDiff, Nat.reduceAdd, Nat.reduceMul, Nat.reduceBEq, Option.getD_none, Int.reduceToNat, Nat.reduceSub, Nat.reduceLT, Nat.reduceLeDiff, Int.reduceLE, Int.reduceLT, reduceCtorEq, hm', q0, q1, h8, g0, g1, g8, g48, h49, h47, hmR]⟩⟩
        · rw [List.length_map] at h7
          rw [List.mem_singleton] at hnm
          subst hnm
          simp only [go_sem, ↓reduceIte, Nat.reduceEqDiff, Nat.reduceAdd, Nat.reduceMul, Nat.reduceBEq, Option.getD_none, Int.reduceToNat, Nat.reduceSub, Nat.reduceLT, Nat.reduceLeDiff, Int.reduceLE, Int.reduceLT, reduceCtorEq, hi', h7, hm, take_map_len, q0, q1, h8]
          refine fcW_bool (spec_l1Has.fc so x (by first | omega | simp)) ?_
          cases hq1 : S.any (· == x) with
          | true =>
            simp only [hq1, Bool.true_or, if_true] at hst
            rw [heq x, hq1]
            simp only [go_sem, ↓reduceIte, Nat.reduceEqDiff, Nat.reduceAdd, Nat.reduceMul, Nat.reduceBEq, Option.getD_none, Int.reduceToNat, Nat.reduceSub, Nat.reduceLT, Nat.reduceLeDiff, Int.reduceLE, Int.reduceLT, reduceCtorEq, hw, q0, q1, h8]
            exact ⟨(k + 1, so), by dsimp only; omega, by dsimp only; omega, by simp only [go_sem, ↓reduceIte, Nat.reduceEqDiff, Nat.reduceAdd, Nat.reduceMul, Nat.reduceBEq, Option.getD_none, Int.reduceToNat, Nat.reduceSub, Nat.reduceLT, Nat.reduceLeDiff, Int.reduceLE, Int.reduceLT, reduceCtorEq, q0, q1, h8], by dsimp only; rw [hst]; exact hso, by dsimp only; omega, .inr ⟨3456, by simp, w, by rw [List.length_map]; simp only [go_sem, ↓reduceIte, Nat.reduceEqDiff, Nat.reduceAdd, Nat.reduceMul, Nat.reduceBEq, Option.getD_none, Int.reduceToNat, Nat.reduceSub, Nat.reduceLT, Nat.reduceLeDiff, Int.reduceLE, Int.reduceLT, reduceCtorEq, h7, q0, q1, h8], by simp only [go_sem, ↓reduceIte, Nat.reduceEqDiff, Nat.reduceAdd, Nat.reduceMul, Nat.reduceBEq, Option.getD_none, Int.reduceToNat, Nat.reduceSub, Nat.reduceLT, Nat.reduceLeDiff, Int.reduceLE, Int.reduceLT, reduceCtorEq, hm, q0, q1, h8]⟩⟩
          | false =>
            rw [heq x, hq1]
            simp only [go_sem, ↓reduceIte, Nat.reduceEqDiff, Nat.reduceAdd, Nat.reduceMul, Nat.reduceBEq, Option.getD_none, Int.reduceToNat, Nat.reduceSub, Nat.reduceLT, Nat.reduceLeDiff, Int.reduceLE, Int.reduceLT, reduceCtorEq, hneg, h7, hm, take_map_len, q0, q1, h8]
            refine fcW_bool (spec_l1Has.fc so (-x) (by first | omega | simp)) ?_
            cases hq2 : S.any (· == -x) with
            | true =>
              simp only [hq1, hq2, Bool.or_true, if_true] at hst
              rw [heq (-x), hq2]
              simp only [go_sem, ↓reduceIte, Nat.reduceEqDiff, Nat.reduceAdd, Nat.reduceMul, Nat.reduceBEq, Option.getD_none, Int.reduceToNat, Nat.reduceSub, Nat.reduceLT, Nat.reduceLeDiff, Int.reduceLE, Int.reduceLT, reduceCtorEq, hw, q0, q1, h8]
              exact ⟨(k + 1, so), by dsimp only; omega, by dsimp only; omega, by simp only [go_sem, ↓reduceIte, Nat.reduceEqDiff, Nat.reduceAdd, Nat.reduceMul, Nat.reduceBEq, Option.getD_none, Int.reduceToNat, Nat.reduceSub, Nat.reduceLT, Nat.reduceLeDiff, Int.reduceLE, Int.reduceLT, reduceCtorEq, q0, q1, h8], by dsimp only; rw [hst]; exact hso, by dsimp only; omega, .inr ⟨3456, by simp, w, by rw [List.length_map]; simp only [go_sem, ↓reduceIte, Nat.reduceEqDiff, Nat.reduceAdd, Nat.reduceMul, Nat.reduceBEq, Option.getD_none, Int.reduceToNat, Nat.reduceSub, Nat.reduceLT, Nat.reduceLeDiff, Int.reduceLE, Int.reduceLT, reduceCtorEq, h7, q0, q1, h8], by simp only [go_sem, ↓reduceIte, Nat.reduceEqDiff, Nat.reduceAdd, Nat.reduceMul, Nat.reduceBEq, Option.getD_none, Int.reduceToNat, Nat.reduceSub, Nat.reduceLT, Nat.reduceLeDiff, Int.reduceLE, Int.reduceLT, reduceCtorEq, hm, q0, q1, h8]⟩⟩
            | false =>
              rw [heq (-x), hq2]
              simp only [go_sem, ↓reduceIte, Nat.reduceEqDiff, Nat.reduceAdd, Nat.reduceMul, Nat.reduceBEq, Option.getD_none, Int.reduceToNat, Nat.reduceSub, Nat.reduceLT, Nat.reduceLeDiff, Int.reduceLE, Int.reduceLT, reduceCtorEq, q0, q1, h8]
              have hr1 := reachL_len v l x
              refine fcW_bd (spec_l15Leads.fc v l x h2.hv h2.lits h2.two h2.dist hl1 h2.len) noRs_ints ?_
              simp only [go_sem, ↓reduceIte, Nat.reduceEqDiff, Nat.reduceAdd, Nat.reduceMul, Nat.reduceBEq, Option.getD_none, Int.reduceToNat, Nat.reduceSub, Nat.reduceLT, Nat.reduceLeDiff, Int.reduceLE, Int.reduceLT, reduceCtorEq, hneg, take_map_len, q0, q1, h8]
              refine fcW_bool (spec_l1Has.fc (reachL v l x) (-x) (by omega)) ?_
              cases hq3 : (reachL v l x).any (· == -x) with
              | true =>
                simp only [hq1, hq2, hq3, Bool.or_self, Bool.false_eq_true, if_false, if_true] at hst
                simp only [go_sem, ↓reduceIte, Nat.reduceEqDiff, Nat.reduceAdd, Nat.reduceMul, Nat.reduceBEq, Option.getD_none, Int.reduceToNat, Nat.reduceSub, Nat.reduceLT, Nat.reduceLeDiff, Int.reduceLE, Int.reduceLT, reduceCtorEq, hneg, q0, q1, h8]
                refine fcW_bd (spec_l15Leads.fc v l (-x) h2.hv h2.lits h2.two h2.dist hl2 h2.len) noRs_ints ?_
                have hrl := reachL_len v l (-x)
                generalize reachL v l (-x) = R at hst hrl ⊢
                simp only [go_sem, ↓reduceIte, Nat.reduceEqDiff, Nat.reduceAdd, Nat.reduceMul, Nat.reduceBEq, Option.getD_none, Int.reduceToNat, Nat.reduceSub, Nat.reduceLT, Nat.reduceLeDiff, Int.reduceLE, Int.reduceLT, reduceCtorEq, q0, q1, h8]
                refine R_loop (α := Nat × List Int) (fun a s' M' => a.1 ≤ R.length ∧ s' 49 = aI a.1 ∧ (∀ y, y ∈ a.2 ↔ y ∈ S ∨ y ∈ R.take a.1) ∧ a.2.length ≤ 25 * k + a.1 ∧ (∃ u, s' 47 = .sl 2880 u 0 R.length 1 ∧ M'.m 2880 = some (.arr u true 1 (R.map Ii))) ∧ RowX (s' 7) M' [3456] (a.2.map Ii)) (fun a => R.length - a.1) (0, so)
                  ⟨by simp, by simp only [go_sem, ↓reduceIte, Nat.reduceEqDiff, Nat.reduceAdd, Nat.reduceMul, Nat.reduceBEq, Option.getD_none, Int.reduceToNat, Nat.reduceSub, Nat.reduceLT, Nat.reduceLeDiff, Int.reduceLE, Int.reduceLT, reduceCtorEq, q0, q1, h8]; rfl, fun y => by rw [hso y]; simp, by dsimp only; omega, ⟨_, by simp only [go_sem, ↓reduceIte, Nat.reduceEqDiff, Nat.reduceAdd, Nat.reduceMul, Nat.reduceBEq, Option.getD_none, Int.reduceToNat, Nat.reduceSub, Nat.reduceLT, Nat.reduceLeDiff, Int.reduceLE, Int.reduceLT, reduceCtorEq, q0, q1, h8]; try rfl, by simp only [go_sem, ↓reduceIte, Nat.reduceEqDiff, Nat.reduceAdd, Nat.reduceMul, Nat.reduceBEq, Option.getD_none, Int.reduceToNat, Nat.reduceSub, Nat.reduceLT, Nat.reduceLeDiff, Int.reduceLE, Int.reduceLT, reduceCtorEq, q0, q1, h8]; try rfl⟩, .inr ⟨3456, by simp, w, by rw [List.length_map]; simp only [go_sem, ↓reduceIte, Nat.reduceEqDiff, Nat.reduceAdd, Nat.reduceMul, Nat.reduceBEq, Option.getD_none, Int.reduceToNat, Nat.reduceSub, Nat.reduceLT, Nat.reduceLeDiff, Int.reduceLE, Int.reduceLT, reduceCtorEq, h7, q0, q1, h8], by simp only [go_sem, ↓reduceIte, Nat.reduceEqDiff, Nat.reduceAdd, Nat.reduceMul, Nat.reduceBEq, Option.getD_none, Int.reduceToNat, Nat.reduceSub, Nat.reduceLT, Nat.reduceLeDiff, Int.reduceLE, Int.reduceLT, reduceCtorEq, hm, q0, q1, h8]⟩⟩ ?_
                rintro ⟨j, so2⟩ s2 M2 ⟨hj, h49, hso2, hsl2, ⟨u, h47, hmR⟩, hrow2⟩ ho2
                dsimp only at hj h49 hso2 hsl2 hrow2
                unfold spec_SolveTwo.b0
                have g0 : s2 0 = .dat none (Ii v) := by rw [ho2 0 rfl]; simp only [go_sem, ↓reduceIte, Nat.reduceEqDiff, Nat.reduceAdd, Nat.reduceMul, Nat.reduceBEq, Option.getD_none, Int.reduceToNat, Nat.reduceSub, Nat.reduceLT, Nat.reduceLeDiff, Int.reduceLE, Int.reduceLT, reduceCtorEq, q0, q1, h8]
                have g1 : s2 1 = .dat none (intss l) := by rw [ho2 1 rfl]; simp only [go_sem, ↓reduceIte, Nat.reduceEqDiff, Nat.reduceAdd, Nat.reduceMul, Nat.reduceBEq, Option.getD_none, Int.reduceToNat, Nat.reduceSub, Nat.reduceLT, Nat.reduceLeDiff, Int.reduceLE, Int.reduceLT, reduceCtorEq, q0, q1, h8]
                have g8 : s2 8 = aI x := by rw [ho2 8 rfl]; simp only [go_sem, ↓reduceIte, Nat.reduceEqDiff, Nat.reduceAdd, Nat.reduceMul, Nat.reduceBEq, Option.getD_none, Int.reduceToNat, Nat.reduceSub, Nat.reduceLT, Nat.reduceLeDiff, Int.reduceLE, Int.reduceLT, reduceCtorEq, q0, q1, h8]
                have g48 : s2 48 = aI R.length := by rw [ho2 48 rfl]; simp only [go_sem, ↓reduceIte, Nat.reduceEqDiff, Nat.reduceAdd, Nat.reduceMul, Nat.reduceBEq, Option.getD_none, Int.reduceToNat, Nat.reduceSub, Nat.reduceLT, Nat.reduceLeDiff, Int.reduceLE, Int.reduceLT, reduceCtorEq, q0, q1, h8]
                clear ho2
                by_cases hlt : j < R.length
                · have hi' : (j : Int) < R.length := by omega
                  have ga : R[j]? = some R[j] := List.getElem?_eq_getElem hlt
                  have hw : IntKind.i64.wrap (j + 1) = ((j + 1 : Nat) : Int) := wrap_k hlt (by omega)
                  have htk : R.take (j + 1) = R.take j ++ [R[j]] := take_succ' hlt
                  generalize R[j] = y at ga htk
                  have hso3 : ∀ z, z ∈ putI so2 y ↔ z ∈ S ∨ z ∈ R.take (j + 1) := fun z => by
                    rw [putI_mem, hso2 z, htk, List.mem_append, List.mem_singleton]
                    constructor
                    · rintro (h | h | h)
                      · exact .inr (.inr h)
                      · exact .inl h
                      · exact .inr (.inl h)
                    · rintro (h | h | h)
                      · exact .inr (.inl h)
                      · exact .inr (.inr h)
                      · exact .inl h
                  have hpl := putI_le so2 y
                  rcases hrow2 with ⟨hd9, h7'⟩ | ⟨nm2, hnm2, w2, h7', hm'⟩
                  · obtain rfl := List.map_eq_nil_iff.1 hd9
                    simp only [go_sem, ↓reduceIte, Nat.reduceEqDiff, Nat.reduceAdd, Nat.reduceMul, Nat.reduceBEq, Option.getD_none, Int.reduceToNat, Nat.reduceSub, Nat.reduceLT, Nat.reduceLeDiff, Int.reduceLE, Int.reduceLT, reduceCtorEq, hi', ga, h7', q0, q1, h8, g0, g1, g8, g48, h49, h47, hmR]
                    refine coW_of (spec_l1Put.fco [] y (by simp)) noRs_ints rfl ?_
                    simp only [go_sem, ↓reduceIte, Nat.reduceEqDiff, Nat.reduceAdd, Nat.reduceMul, Nat.reduceBEq, Option.getD_none, Int.reduceToNat, Nat.reduceSub, Nat.reduceLT, Nat.reduceLeDiff, Int.reduceLE, Int.reduceLT, reduceCtorEq, hw, q0, q1, h8, g0, g1, g8, g48, h49, h47, hmR]
                    exact ⟨(j + 1, putI [] y), by dsimp only; omega, by dsimp only; omega, by simp only [go_sem, ↓reduceIte, Nat.reduceEqDiff, Nat.reduceAdd, Nat.reduceMul, Nat.reduceBEq, Option.getD_none, Int.reduceToNat, Nat.reduceSub, Nat.reduceLT, Nat.reduceLeDiff, Int.reduceLE, Int.reduceLT, reduceCtorEq, q0, q1, h8, g0, g1, g8, g48, h49, h47, hmR], hso3, by dsimp only; omega, ⟨u, by simp only [go_sem, ↓reduceIte, Nat.reduceEqDiff, Nat.reduceAdd, Nat.reduceMul, Nat.reduceBEq, Option.getD_none, Int.reduceToNat, Nat.reduceSub, Nat.reduceLT, Nat.reduceLeDiff, Int.reduceLE, Int.reduceLT, reduceCtorEq, q0, q1, h8, g0, g1, g8, g48, h49, h47, hmR], by simp only [go_sem, ↓reduceIte, Nat.reduceEqDiff, Nat.reduceAdd, Nat.reduceMul, Nat.reduceBEq, Option.getD_none, Int.reduceToNat, Nat.reduceSub, Nat.reduceLT, Nat.reduceLeDiff, Int.reduceLE, Int.reduceLT, reduceCtorEq, q0, q1, h8, g0, g1, g8, g48, h49, h47, hmR]⟩, .inr ⟨3456, by simp, _, by rw [List.length_map]; simp only [go_sem, ↓reduceIte, Nat.reduceEqDiff, Nat.reduceAdd, Nat.reduceMul, Nat.reduceBEq, Option.getD_none, Int.reduceToNat, Nat.reduceSub, Nat.reduceLT, Nat.reduceLeDiff, Int.reduceLE, Int.reduceLT, reduceCtorEq, q0, q1, h8, g0, g1, g8, g48, h49, h47, hmR]; try rfl, by simp only [go_sem, ↓reduceIte, Nat.reduceEqDiff, Nat.reduceAdd, Nat.reduceMul, Nat.reduceBEq, Option.getD_none, Int.reduceToNat, Nat.reduceSub, Nat.reduceLT, Nat.reduceLeDiff, Int.reduceLE, Int.reduceLT, reduceCtorEq, q0, q1, h8, g0, g1, g8, g48, h49, h47, hmR]; try rfl⟩⟩
                  · rw [List.length_map] at h7'
                    rw [List.mem_singleton] at hnm2
                    subst hnm2
                    simp only [go_sem, ↓reduceIte, Nat.reduceEqDiff, Nat.reduceAdd, Nat.reduceMul, Nat.reduceBEq, Option.getD_none, Int.reduceToNat, Nat.reduceSub, Nat.reduceLT, Nat.reduceLeDiff, Int.reduceLE, Int.reduceLT, reduceCtorEq, hi', ga, h7', hm', take_map_len, q0, q1, h8, g0, g1, g8, g48, h49, h47, hmR]
                    refine coW_of (spec_l1Put.fco so2 y (by omega)) noRs_ints rfl ?_
                    simp only [go_sem, ↓reduceIte, Nat.reduceEqDiff, Nat.reduceAdd, Nat.reduceMul, Nat.reduceBEq, Option.getD_none, Int.reduceToNat, Nat.reduceSub, Nat.reduceLT, Nat.reduceLeDiff, Int.reduceLE, Int.reduceLT, reduceCtorEq, hw, q0, q1, h8, g0, g1, g8, g48, h49, h47, hmR]
                    exact ⟨(j + 1, putI so2 y), by dsimp only; omega, by dsimp only; omega, by simp only [go_sem, ↓reduceIte, Nat.reduceEqDiff, Nat.reduceAdd, Nat.reduceMul, Nat.reduceBEq, Option.getD_none, Int.reduceToNat, Nat.reduceSub, Nat.reduceLT, Nat.reduceLeDiff, Int.reduceLE, Int.reduceLT, reduceCtorEq, q0, q1, h8, g0, g1, g8, g48, h49, h47, hmR], hso3, by dsimp only; omega, ⟨u, by simp only [go_sem, ↓reduceIte, Nat.reduceEqDiff, Nat.reduceAdd, Nat.reduceMul, Nat.reduceBEq, Option.getD_none, Int.reduceToNat, Nat.reduceSub, Nat.reduceLT, Nat.reduceLeDiff, Int.reduceLE, Int.reduceLT, reduceCtorEq, q0, q1, h8, g0, g1, g8, g48, h49, h47, hmR], by simp only [go_sem, ↓reduceIte, Nat.reduceEqDiff, Nat.reduceAdd, Nat.reduceMul, Nat.reduceBEq, Option.getD_none, Int.reduceToNat, Nat.reduceSub, Nat.reduceLT, Nat.reduceLeDiff, Int.reduceLE, Int.reduceLT, reduceCtorEq, q0, q1, h8, g0, g1, g8, g48, h49, h47, hmR]⟩, .inr ⟨3456, by simp, _, by rw [List.length_map]; simp only [go_sem, ↓reduceIte, Nat.reduceEqDiff, Nat.reduceAdd, Nat.reduceMul, Nat.reduceBEq, Option.getD_none, Int.reduceToNat, Nat.reduceSub, Nat.reduceLT, Nat.reduceLeDiff, Int.reduceLE, Int.reduceLT, reduceCtorEq, q0, q1, h8, g0, g1, g8, g48, h49, h47, hmR]; try rfl, by simp only [go_sem, ↓reduceIte, Nat.reduceEqDiff, Nat.reduceAdd, Nat.reduceMul, Nat.reduceBEq, Option.getD_none, Int.reduceToNat, Nat.reduceSub, Nat.reduceLT, Nat.reduceLeDiff, Int.reduceLE, Int.reduceLT, reduceCtorEq, q0, q1, h8, g0, g1, g8, g48, h49, h47, hmR]; try rfl⟩⟩
                · have hi' : ¬ (j : Int) < R.length := by omega
                  obtain rfl : j = R.length := by omega
                  rw [List.take_length] at hso2
                  have hso4 : ∀ y, y ∈ so2 ↔ y ∈ solL v l (k + 1) := fun y => by rw [hst, List.mem_append]; exact hso2 y
                  have hsl4 : so2.length ≤ 25 * (k + 1) := by omega
                  rcases hrow2 with ⟨hd9, h7'⟩ | ⟨nm2, hnm2, w2, h7', hm'⟩
                  · simp only [go_sem, ↓reduceIte, Nat.reduceEqDiff, Nat.reduceAdd, Nat.reduceMul, Nat.reduceBEq, Option.getD_none, Int.reduceToNat, Nat.reduceSub, Nat.reduceLT, Nat.reduceLeDiff, Int.reduceLE, Int.reduceLT, reduceCtorEq, Int.lt_irrefl, h7', hwx, q0, q1, h8, g0, g1, g8, g48, h49, h47, hmR]
                    exact ⟨(k + 1, so2), by dsimp only; omega, by dsimp only; omega, by simp only [go_sem, ↓reduceIte, Nat.reduceEqDiff, Nat.reduceAdd, Nat.reduceMul, Nat.reduceBEq, Option.getD_none, Int.reduceToNat, Nat.reduceSub, Nat.reduceLT, Nat.reduceLeDiff, Int.reduceLE, Int.reduceLT, reduceCtorEq, q0, q1, h8, g0, g1, g8, g48, h49, h47, hmR], hso4, hsl4, .inl ⟨hd9, by simp only [go_sem, ↓reduceIte, Nat.reduceEqDiff, Nat.reduceAdd, Nat.reduceMul, Nat.reduceBEq, Option.getD_none, Int.reduceToNat, Nat.reduceSub, Nat.reduceLT, Nat.reduceLeDiff, Int.reduceLE, Int.reduceLT, reduceCtorEq, h7', q0, q1, h8, g0, g1, g8, g48, h49, h47, hmR]⟩⟩
                  · rw [List.mem_singleton] at hnm2
                    subst hnm2
                    simp only [go_sem, ↓reduceIte, Nat.reduceEqDiff, Nat.reduceAdd, Nat.reduceMul, Nat.reduceBEq, Option.getD_none, Int.reduceToNat, Nat.reduceSub, Nat.reduceLT, Nat.reduceLeDiff, Int.reduceLE, Int.reduceLT, reduceCtorEq, Int.lt_irrefl, h7', hm', hwx, q0, q1, h8, g0, g1, g8, g48, h49, h47, hmR]
                    exact ⟨(k + 1, so2), by dsimp only; omega, by dsimp only; omega, by simp only [go_sem, ↓reduceIte, Nat.reduceEqDiff, Nat.reduceAdd, Nat.reduceMul, Nat.reduceBEq, Option.getD_none, Int.reduceToNat, Nat.reduceSub, Nat.reduceLT, Nat.reduceLeDiff, Int.reduceLE, Int.reduceLT, reduceCtorEq, q0, q1, h8, g0, g1, g8, g48, h49, h47, hmR], hso4, hsl4, .inr ⟨3456, by simp, w2, by simp only [go_sem, ↓reduceIte, Nat.reduceEqDiff, Nat.reduceAdd, Nat.reduceMul, Nat.reduceBEq, Option.getD_none, Int.reduceToNat, Nat.reduceSub, Nat.reduceLT, Nat.reduceLeDiff, Int.reduceLE, Int.reduceLT, reduceCtorEq, h7', q0, q1, h8, g0, g1, g8, g48, h49, h47, hmR], by simp only [go_sem, ↓reduceIte, Nat.reduceEqDiff, Nat.reduceAdd, Nat.reduceMul, Nat.reduceBEq, Option.getD_none, Int.reduceToNat, Nat.reduceSub, Nat.reduceLT, Nat.reduceLeDiff, Int.reduceLE, Int.reduceLT, reduceCtorEq, hm', q0, q1, h8, g0, g1, g8, g48, h49, h47, hmR]⟩⟩
              | false =>
                simp only [hq1, hq2, hq3, Bool.or_self, Bool.false_eq_true, if_false] at hst
                simp only [go_sem, ↓reduceIte, Nat.reduceEqDiff, Nat.reduceAdd, Nat.reduceMul, Nat.reduceBEq, Option.getD_none, Int.reduceToNat, Nat.reduceSub, Nat.reduceLT, Nat.reduceLeDiff, Int.reduceLE, Int.reduceLT, reduceCtorEq, q0, q1, h8]
                refine fcW_bd (spec_l15Leads.fc v l (x) h2.hv h2.lits h2.two h2.dist hl1 h2.len) noRs_ints ?_
                have hrl := reachL_len v l (x)
                generalize reachL v l (x) = R at hst hrl ⊢
                simp only [go_sem, ↓reduceIte, Nat.reduceEqDiff, Nat.reduceAdd, Nat.reduceMul, Nat.reduceBEq, Option.getD_none, Int.reduceToNat, Nat.reduceSub, Nat.reduceLT, Nat.reduceLeDiff, Int.reduceLE, Int.reduceLT, reduceCtorEq, q0, q1, h8]
                refine R_loop (α := Nat × List Int) (fun a s' M' => a.1 ≤ R.length ∧ s' 49 = aI a.1 ∧ (∀ y, y ∈ a.2 ↔ y ∈ S ∨ y ∈ R.take a.1) ∧ a.2.length ≤ 25 * k + a.1 ∧ (∃ u, s' 47 = .sl 2880 u 0 R.length 1 ∧ M'.m 2880 = some (.arr u true 1 (R.map Ii))) ∧ RowX (s' 7) M' [3456] (a.2.map Ii)) (fun a => R.length - a.1) (0, so)
                  ⟨by simp, by simp only [go_sem, ↓reduceIte, Nat.reduceEqDiff, Nat.reduceAdd, Nat.reduceMul, Nat.reduceBEq, Option.getD_none, Int.reduceToNat, Nat.reduceSub, Nat.reduceLT, Nat.reduceLeDiff, Int.reduceLE, Int.reduceLT, reduceCtorEq, q0, q1, h8]; rfl, fun y => by rw [hso y]; simp, by dsimp only; omega, ⟨_, by simp only [go_sem, ↓reduceIte, Nat.reduceEqDiff, Nat.reduceAdd, Nat.reduceMul, Nat.reduceBEq, Option.getD_none, Int.reduceToNat, Nat.reduceSub, Nat.reduceLT, Nat.reduceLeDiff, Int.reduceLE, Int.reduceLT, reduceCtorEq, q0, q1, h8]; try rfl, by simp only [go_sem, ↓reduceIte, Nat.reduceEqDiff, Nat.reduceAdd, Nat.reduceMul, Nat.reduceBEq, Option.getD_none, Int.reduceToNat, Nat.reduceSub, Nat.reduceLT, Nat.reduceLeDiff, Int.reduceLE, Int.reduceLT, reduceCtorEq, q0, q1, h8]; try rfl⟩, .inr ⟨3456, by simp, w, by rw [List.length_map]; simp only [go_sem, ↓reduceIte, Nat.reduceEqDiff, Nat.reduceAdd, Nat.reduceMul, Nat.reduceBEq, Option.getD_none, Int.reduceToNat, Nat.reduceSub, Nat.reduceLT, Nat.reduceLeDiff, Int.reduceLE, Int.reduceLT, reduceCtorEq, h7, q0, q1, h8], by simp only [go_sem, ↓reduceIte, Nat.reduceEqDiff, Nat.reduceAdd, Nat.reduceMul, Nat.reduceBEq, Option.getD_none, Int.reduceToNat, Nat.reduceSub, Nat.reduceLT, Nat.reduceLeDiff, Int.reduceLE, Int.reduceLT, reduceCtorEq, hm, q0, q1, h8]⟩⟩ ?_
                rintro ⟨j, so2⟩ s2 M2 ⟨hj, h49, hso2, hsl2, ⟨u, h47, hmR⟩, hrow2⟩ ho2
                dsimp only at hj h49 hso2 hsl2 hrow2
                unfold spec_SolveTwo.b0
                have g0 : s2 0 = .dat none (Ii v) := by rw [ho2 0 rfl]; simp only [go_sem, ↓reduceIte, Nat.reduceEqDiff, Nat.reduceAdd, Nat.reduceMul, Nat.reduceBEq, Option.getD_none, Int.reduceToNat, Nat.reduceSub, Nat.reduceLT, Nat.reduceLeDiff, Int.reduceLE, Int.reduceLT, reduceCtorEq, q0, q1, h8]
                have g1 : s2 1 = .dat none (intss l) := by rw [ho2 1 rfl]; simp only [go_sem, ↓reduceIte, Nat.reduceEqDiff, Nat.reduceAdd, Nat.reduceMul, Nat.reduceBEq, Option.getD_none, Int.reduceToNat, Nat.reduceSub, Nat.reduceLT, Nat.reduceLeDiff, Int.reduceLE, Int.reduceLT, reduceCtorEq, q0, q1, h8]
                have g8 : s2 8 = aI x := by rw [ho2 8 rfl]; simp only [go_sem, ↓reduceIte, Nat.reduceEqDiff, Nat.reduceAdd, Nat.reduceMul, Nat.reduceBEq, Option.getD_none, Int.reduceToNat, Nat.reduceSub, Nat.reduceLT, Nat.reduceLeDiff, Int.reduceLE, Int.reduceLT, reduceCtorEq, q0, q1, h8]
                have g48 : s2 48 = aI R.length := by rw [ho2 48 rfl]; simp only [go_sem, ↓reduceIte, Nat.reduceEqDiff, Nat.reduceAdd, Nat.reduceMul, Nat.reduceBEq, Option.getD_none, Int.reduceToNat, Nat.reduceSub, Nat.reduceLT, Nat.reduceLeDiff, Int.reduceLE, Int.reduceLT, reduceCtorEq, q0, q1, h8]
                clear ho2
                by_cases hlt : j < R.length
                · have hi' : (j : Int) < R.length := by omega
                  have ga : R[j]? = some R[j] := List.getElem?_eq_getElem hlt
                  have hw : IntKind.i64.wrap (j + 1) = ((j + 1 : Nat) : Int) := wrap_k hlt (by omega)
                  have htk : R.take (j + 1) = R.take j ++ [R[j]] := take_succ' hlt
                  generalize R[j] = y at ga htk
                  have hso3 : ∀ z, z ∈ putI so2 y ↔ z ∈ S ∨ z ∈ R.take (j + 1) := fun z => by
                    rw [putI_mem, hso2 z, htk, List.mem_append, List.mem_singleton]
                    constructor
                    · rintro (h | h | h)
                      · exact .inr (.inr h)
                      · exact .inl h
                      · exact .inr (.inl h)
                    · rintro (h | h | h)
                      · exact .inr (.inl h)
                      · exact .inr (.inr h)
                      · exact .inl h
                  have hpl := putI_le so2 y
                  rcases hrow2 with ⟨hd9, h7'⟩ | ⟨nm2, hnm2, w2, h7', hm'⟩
                  · obtain rfl := List.map_eq_nil_iff.1 hd9
                    simp only [go_sem, ↓reduceIte, Nat.reduceEqDiff, Nat.reduceAdd, Nat.reduceMul, Nat.reduceBEq, Option.getD_none, Int.reduceToNat, Nat.reduceSub, Nat.reduceLT, Nat.reduceLeDiff, Int.reduceLE, Int.reduceLT, reduceCtorEq, hi', ga, h7', q0, q1, h8, g0, g1, g8, g48, h49, h47, hmR]
                    refine coW_of (spec_l1Put.fco [] y (by simp)) noRs_ints rfl ?_
                    simp only [go_sem, ↓reduceIte, Nat.reduceEqDiff, Nat.reduceAdd, Nat.reduceMul, Nat.reduceBEq, Option.getD_none, Int.reduceToNat, Nat.reduceSub, Nat.reduceLT, Nat.reduceLeDiff, Int.reduceLE, Int.reduceLT, reduceCtorEq, hw, q0, q1, h8, g0, g1, g8, g48, h49, h47, hmR]
                    exact ⟨(j + 1, putI [] y), by dsimp only; omega, by dsimp only; omega, by simp only [go_sem, ↓reduceIte, Nat.reduceEqDiff, Nat.reduceAdd, Nat.reduceMul, Nat.reduceBEq, Option.getD_none, Int.reduceToNat, Nat.reduceSub, Nat.reduceLT, Nat.reduceLeDiff, Int.reduceLE, Int.reduceLT, reduceCtorEq, q0, q1, h8, g0, g1, g8, g48, h49, h47, hmR], hso3, by dsimp only; omega, ⟨u, by simp only [go_sem, ↓reduceIte, Nat.reduceEqDiff, Nat.reduceAdd, Nat.reduceMul, Nat.reduceBEq, Option.getD_none, Int.reduceToNat, Nat.reduceSub, Nat.reduceLT, Nat.reduceLeDiff, Int.reduceLE, Int.reduceLT, reduceCtorEq, q0, q1, h8, g0, g1, g8, g48, h49, h47, hmR], by simp only [go_sem, ↓reduceIte, Nat.reduceEqDiff, Nat.reduceAdd, Nat.reduceMul, Nat.reduceBEq, Option.getD_none, Int.reduceToNat, Nat.reduceSub, Nat.reduceLT, Nat.reduceLeDiff, Int.reduceLE, Int.reduceLT, reduceCtorEq, q0, q1, h8, g0, g1, g8, g48, h49, h47, hmR]⟩, .inr ⟨3456, by simp, _, by rw [List.length_map]; simp only [go_sem, ↓reduceIte, Nat.reduceEqDiff, Nat.reduceAdd, Nat.reduceMul, Nat.reduceBEq, Option.getD_none, Int.reduceToNat, Nat.reduceSub, Nat.reduceLT, Nat.reduceLeDiff, Int.reduceLE, Int.reduceLT, reduceCtorEq, q0, q1, h8, g0, g1, g8, g48, h49, h47, hmR]; try rfl, by simp only [go_sem, ↓reduceIte, Nat.reduceEqDiff, Nat.reduceAdd, Nat.reduceMul, Nat.reduceBEq, Option.getD_none, Int.reduceToNat, Nat.reduceSub, Nat.reduceLT, Nat.reduceLeDiff, Int.reduceLE, Int.reduceLT, reduceCtorEq, q0, q1, h8, g0, g1, g8, g48, h49, h47, hmR]; try rfl⟩⟩
                  · rw [List.length_map] at h7'
                    rw [List.mem_singleton] at hnm2
                    subst hnm2
                    simp only [go_sem, ↓reduceIte, Nat.reduceEqDiff, Nat.reduceAdd, Nat.reduceMul, Nat.reduceBEq, Option.getD_none, Int.reduceToNat, Nat.reduceSub, Nat.reduceLT, Nat.reduceLeDiff, Int.reduceLE, Int.reduceLT, reduceCtorEq, hi', ga, h7', hm', take_map_len, q0, q1, h8, g0, g1, g8, g48, h49, h47, hmR]
                    refine coW_of (spec_l1Put.fco so2 y (by omega)) noRs_ints rfl ?_
                    simp only [go_sem, ↓reduceIte, Nat.reduceEqDiff, Nat.reduceAdd, Nat.reduceMul, Nat.reduceBEq, Option.getD_none, Int.reduceToNat, Nat.reduceSub, Nat.reduceLT, Nat.reduceLeDiff, Int.reduceLE, Int.reduceLT, reduceCtorEq, hw, q0, q1, h8, g0, g1, g8, g48, h49, h47, hmR]
                    exact ⟨(j + 1, putI so2 y), by dsimp only; omega, by dsimp only; omega, by simp only [go_sem, ↓reduceIte, Nat.reduceEqDiff, Nat.reduceAdd, Nat.reduceMul, Nat.reduceBEq, Option.getD_none, Int.reduceToNat, Nat.reduceSub, Nat.reduceLT, Nat.reduceLeDiff, Int.reduceLE, Int.reduceLT, reduceCtorEq, q0, q1, h8, g0, g1, g8, g48, h49, h47, hmR], hso3, by dsimp only; omega, ⟨u, by simp only [go_sem, ↓reduceIte, Nat.reduceEqDiff, Nat.reduceAdd, Nat.reduceMul, Nat.reduceBEq, Option.getD_none, Int.reduceToNat, Nat.reduceSub, Nat.reduceLT, Nat.reduceLeDiff, Int.reduceLE, Int.reduceLT, reduceCtorEq, q0, q1, h8, g0, g1, g8, g48, h49, h47, hmR], by simp only [go_sem, ↓reduceIte, Nat.reduceEqDiff, Nat.reduceAdd, Nat.reduceMul, Nat.reduceBEq, Option.getD_none, Int.reduceToNat, Nat.reduceSub, Nat.reduceLT, Nat.reduceLeDiff, Int.reduceLE, Int.reduceLT, reduceCtorEq, q0, q1, h8, g0, g1, g8, g48, h49, h47, hmR]⟩, .inr ⟨3456, by simp, _, by rw [List.length_map]; simp only [go_sem, ↓reduceIte, Nat.reduceEqDiff, Nat.reduceAdd, Nat.reduceMul, Nat.reduceBEq, Option.getD_none, Int.reduceToNat, Nat.reduceSub, Nat.reduceLT, Nat.reduceLeDiff, Int.reduceLE, Int.reduceLT, reduceCtorEq, q0, q1, h8, g0, g1, g8, g48, h49, h47, hmR]; try rfl, by simp only [go_sem, ↓reduceIte, Nat.reduceEqDiff, Nat.reduceAdd, Nat.reduceMul, Nat.reduceBEq, Option.getD_none, Int.reduceToNat, Nat.reduceSub, Nat.reduceLT, Nat.reduceLeDiff, Int.reduceLE, Int.reduceLT, reduceCtorEq, q0, q1, h8, g0, g1, g8, g48, h49, h47, hmR]; try rfl⟩⟩
                · have hi' : ¬ (j : Int) < R.length := by omega
                  obtain rfl : j = R.length := by omega
                  rw [List.take_length] at hso2
                  have hso4 : ∀ y, y ∈ so2 ↔ y ∈ solL v l (k + 1) := fun y => by rw [hst, List.mem_append]; exact hso2 y
                  have hsl4 : so2.length ≤ 25 * (k + 1) := by omega
                  rcases hrow2 with ⟨hd9, h7'⟩ | ⟨nm2, hnm2, w2, h7', hm'⟩
                  · simp only [go_sem, ↓reduceIte, Nat.reduceEqDiff, Nat.reduceAdd, Nat.reduceMul, Nat.reduceBEq, Option.getD_none, Int.reduceToNat, Nat.reduceSub, Nat.reduceLT, Nat.reduceLeDiff, Int.reduceLE, Int.reduceLT, reduceCtorEq, Int.lt_irrefl, h7', hwx, q0, q1, h8, g0, g1, g8, g48, h49, h47, hmR]
                    exact ⟨(k + 1, so2), by dsimp only; omega, by dsimp only; omega, by simp only [go_sem, ↓reduceIte, Nat.reduceEqDiff, Nat.reduceAdd, Nat.reduceMul, Nat.reduceBEq, Option.getD_none, Int.reduceToNat, Nat.reduceSub, Nat.reduceLT, Nat.reduceLeDiff, Int.reduceLE, Int.reduceLT, reduceCtorEq, q0, q1, h8, g0, g1, g8, g48, h49, h47, hmR], hso4, hsl4, .inl ⟨hd9, by simp only [go_sem, ↓reduceIte, Nat.reduceEqDiff, Nat.reduceAdd, Nat.reduceMul, Nat.reduceBEq, Option.getD_none, Int.reduceToNat, Nat.reduceSub, Nat.reduceLT, Nat.reduceLeDiff, Int.reduceLE, Int.reduceLT, reduceCtorEq, h7', q0, q1, h8, g0, g1, g8, g48, h49, h47, hmR]⟩⟩
                  · rw [List.mem_singleton] at hnm2
                    subst hnm2
                    simp only [go_sem, ↓reduceIte, Nat.reduceEqDiff, Nat.reduceAdd, Nat.reduceMul, Nat.reduceBEq, Option.getD_none, Int.reduceToNat, Nat.reduceSub, Nat.reduceLT, Nat.reduceLeDiff, Int.reduceLE, Int.reduceLT, reduceCtorEq, Int.lt_irrefl, h7', hm', hwx, q0, q1, h8, g0, g1, g8, g48, h49, h47, hmR]
                    exact ⟨(k + 1, so2), by dsimp only; omega, by dsimp only; omega, by simp only [go_sem, ↓reduceIte, Nat.reduceEqDiff, Nat.reduceAdd, Nat.reduceMul, Nat.reduceBEq, Option.getD_none, Int.reduceToNat, Nat.reduceSub, Nat.reduceLT, Nat.reduceLeDiff, Int.reduceLE, Int.reduceLT, reduceCtorEq, q0, q1, h8, g0, g1, g8, g48, h49, h47, hmR], hso4, hsl4, .inr ⟨3456, by simp, w2, by simp only [go_sem, ↓reduceIte, Nat.reduceEqDiff, Nat.reduceAdd, Nat.reduceMul, Nat.reduceBEq, Option.getD_none, Int.reduceToNat, Nat.reduceSub, Nat.reduceLT, Nat.reduceLeDiff, Int.reduceLE, Int.reduceLT, reduceCtorEq, h7', q0, q1, h8, g0, g1, g8, g48, h49, h47, hmR], by simp only [go_sem, ↓reduceIte, Nat.reduceEqDiff, Nat.reduceAdd, Nat.reduceMul, Nat.reduceBEq, Option.getD_none, Int.reduceToNat, Nat.reduceSub, Nat.reduceLT, Nat.reduceLeDiff, Int.reduceLE, Int.reduceLT, reduceCtorEq, hm', q0, q1, h8, g0, g1, g8, g48, h49, h47, hmR]⟩⟩
      · obtain rfl : k = v := by omega
        have hn : ¬ ((k : Int) + 1 ≤ k) := by omega
        have hb0 : boolsTo (fun i : Nat => so.any (· == (i : Int) + 1)) k 0 = List.replicate k false := by simp [boolsTo]
        have hend := boolsTo_end (f := fun i : Nat => so.any (· == (i : Int) + 1)) (v := k)
        have hrep : List.replicate k (D.bool false) = (boolsTo (fun i : Nat => so.any (· == (i : Int) + 1)) k 0).map Bb := by rw [hb0]; simp
        have hfin : boolsL k l = (List.range k).map fun i : Nat => so.any (· == (i : Int) + 1) := by
          unfold boolsL
          exact List.map_congr_left fun i _ => (any_same hso _).symm
        rw [hfin, ← hend]
        generalize hf : (fun i : Nat => so.any (· == (i : Int) + 1)) = f at hb0 hrep ⊢
        have hf' : ∀ i : Nat, f i = so.any (· == (i : Int) + 1) := fun i => by rw [← hf]
        have hmk : (k : Int) * ((1 : Nat) : Int) ≤ 70368744177664 := by omega
        rcases hrow with ⟨hd9, h7⟩ | ⟨nm, hnm, w, h7, hm⟩
        · simp only [go_sem, ↓reduceIte, Nat.reduceEqDiff, Nat.reduceAdd, Nat.reduceMul, Nat.reduceBEq, Option.getD_none, Int.reduceToNat, Nat.reduceSub, Nat.reduceLT, Nat.reduceLeDiff, Int.reduceLE, Int.reduceLT, reduceCtorEq, hn, hrep, hmk, Int.le_refl, q0, q1, h8]
          refine R_loop (α := Nat) (fun i s' M' => i ≤ k ∧ s' 61 = aI i ∧ (∃ u, s' 12 = .sl 3968 u 0 k 1 ∧ M'.m 3968 = some (.arr u true 1 ((boolsTo f k i).map Bb))) ∧ RowX (s' 7) M' [3456] (so.map Ii)) (fun i => k - i) 0
            ⟨by omega, by simp only [go_sem, ↓reduceIte, Nat.reduceEqDiff, Nat.reduceAdd, Nat.reduceMul, Nat.reduceBEq, Option.getD_none, Int.reduceToNat, Nat.reduceSub, Nat.reduceLT, Nat.reduceLeDiff, Int.reduceLE, Int.reduceLT, reduceCtorEq, q0, q1, h8]; rfl, ⟨_, by simp only [go_sem, ↓reduceIte, Nat.reduceEqDiff, Nat.reduceAdd, Nat.reduceMul, Nat.reduceBEq, Option.getD_none, Int.reduceToNat, Nat.reduceSub, Nat.reduceLT, Nat.reduceLeDiff, Int.reduceLE, Int.reduceLT, reduceCtorEq, q0, q1, h8]; try rfl, by simp only [go_sem, ↓reduceIte, Nat.reduceEqDiff, Nat.reduceAdd, Nat.reduceMul, Nat.reduceBEq, Option.getD_none, Int.reduceToNat, Nat.reduceSub, Nat.reduceLT, Nat.reduceLeDiff, Int.reduceLE, Int.reduceLT, reduceCtorEq, q0, q1, h8]; try rfl⟩, .inl ⟨hd9, by simp only [go_sem, ↓reduceIte, Nat.reduceEqDiff, Nat.reduceAdd, Nat.reduceMul, Nat.reduceBEq, Option.getD_none, Int.reduceToNat, Nat.reduceSub, Nat.reduceLT, Nat.reduceLeDiff, Int.reduceLE, Int.reduceLT, reduceCtorEq, h7, q0, q1, h8]⟩⟩ ?_
          rintro i s2 M2 ⟨hi, h61, ⟨u, h12, hmB⟩, hrow2⟩ ho
          unfold spec_SolveTwo.b2
          have g60 : s2 60 = aI k := by rw [ho 60 rfl]; simp only [go_sem, ↓reduceIte, Nat.reduceEqDiff, Nat.reduceAdd, Nat.reduceMul, Nat.reduceBEq, Option.getD_none, Int.reduceToNat, Nat.reduceSub, Nat.reduceLT, Nat.reduceLeDiff, Int.reduceLE, Int.reduceLT, reduceCtorEq, q0, q1, h8]
          clear ho
          by_cases hlt : i < k
          · have hi' : (i : Int) < k := by omega
            have hw : IntKind.i64.wrap ((i : Int) + 1) = (i : Int) + 1 := wrap_in (by omega) (by omega)
            have hw2 : (i : Int) + 1 = ((i + 1 : Nat) : Int) := by omega
            have hbi := boolsTo_len (f := f) hi
            have hsi : ((boolsTo f k i).map Bb).set i (Bb (f i)) = (boolsTo f k (i + 1)).map Bb := by rw [← boolsTo_set (f := f) hlt, List.map_set]
            have hgi : (boolsTo f k i)[i]? = some ((boolsTo f k i)[i]'(by omega)) := List.getElem?_eq_getElem (by omega)
            rcases hrow2 with ⟨hd9, h7'⟩ | ⟨nm2, hnm2, w2, h7', hm'⟩
            · simp only [go_sem, ↓reduceIte, Nat.reduceEqDiff, Nat.reduceAdd, Nat.reduceMul, Nat.reduceBEq, Option.getD_none, Int.reduceToNat, Nat.reduceSub, Nat.reduceLT, Nat.reduceLeDiff, Int.reduceLE, Int.reduceLT, reduceCtorEq, hi', hw, h7', q0, q1, h8, g60, h61, h12, hmB]
              refine fcW_bool (spec_l1Has.fc [] ((i : Int) + 1) (by simp)) ?_
              have hff := hf' i
              rw [List.map_eq_nil_iff.1 hd9] at hff
              rw [← hff]
              simp only [go_sem, ↓reduceIte, Nat.reduceEqDiff, Nat.reduceAdd, Nat.reduceMul, Nat.reduceBEq, Option.getD_none, Int.reduceToNat, Nat.reduceSub, Nat.reduceLT, Nat.reduceLeDiff, Int.reduceLE, Int.reduceLT, reduceCtorEq, hi', hbi, hw, hsi, hgi, q0, q1, h8, g60, h61, h12, hmB]
              exact ⟨i + 1, by dsimp only; omega, by omega, by rw [← hw2]; simp only [go_sem, ↓reduceIte, Nat.reduceEqDiff, Nat.reduceAdd, Nat.reduceMul, Nat.reduceBEq, Option.getD_none, Int.reduceToNat, Nat.reduceSub, Nat.reduceLT, Nat.reduceLeDiff, Int.reduceLE, Int.reduceLT, reduceCtorEq, q0, q1, h8, g60, h61, h12, hmB], ⟨_, by simp only [go_sem, ↓reduceIte, Nat.reduceEqDiff, Nat.reduceAdd, Nat.reduceMul, Nat.reduceBEq, Option.getD_none, Int.reduceToNat, Nat.reduceSub, Nat.reduceLT, Nat.reduceLeDiff, Int.reduceLE, Int.reduceLT, reduceCtorEq, q0, q1, h8, g60, h61, h12, hmB]; try rfl, by simp only [go_sem, ↓reduceIte, Nat.reduceEqDiff, Nat.reduceAdd, Nat.reduceMul, Nat.reduceBEq, Option.getD_none, Int.reduceToNat, Nat.reduceSub, Nat.reduceLT, Nat.reduceLeDiff, Int.reduceLE, Int.reduceLT, reduceCtorEq, q0, q1, h8, g60, h61, h12, hmB]; try rfl⟩, .inl ⟨hd9, by simp only [go_sem, ↓reduceIte, Nat.reduceEqDiff, Nat.reduceAdd, Nat.reduceMul, Nat.reduceBEq, Option.getD_none, Int.reduceToNat, Nat.reduceSub, Nat.reduceLT, Nat.reduceLeDiff, Int.reduceLE, Int.reduceLT, reduceCtorEq, h7', q0, q1, h8, g60, h61, h12, hmB]⟩⟩
            · rw [List.length_map] at h7'
              rw [List.mem_singleton] at hnm2
              subst hnm2
              simp only [go_sem, ↓reduceIte, Nat.reduceEqDiff, Nat.reduceAdd, Nat.reduceMul, Nat.reduceBEq, Option.getD_none, Int.reduceToNat, Nat.reduceSub, Nat.reduceLT, Nat.reduceLeDiff, Int.reduceLE, Int.reduceLT, reduceCtorEq, hi', hw, h7', hm', take_map_len, q0, q1, h8, g60, h61, h12, hmB]
              refine fcW_bool (spec_l1Has.fc so ((i : Int) + 1) (by first | omega | simp)) ?_
              rw [← hf' i]
              simp only [go_sem, ↓reduceIte, Nat.reduceEqDiff, Nat.reduceAdd, Nat.reduceMul, Nat.reduceBEq, Option.getD_none, Int.reduceToNat, Nat.reduceSub, Nat.reduceLT, Nat.reduceLeDiff, Int.reduceLE, Int.reduceLT, reduceCtorEq, hi', hbi, hw, hsi, hgi, q0, q1, h8, g60, h61, h12, hmB]
              exact ⟨i + 1, by dsimp only; omega, by omega, by rw [← hw2]; simp only [go_sem, ↓reduceIte, Nat.reduceEqDiff, Nat.reduceAdd, Nat.reduceMul, Nat.reduceBEq, Option.getD_none, Int.reduceToNat, Nat.reduceSub, Nat.reduceLT, Nat.reduceLeDiff, Int.reduceLE, Int.reduceLT, reduceCtorEq, q0, q1, h8, g60, h61, h12, hmB], ⟨_, by simp only [go_sem, ↓reduceIte, Nat.reduceEqDiff, Nat.reduceAdd, Nat.reduceMul, Nat.reduceBEq, Option.getD_none, Int.reduceToNat, Nat.reduceSub, Nat.reduceLT, Nat.reduceLeDiff, Int.reduceLE, Int.reduceLT, reduceCtorEq, q0, q1, h8, g60, h61, h12, hmB]; try rfl, by simp only [go_sem, ↓reduceIte, Nat.reduceEqDiff, Nat.reduceAdd, Nat.reduceMul, Nat.reduceBEq, Option.getD_none, Int.reduceToNat, Nat.reduceSub, Nat.reduceLT, Nat.reduceLeDiff, Int.reduceLE, Int.reduceLT, reduceCtorEq, q0, q1, h8, g60, h61, h12, hmB]; try rfl⟩, .inr ⟨3456, by simp, w2, by rw [List.length_map]; simp only [go_sem, ↓reduceIte, Nat.reduceEqDiff, Nat.reduceAdd, Nat.reduceMul, Nat.reduceBEq, Option.getD_none, Int.reduceToNat, Nat.reduceSub, Nat.reduceLT, Nat.reduceLeDiff, Int.reduceLE, Int.reduceLT, reduceCtorEq, h7', q0, q1, h8, g60, h61, h12, hmB], by simp only [go_sem, ↓reduceIte, Nat.reduceEqDiff, Nat.reduceAdd, Nat.reduceMul, Nat.reduceBEq, Option.getD_none, Int.reduceToNat, Nat.reduceSub, Nat.reduceLT, Nat.reduceLeDiff, Int.reduceLE, Int.reduceLT, reduceCtorEq, hm', q0, q1, h8, g60, h61, h12, hmB]⟩⟩
          · have hi' : ¬ (i : Int) < k := by omega
            obtain rfl : i = k := by omega
            have hbi := boolsTo_len (f := f) (Nat.le_refl i)
            have htk : ((boolsTo f i i).map Bb).take i = (boolsTo f i i).map Bb := List.take_of_length_le (by rw [List.length_map, boolsTo_len (Nat.le_refl i)]; exact Nat.le_refl i)
            simp only [go_sem, ↓reduceIte, Nat.reduceEqDiff, Nat.reduceAdd, Nat.reduceMul, Nat.reduceBEq, Option.getD_none, Int.reduceToNat, Nat.reduceSub, Nat.reduceLT, Nat.reduceLeDiff, Int.reduceLE, Int.reduceLT, reduceCtorEq, Int.lt_irrefl, htk, hbi, q0, q1, h8, g60, h61, h12, hmB]
        · rw [List.length_map] at h7
          rw [List.mem_singleton] at hnm
          subst hnm
          simp only [go_sem, ↓reduceIte, Nat.reduceEqDiff, Nat.reduceAdd, Nat.reduceMul, Nat.reduceBEq, Option.getD_none, Int.reduceToNat, Nat.reduceSub, Nat.reduceLT, Nat.reduceLeDiff, Int.reduceLE, Int.reduceLT, reduceCtorEq, hn, hrep, hmk, Int.le_refl, q0, q1, h8]
          refine R_loop (α := Nat) (fun i s' M' => i ≤ k ∧ s' 61 = aI i ∧ (∃ u, s' 12 = .sl 3968 u 0 k 1 ∧ M'.m 3968 = some (.arr u true 1 ((boolsTo f k i).map Bb))) ∧ RowX (s' 7) M' [3456] (so.map Ii)) (fun i => k - i) 0
            ⟨by omega, by simp only [go_sem, ↓reduceIte, Nat.reduceEqDiff, Nat.reduceAdd, Nat.reduceMul, Nat.reduceBEq, Option.getD_none, Int.reduceToNat, Nat.reduceSub, Nat.reduceLT, Nat.reduceLeDiff, Int.reduceLE, Int.reduceLT, reduceCtorEq, q0, q1, h8]; rfl, ⟨_, by simp only [go_sem, ↓reduceIte, Nat.reduceEqDiff, Nat.reduceAdd, Nat.reduceMul, Nat.reduceBEq, Option.getD_none, Int.reduceToNat, Nat.reduceSub, Nat.reduceLT, Nat.reduceLeDiff, Int.reduceLE, Int.reduceLT, reduceCtorEq, q0, q1, h8]; try rfl, by simp only [go_sem, ↓reduceIte, Nat.reduceEqDiff, Nat.reduceAdd, Nat.reduceMul, Nat.reduceBEq, Option.getD_none, Int.reduceToNat, Nat.reduceSub, Nat.reduceLT, Nat.reduceLeDiff, Int.reduceLE, Int.reduceLT, reduceCtorEq, q0, q1, h8]; try rfl⟩, .inr ⟨3456, by simp, w, by rw [List.length_map]; simp only [go_sem, ↓reduceIte, Nat.reduceEqDiff, Nat.reduceAdd, Nat.reduceMul, Nat.reduceBEq, Option.getD_none, Int.reduceToNat, Nat.reduceSub, Nat.reduceLT, Nat.reduceLeDiff, Int.reduceLE, Int.reduceLT, reduceCtorEq, h7, q0, q1, h8], by simp only [go_sem, ↓reduceIte, Nat.reduceEqDiff, Nat.reduceAdd, Nat.reduceMul, Nat.reduceBEq, Option.getD_none, Int.reduceToNat, Nat.reduceSub, Nat.reduceLT, Nat.reduceLeDiff, Int.reduceLE, Int.reduceLT, reduceCtorEq, hm, q0, q1, h8]⟩⟩ ?_
          rintro i s2 M2 ⟨hi, h61, ⟨u, h12, hmB⟩, hrow2⟩ ho
          unfold spec_SolveTwo.b2
          have g60 : s2 60 = aI k := by rw [ho 60 rfl]; simp only [go_sem, ↓reduceIte, Nat.reduceEqDiff, Nat.reduceAdd, Nat.reduceMul, Nat.reduceBEq, Option.getD_none, Int.reduceToNat, Nat.reduceSub, Nat.reduceLT, Nat.reduceLeDiff, Int.reduceLE, Int.reduceLT, reduceCtorEq, q0, q1, h8]
          clear ho
          by_cases hlt : i < k
          · have hi' : (i : Int) < k := by omega
            have hw : IntKind.i64.wrap ((i : Int) + 1) = (i : Int) + 1 := wrap_in (by omega) (by omega)
            have hw2 : (i : Int) + 1 = ((i + 1 : Nat) : Int) := by omega
            have hbi := boolsTo_len (f := f) hi
            have hsi : ((boolsTo f k i).map Bb).set i (Bb (f i)) = (boolsTo f k (i + 1)).map Bb := by rw [← boolsTo_set (f := f) hlt, List.map_set]
            have hgi : (boolsTo f k i)[i]? = some ((boolsTo f k i)[i]'(by omega)) := List.getElem?_eq_getElem (by omega)
            rcases hrow2 with ⟨hd9, h7'⟩ | ⟨nm2, hnm2, w2, h7', hm'⟩
            · simp only [go_sem, ↓reduceIte, Nat.reduceEqDiff, Nat.reduceAdd, Nat.reduceMul, Nat.reduceBEq, Option.getD_none, Int.reduceToNat, Nat.reduceSub, Nat.reduceLT, Nat.reduceLeDiff, Int.reduceLE, Int.reduceLT, reduceCtorEq, hi', hw, h7', q0, q1, h8, g60, h61, h12, hmB]
              refine fcW_bool (spec_l1Has.fc [] ((i : Int) + 1) (by simp)) ?_
              have hff := hf' i
              rw [List.map_eq_nil_iff.1 hd9] at hff
              rw [← hff]
              simp only [go_sem, ↓reduceIte, Nat.reduceEqDiff, Nat.reduceAdd, Nat.reduceMul, Nat.reduceBEq, Option.getD_none, Int.reduceToNat, Nat.reduceSub, Nat.reduceLT, Nat.reduceLeDiff, Int.reduceLE, Int.reduceLT, reduceCtorEq, hi', hbi, hw, hsi, hgi, q0, q1, h8, g60, h61, h12, hmB]
              exact ⟨i + 1, by dsimp only; omega, by omega, by rw [← hw2]; simp only [go_sem, ↓reduceIte, Nat.reduceEqDiff, Nat.reduceAdd, Nat.reduceMul, Nat.reduceBEq, Option.getD_none, Int.reduceToNat, Nat.reduceSub, Nat.reduceLT, Nat.reduceLeDiff, Int.reduceLE, Int.reduceLT, reduceCtorEq, q0, q1, h8, g60, h61, h12, hmB], ⟨_, by simp only [go_sem, ↓reduceIte, Nat.reduceEqDiff, Nat.reduceAdd, Nat.reduceMul, Nat.reduceBEq, Option.getD_none, Int.reduceToNat, Nat.reduceSub, Nat.reduceLT, Nat.reduceLeDiff, Int.reduceLE, Int.reduceLT, reduceCtorEq, q0, q1, h8, g60, h61, h12, hmB]; try rfl, by simp only [go_sem, ↓reduceIte, Nat.reduceEqDiff, Nat.reduceAdd, Nat.reduceMul, Nat.reduceBEq, Option.getD_none, Int.reduceToNat, Nat.reduceSub, Nat.reduceLT, Nat.reduceLeDiff, Int.reduceLE, Int.reduceLT, reduceCtorEq, q0, q1, h8, g60, h61, h12, hmB]; try rfl⟩, .inl ⟨hd9, by simp only [go_sem, ↓reduceIte, Nat.reduceEqDiff, Nat.reduceAdd, Nat.reduceMul, Nat.reduceBEq, Option.getD_none, Int.reduceToNat, Nat.reduceSub, Nat.reduceLT, Nat.reduceLeDiff, Int.reduceLE, Int.reduceLT, reduceCtorEq, h7', q0, q1, h8, g60, h61, h12, hmB]⟩⟩
            · rw [List.length_map] at h7'
              rw [List.mem_singleton] at hnm2
              subst hnm2
              simp only [go_sem, ↓reduceIte, Nat.reduceEqDiff, Nat.reduceAdd, Nat.reduceMul, Nat.reduceBEq, Option.getD_none, Int.reduceToNat, Nat.reduceSub, Nat.reduceLT, Nat.reduceLeDiff, Int.reduceLE, Int.reduceLT, reduceCtorEq, hi', hw, h7', hm', take_map_len, q0, q1, h8, g60, h61, h12, hmB]
              refine fcW_bool (spec_l1Has.fc so ((i : Int) + 1) (by first | omega | simp)) ?_
              rw [← hf' i]
              simp only [go_sem, ↓reduceIte, Nat.reduceEqDiff, Nat.reduceAdd, Nat.reduceMul, Nat.reduceBEq, Option.getD_none, Int.reduceToNat, Nat.reduceSub, Nat.reduceLT, Nat.reduceLeDiff, Int.reduceLE, Int.reduceLT, reduceCtorEq, hi', hbi, hw, hsi, hgi, q0, q1, h8, g60, h61, h12, hmB]
              exact ⟨i + 1, by dsimp only; omega, by omega, by rw [← hw2]; simp only [go_sem, ↓reduceIte, Nat.reduceEqDiff, Nat.reduceAdd, Nat.reduceMul, Nat.reduceBEq, Option.getD_none, Int.reduceToNat, Nat.reduceSub, Nat.reduceLT, Nat.reduceLeDiff, Int.reduceLE, Int.reduceLT, reduceCtorEq, q0, q1, h8, g60, h61, h12, hmB], ⟨_, by simp only [go_sem, ↓reduceIte, Nat.reduceEqDiff, Nat.reduceAdd, Nat.reduceMul, Nat.reduceBEq, Option.getD_none, Int.reduceToNat, Nat.reduceSub, Nat.reduceLT, Nat.reduceLeDiff, Int.reduceLE, Int.reduceLT, reduceCtorEq, q0, q1, h8, g60, h61, h12, hmB]; try rfl, by simp only [go_sem, ↓reduceIte, Nat.reduceEqDiff, Nat.reduceAdd, Nat.reduceMul, Nat.reduceBEq, Option.getD_none, Int.reduceToNat, Nat.reduceSub, Nat.reduceLT, Nat.reduceLeDiff, Int.reduceLE, Int.reduceLT, reduceCtorEq, q0, q1, h8, g60, h61, h12, hmB]; try rfl⟩, .inr ⟨3456, by simp, w2, by rw [List.length_map]; simp only [go_sem, ↓reduceIte, Nat.reduceEqDiff, Nat.reduceAdd, Nat.reduceMul, Nat.reduceBEq, Option.getD_none, Int.reduceToNat, Nat.reduceSub, Nat.reduceLT, Nat.reduceLeDiff, Int.reduceLE, Int.reduceLT, reduceCtorEq, h7', q0, q1, h8, g60, h61, h12, hmB], by simp only [go_sem, ↓reduceIte, Nat.reduceEqDiff, Nat.reduceAdd, Nat.reduceMul, Nat.reduceBEq, Option.getD_none, Int.reduceToNat, Nat.reduceSub, Nat.reduceLT, Nat.reduceLeDiff, Int.reduceLE, Int.reduceLT, reduceCtorEq, hm', q0, q1, h8, g60, h61, h12, hmB]⟩⟩
          · have hi' : ¬ (i : Int) < k := by omega
            obtain rfl : i = k := by omega
            have hbi := boolsTo_len (f := f) (Nat.le_refl i)
            have htk : ((boolsTo f i i).map Bb).take i = (boolsTo f i i).map Bb := List.take_of_length_le (by rw [List.length_map, boolsTo_len (Nat.le_refl i)]; exact Nat.le_refl i)
            simp only [go_sem, ↓reduceIte, Nat.reduceEqDiff, Nat.reduceAdd, Nat.reduceMul, Nat.reduceBEq, Option.getD_none, Int.reduceToNat, Nat.reduceSub, Nat.reduceLT, Nat.reduceLeDiff, Int.reduceLE, Int.reduceLT, reduceCtorEq, Int.lt_irrefl, htk, hbi, q0, q1, h8, g60, h61, h12, hmB]
end Go.Vm.Ytdebllkmblakkaa
