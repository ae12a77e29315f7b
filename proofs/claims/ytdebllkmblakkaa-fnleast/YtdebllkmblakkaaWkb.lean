/- What the functions that the law reaches return: part 2 (the conditions stand at each). -/
import Derived.Test.YtdebllkmblakkaaWka
/- Walks: rules out of bytes. -/
namespace Go.Vm.Ytdebllkmblakkaa
open Go Go.Vm
set_option maxRecDepth 10000
set_option maxHeartbeats 16000000
set_option linter.unusedSimpArgs false
set_option linter.unusedVariables false

def FactsQ (m : Nat) (r : D) (outs : List D) : Prop := ∃ (w : List Int) (c' : CurD), r = ints w ∧ outs = [.ptr c'.d] ∧ w.length ≤ 14 ∧ CurOk c' m
theorem FactsQ.mk {m : Nat} {w : List Int} {c' : CurD} (h2 : w.length ≤ 14) (h3 : CurOk c' m) : FactsQ m (ints w) [.ptr c'.d] := ⟨w, c', rfl, rfl, h2, h3⟩
theorem facts_ex (c : CurD) (k : Int) (hk : k ≤ 14) {m : Nat} (h : CurOk c (m + 30)) : ∃ (w : List Int) (c' : CurD), w.length ≤ 14 ∧ CurOk c' m ∧ FCt prog F_spec_pl1Cur_facts [.io, .ro] [.ptr c.d, Ii k] (ints w) [.ptr c'.d] := by
  suffices H : ∃ r outs, FactsQ m r outs ∧ FCt prog F_spec_pl1Cur_facts [.io, .ro] [.ptr c.d, Ii k] r outs by
    obtain ⟨_, _, ⟨w, c', rfl, rfl, h1, h2⟩, hf⟩ := H
    exact ⟨w, c', h1, h2, hf⟩
  refine fct_ex _ spec_pl1Cur_facts.ok rfl rfl ?_
  simp only [go_sem, ↓reduceIte, Nat.reduceEqDiff, Nat.reduceAdd, Nat.reduceMul, Nat.reduceBEq, Option.getD_none, Int.reduceToNat, Nat.reduceSub, Nat.reduceLT, Nat.reduceLeDiff, Int.reduceLE, Int.reduceLT, reduceCtorEq]
  refine R_loop (α := Nat × List Int × CurD) (fun a s' M' => a.1 ≤ 14 ∧ a.2.1.length ≤ a.1 ∧ CurOk a.2.2 (m + 2 * (14 - a.1)) ∧ s' 6 = aI ((a.1 + 1 : Nat) : Int) ∧ M'.m 0 = some (.box 0 (curA a.2.2)) ∧ ∃ v, s' 5 = .sl 768 v 0 a.2.1.length 1 ∧ M'.m 768 = some (.arr v true 1 (a.2.1.map Ii))) (fun a => 14 - a.1) (0, [], c)
    ⟨by omega, by simp, h.mono (by omega), by simp only [go_sem, ↓reduceIte, Nat.reduceEqDiff, Nat.reduceAdd, Nat.reduceMul, Nat.reduceBEq, Option.getD_none, Int.reduceToNat, Nat.reduceSub, Nat.reduceLT, Nat.reduceLeDiff, Int.reduceLE, Int.reduceLT, reduceCtorEq]; try rfl, by simp only [go_sem, ↓reduceIte, Nat.reduceEqDiff, Nat.reduceAdd, Nat.reduceMul, Nat.reduceBEq, Option.getD_none, Int.reduceToNat, Nat.reduceSub, Nat.reduceLT, Nat.reduceLeDiff, Int.reduceLE, Int.reduceLT, reduceCtorEq]; try rfl, _, by simp only [go_sem, ↓reduceIte, Nat.reduceEqDiff, Nat.reduceAdd, Nat.reduceMul, Nat.reduceBEq, Option.getD_none, Int.reduceToNat, Nat.reduceSub, Nat.reduceLT, Nat.reduceLeDiff, Int.reduceLE, Int.reduceLT, reduceCtorEq]; try rfl, by simp only [go_sem, ↓reduceIte, Nat.reduceEqDiff, Nat.reduceAdd, Nat.reduceMul, Nat.reduceBEq, Option.getD_none, Int.reduceToNat, Nat.reduceSub, Nat.reduceLT, Nat.reduceLeDiff, Int.reduceLE, Int.reduceLT, reduceCtorEq]; try rfl⟩ ?_
  rintro ⟨x, l, u⟩ s2 M2 ⟨hx, hl, hu, g6, gm, v, g5, gr⟩ ho
  dsimp only at hx hl hu g6 gm g5 gr
  unfold spec_pl1Cur_facts.b0
  have j0 : s2 0 = .ptr 0 0 0 none := by rw [ho 0 rfl]; simp only [go_sem, ↓reduceIte, Nat.reduceEqDiff, Nat.reduceAdd, Nat.reduceMul, Nat.reduceBEq, Option.getD_none, Int.reduceToNat, Nat.reduceSub, Nat.reduceLT, Nat.reduceLeDiff, Int.reduceLE, Int.reduceLT, reduceCtorEq]
  have j1 : s2 1 = aI k := by rw [ho 1 rfl]; simp only [go_sem, ↓reduceIte, Nat.reduceEqDiff, Nat.reduceAdd, Nat.reduceMul, Nat.reduceBEq, Option.getD_none, Int.reduceToNat, Nat.reduceSub, Nat.reduceLT, Nat.reduceLeDiff, Int.reduceLE, Int.reduceLT, reduceCtorEq]
  clear ho
  by_cases hlt : ((x + 1 : Nat) : Int) ≤ k
  · have hw : IntKind.i64.wrap (((x + 1 : Nat) : Int) + 1) = ((x + 1 + 1 : Nat) : Int) := by rw [wrap_in (by omega) (by omega)]; omega
    have f1 := spec_pl1Cur_one.fc u 3 (m := m + 2 * (14 - (x + 1))) (hu.mono (by omega))
    have o1 : CurOk (pickC u 3) (m + 2 * (14 - (x + 1))) := pickC_ok (hu.mono (by omega))
    generalize pickC u 3 = u1 at f1 o1
    simp only [go_sem, ↓reduceIte, Nat.reduceEqDiff, Nat.reduceAdd, Nat.reduceMul, Nat.reduceBEq, Option.getD_none, Int.reduceToNat, Nat.reduceSub, Nat.reduceLT, Nat.reduceLeDiff, Int.reduceLE, Int.reduceLT, reduceCtorEq, hlt, j0, j1, g6, gm, g5, gr]
    refine coW_c f1 ?_
    cases (pickV u 3 == 0) with
    | false =>
      simp only [go_sem, ↓reduceIte, Nat.reduceEqDiff, Nat.reduceAdd, Nat.reduceMul, Nat.reduceBEq, Option.getD_none, Int.reduceToNat, Nat.reduceSub, Nat.reduceLT, Nat.reduceLeDiff, Int.reduceLE, Int.reduceLT, reduceCtorEq, hw, j0, j1, g6, gm, g5, gr]
      exact ⟨(x + 1, l, u1), by dsimp only; omega, by dsimp only; omega, by dsimp only; omega, o1, by simp only [go_sem, ↓reduceIte, Nat.reduceEqDiff, Nat.reduceAdd, Nat.reduceMul, Nat.reduceBEq, Option.getD_none, Int.reduceToNat, Nat.reduceSub, Nat.reduceLT, Nat.reduceLeDiff, Int.reduceLE, Int.reduceLT, reduceCtorEq, j0, j1, g6, gm, g5, gr], by simp only [go_sem, ↓reduceIte, Nat.reduceEqDiff, Nat.reduceAdd, Nat.reduceMul, Nat.reduceBEq, Option.getD_none, Int.reduceToNat, Nat.reduceSub, Nat.reduceLT, Nat.reduceLeDiff, Int.reduceLE, Int.reduceLT, reduceCtorEq, j0, j1, g6, gm, g5, gr], v, by simp only [go_sem, ↓reduceIte, Nat.reduceEqDiff, Nat.reduceAdd, Nat.reduceMul, Nat.reduceBEq, Option.getD_none, Int.reduceToNat, Nat.reduceSub, Nat.reduceLT, Nat.reduceLeDiff, Int.reduceLE, Int.reduceLT, reduceCtorEq, j0, j1, g6, gm, g5, gr], by simp only [go_sem, ↓reduceIte, Nat.reduceEqDiff, Nat.reduceAdd, Nat.reduceMul, Nat.reduceBEq, Option.getD_none, Int.reduceToNat, Nat.reduceSub, Nat.reduceLT, Nat.reduceLeDiff, Int.reduceLE, Int.reduceLT, reduceCtorEq, j0, j1, g6, gm, g5, gr]⟩
    | true =>
      have hbb : (l.length + 1) * 8 ≤ 70368744177664 := by omega
      have sn : l.map Ii ++ [Ii ((x + 1 : Nat) : Int)] = (l ++ [((x + 1 : Nat) : Int)]).map Ii := by simp
      simp only [go_sem, ↓reduceIte, Nat.reduceEqDiff, Nat.reduceAdd, Nat.reduceMul, Nat.reduceBEq, Option.getD_none, Int.reduceToNat, Nat.reduceSub, Nat.reduceLT, Nat.reduceLeDiff, Int.reduceLE, Int.reduceLT, reduceCtorEq, hw, hbb, take_map_len, j0, j1, g6, gm, g5, gr]
      exact ⟨(x + 1, l ++ [((x + 1 : Nat) : Int)], u1), by dsimp only; omega, by dsimp only; omega, by simp; omega, o1, by simp only [go_sem, ↓reduceIte, Nat.reduceEqDiff, Nat.reduceAdd, Nat.reduceMul, Nat.reduceBEq, Option.getD_none, Int.reduceToNat, Nat.reduceSub, Nat.reduceLT, Nat.reduceLeDiff, Int.reduceLE, Int.reduceLT, reduceCtorEq, j0, j1, g6, gm, g5, gr], by simp only [go_sem, ↓reduceIte, Nat.reduceEqDiff, Nat.reduceAdd, Nat.reduceMul, Nat.reduceBEq, Option.getD_none, Int.reduceToNat, Nat.reduceSub, Nat.reduceLT, Nat.reduceLeDiff, Int.reduceLE, Int.reduceLT, reduceCtorEq, j0, j1, g6, gm, g5, gr], _, by simp only [go_sem, ↓reduceIte, Nat.reduceEqDiff, Nat.reduceAdd, Nat.reduceMul, Nat.reduceBEq, Option.getD_none, Int.reduceToNat, Nat.reduceSub, Nat.reduceLT, Nat.reduceLeDiff, Int.reduceLE, Int.reduceLT, reduceCtorEq, List.length_append, j0, j1, g6, gm, g5, gr]; rfl, by simp only [go_sem, ↓reduceIte, Nat.reduceEqDiff, Nat.reduceAdd, Nat.reduceMul, Nat.reduceBEq, Option.getD_none, Int.reduceToNat, Nat.reduceSub, Nat.reduceLT, Nat.reduceLeDiff, Int.reduceLE, Int.reduceLT, reduceCtorEq, j0, j1, g6, gm, g5, gr]; rw [← sn]⟩
  · simp only [go_sem, ↓reduceIte, Nat.reduceEqDiff, Nat.reduceAdd, Nat.reduceMul, Nat.reduceBEq, Option.getD_none, Int.reduceToNat, Nat.reduceSub, Nat.reduceLT, Nat.reduceLeDiff, Int.reduceLE, Int.reduceLT, reduceCtorEq, hlt, take_map_len, j0, j1, g6, gm, g5, gr]
    exact FactsQ.mk (by omega) (hu.mono (by omega))
def RulesQ (m : Nat) (r : D) (outs : List D) : Prop := ∃ (n : Int) (l : List RuleD) (c' : CurD), r = .tup [Ii n, rules l] ∧ outs = [.ptr c'.d] ∧ (0 ≤ n ∧ n ≤ 13) ∧ l.length ≤ 31 ∧ (∀ r ∈ l, r.ifs.length ≤ 14) ∧ CurOk c' m
theorem RulesQ.mk {m : Nat} {n : Int} {l : List RuleD} {c' : CurD} (h1 : 0 ≤ n ∧ n ≤ 13) (h2 : l.length ≤ 31) (h3 : ∀ r ∈ l, r.ifs.length ≤ 14) (h4 : CurOk c' m) : RulesQ m (.tup [Ii n, rules l]) [.ptr c'.d] := ⟨n, l, c', rfl, rfl, h1, h2, h3, h4⟩
theorem rules_ex (c : CurD) {m : Nat} (h : CurOk c (m + 3000)) : ∃ (n : Int) (l : List RuleD) (c' : CurD), (0 ≤ n ∧ n ≤ 13) ∧ l.length ≤ 31 ∧ (∀ r ∈ l, r.ifs.length ≤ 14) ∧ CurOk c' m ∧ FCt prog F_spec_pl1Cur_rules [.io] [.ptr c.d] (.tup [Ii n, rules l]) [.ptr c'.d] := by
  suffices H : ∃ r outs, RulesQ m r outs ∧ FCt prog F_spec_pl1Cur_rules [.io] [.ptr c.d] r outs by
    obtain ⟨_, _, ⟨n, l, c', rfl, rfl, h1, h2, h3, h4⟩, hf⟩ := H
    exact ⟨n, l, c', h1, h2, h3, h4, hf⟩
  refine fct_ex _ spec_pl1Cur_rules.ok rfl rfl ?_
  have f1 := spec_pl1Cur_pick.fc c 7 (m := m + 2998) h
  have o1 : CurOk (pickC c 7) (m + 2998) := pickC_ok h
  have p1 := pickV_in (c := c) (n := 7) (by omega)
  generalize pickV c 7 = n0 at f1 p1
  generalize pickC c 7 = c1 at f1 o1
  have f2 := spec_pl1Cur_one.fc c1 30 (m := m + 2996) o1
  have o2 : CurOk (pickC c1 30) (m + 2996) := pickC_ok o1
  generalize (pickV c1 30 == 0) = b1 at f2
  generalize pickC c1 30 = c2 at f2 o2
  have f3 := spec_pl1Cur_among.fc c2 [0, 12, 13] (by simp) (by simp) (m := m + 2994) o2
  have o3 : CurOk (pickC c2 ([0, 12, 13] : List Int).length) (m + 2994) := pickC_ok o2
  have m3 : amongV c2 [0, 12, 13] = 0 ∨ amongV c2 [0, 12, 13] = 12 ∨ amongV c2 [0, 12, 13] = 13 := by simpa using amongV_mem c2 [0, 12, 13] (by simp)
  generalize amongV c2 [0, 12, 13] = n1 at f3 m3
  generalize pickC c2 ([0, 12, 13] : List Int).length = c3 at f3 o3
  have w1 : IntKind.i64.wrap (1 + n0) = 1 + n0 := wrap_in (by omega) (by omega)
  simp only [go_sem, ↓reduceIte, Nat.reduceEqDiff, Nat.reduceAdd, Nat.reduceMul, Nat.reduceBEq, Option.getD_none, Int.reduceToNat, Nat.reduceSub, Nat.reduceLT, Nat.reduceLeDiff, Int.reduceLE, Int.reduceLT, reduceCtorEq]
  refine coW_c f1 ?_
  simp only [go_sem, ↓reduceIte, Nat.reduceEqDiff, Nat.reduceAdd, Nat.reduceMul, Nat.reduceBEq, Option.getD_none, Int.reduceToNat, Nat.reduceSub, Nat.reduceLT, Nat.reduceLeDiff, Int.reduceLE, Int.reduceLT, reduceCtorEq, w1]
  refine coW_c f2 ?_
  simp only [go_sem, ↓reduceIte, Nat.reduceEqDiff, Nat.reduceAdd, Nat.reduceMul, Nat.reduceBEq, Option.getD_none, Int.reduceToNat, Nat.reduceSub, Nat.reduceLT, Nat.reduceLeDiff, Int.reduceLE, Int.reduceLT, reduceCtorEq]
  refine cdW_cut (fun e s' M' => e = .n ∧ ∃ (n : Nat) (u : CurD), n ≤ 13 ∧ CurOk u (m + 2994) ∧ s' 0 = .ptr 0 0 0 none ∧ s' 4 = aI n ∧ M'.m 0 = some (.box 0 (curA u))) ?_ ?_
  · cases b1
    · simp only [go_sem, ↓reduceIte, Nat.reduceEqDiff, Nat.reduceAdd, Nat.reduceMul, Nat.reduceBEq, Option.getD_none, Int.reduceToNat, Nat.reduceSub, Nat.reduceLT, Nat.reduceLeDiff, Int.reduceLE, Int.reduceLT, reduceCtorEq]
      exact ⟨(1 + n0).toNat, c2, by omega, o2.mono (by omega), by congr 2; omega, rfl⟩
    · simp only [go_sem, ↓reduceIte, Nat.reduceEqDiff, Nat.reduceAdd, Nat.reduceMul, Nat.reduceBEq, Option.getD_none, Int.reduceToNat, Nat.reduceSub, Nat.reduceLT, Nat.reduceLeDiff, Int.reduceLE, Int.reduceLT, reduceCtorEq]
      refine coW_c f3 ?_
      simp only [go_sem, ↓reduceIte, Nat.reduceEqDiff, Nat.reduceAdd, Nat.reduceMul, Nat.reduceBEq, Option.getD_none, Int.reduceToNat, Nat.reduceSub, Nat.reduceLT, Nat.reduceLeDiff, Int.reduceLE, Int.reduceLT, reduceCtorEq]
      exact ⟨n1.toNat, c3, by omega, o3, by congr 2; omega, rfl⟩
  clear f1 f2 f3 o1 o2 o3 p1 m3 w1
  rintro e s' M' ⟨rfl, n, u, hn, hu, g0, g4, gm⟩ -
  have f1 := spec_pl1Cur_pick.fc u 10 (m := m + 2992) hu
  have o1 : CurOk (pickC u 10) (m + 2992) := pickC_ok hu
  have p1 := pickV_in (c := u) (n := 10) (by omega)
  generalize pickV u 10 = n0 at f1 p1
  generalize pickC u 10 = c1 at f1 o1
  have f2 := spec_pl1Cur_one.fc c1 20 (m := m + 2990) o1
  have o2 : CurOk (pickC c1 20) (m + 2990) := pickC_ok o1
  generalize (pickV c1 20 == 0) = b1 at f2
  generalize pickC c1 20 = c2 at f2 o2
  have f3 := spec_pl1Cur_pick.fc c2 2 (m := m + 2988) o2
  have o3 : CurOk (pickC c2 2) (m + 2988) := pickC_ok o2
  have p3 := pickV_in (c := c2) (n := 2) (by omega)
  generalize pickV c2 2 = n1 at f3 p3
  generalize pickC c2 2 = c3 at f3 o3
  have w1 : IntKind.i64.wrap (30 + n1) = 30 + n1 := wrap_in (by omega) (by omega)
  simp only [go_sem, ↓reduceIte, Nat.reduceEqDiff, Nat.reduceAdd, Nat.reduceMul, Nat.reduceBEq, Option.getD_none, Int.reduceToNat, Nat.reduceSub, Nat.reduceLT, Nat.reduceLeDiff, Int.reduceLE, Int.reduceLT, reduceCtorEq, gm, g0, g4]
  refine coW_c f1 ?_
  simp only [go_sem, ↓reduceIte, Nat.reduceEqDiff, Nat.reduceAdd, Nat.reduceMul, Nat.reduceBEq, Option.getD_none, Int.reduceToNat, Nat.reduceSub, Nat.reduceLT, Nat.reduceLeDiff, Int.reduceLE, Int.reduceLT, reduceCtorEq, g0, g4]
  refine coW_c f2 ?_
  simp only [go_sem, ↓reduceIte, Nat.reduceEqDiff, Nat.reduceAdd, Nat.reduceMul, Nat.reduceBEq, Option.getD_none, Int.reduceToNat, Nat.reduceSub, Nat.reduceLT, Nat.reduceLeDiff, Int.reduceLE, Int.reduceLT, reduceCtorEq, g0, g4]
  refine cdW_cut (fun e s' M' => e = .n ∧ ∃ (k : Nat) (u : CurD), k ≤ 31 ∧ CurOk u (m + 2988) ∧ s' 5 = .nil 2 ∧ s' 6 = aI k ∧ M'.m 0 = some (.box 0 (curA u))) ?_ ?_
  · cases b1
    · simp only [go_sem, ↓reduceIte, Nat.reduceEqDiff, Nat.reduceAdd, Nat.reduceMul, Nat.reduceBEq, Option.getD_none, Int.reduceToNat, Nat.reduceSub, Nat.reduceLT, Nat.reduceLeDiff, Int.reduceLE, Int.reduceLT, reduceCtorEq, g0, g4]
      exact ⟨n0.toNat, c2, by omega, o2.mono (by omega), by congr 2; omega, rfl⟩
    · simp only [go_sem, ↓reduceIte, Nat.reduceEqDiff, Nat.reduceAdd, Nat.reduceMul, Nat.reduceBEq, Option.getD_none, Int.reduceToNat, Nat.reduceSub, Nat.reduceLT, Nat.reduceLeDiff, Int.reduceLE, Int.reduceLT, reduceCtorEq, w1, g0, g4]
      refine coW_c f3 ?_
      simp only [go_sem, ↓reduceIte, Nat.reduceEqDiff, Nat.reduceAdd, Nat.reduceMul, Nat.reduceBEq, Option.getD_none, Int.reduceToNat, Nat.reduceSub, Nat.reduceLT, Nat.reduceLeDiff, Int.reduceLE, Int.reduceLT, reduceCtorEq, w1, g0, g4]
      exact ⟨(30 + n1).toNat, c3, by omega, o3, by congr 2; omega, rfl⟩
  clear f1 f2 f3 o1 o2 o3 p1 p3 w1
  rintro e s2 M2 ⟨rfl, N, u, hN, hu, g5, g6, gm⟩ ho
  have j0 : s2 0 = .ptr 0 0 0 none := by rw [ho 0 rfl]; simp only [go_sem, ↓reduceIte, Nat.reduceEqDiff, Nat.reduceAdd, Nat.reduceMul, Nat.reduceBEq, Option.getD_none, Int.reduceToNat, Nat.reduceSub, Nat.reduceLT, Nat.reduceLeDiff, Int.reduceLE, Int.reduceLT, reduceCtorEq, g0, g4]
  have j4 : s2 4 = aI n := by rw [ho 4 rfl]; simp only [go_sem, ↓reduceIte, Nat.reduceEqDiff, Nat.reduceAdd, Nat.reduceMul, Nat.reduceBEq, Option.getD_none, Int.reduceToNat, Nat.reduceSub, Nat.reduceLT, Nat.reduceLeDiff, Int.reduceLE, Int.reduceLT, reduceCtorEq, g0, g4]
  clear ho
  simp only [go_sem, ↓reduceIte, Nat.reduceEqDiff, Nat.reduceAdd, Nat.reduceMul, Nat.reduceBEq, Option.getD_none, Int.reduceToNat, Nat.reduceSub, Nat.reduceLT, Nat.reduceLeDiff, Int.reduceLE, Int.reduceLT, reduceCtorEq, gm, g5, g6, g0, g4, j0, j4]
  refine R_loop (α := Nat × List RuleD × CurD) (fun a s' M' => a.1 ≤ N ∧ a.2.1.length + a.1 = N ∧ (∀ r ∈ a.2.1, r.ifs.length ≤ 14) ∧ CurOk a.2.2 (m + 100 + 60 * a.1) ∧ s' 6 = aI a.1 ∧ M'.m 0 = some (.box 0 (curA a.2.2)) ∧ ∃ v, s' 5 = .sl 2752 v 0 a.2.1.length 2 ∧ M'.m 2752 = some (.arr v true 2 (a.2.1.map RuleD.d))) (fun a => a.1) (N, [], u)
    ⟨Nat.le_refl _, by simp, by simp, hu.mono (by omega), by simp only [go_sem, ↓reduceIte, Nat.reduceEqDiff, Nat.reduceAdd, Nat.reduceMul, Nat.reduceBEq, Option.getD_none, Int.reduceToNat, Nat.reduceSub, Nat.reduceLT, Nat.reduceLeDiff, Int.reduceLE, Int.reduceLT, reduceCtorEq, g6, g0, g4, j0, j4]; try rfl, by simp only [go_sem, ↓reduceIte, Nat.reduceEqDiff, Nat.reduceAdd, Nat.reduceMul, Nat.reduceBEq, Option.getD_none, Int.reduceToNat, Nat.reduceSub, Nat.reduceLT, Nat.reduceLeDiff, Int.reduceLE, Int.reduceLT, reduceCtorEq, gm, g0, g4, j0, j4]; try rfl, _, by simp only [go_sem, ↓reduceIte, Nat.reduceEqDiff, Nat.reduceAdd, Nat.reduceMul, Nat.reduceBEq, Option.getD_none, Int.reduceToNat, Nat.reduceSub, Nat.reduceLT, Nat.reduceLeDiff, Int.reduceLE, Int.reduceLT, reduceCtorEq, g0, g4, j0, j4]; try rfl, by simp only [go_sem, ↓reduceIte, Nat.reduceEqDiff, Nat.reduceAdd, Nat.reduceMul, Nat.reduceBEq, Option.getD_none, Int.reduceToNat, Nat.reduceSub, Nat.reduceLT, Nat.reduceLeDiff, Int.reduceLE, Int.reduceLT, reduceCtorEq, g0, g4, j0, j4]; try rfl⟩ ?_
  clear hu g5 g6 gm
  rintro ⟨j, l, u⟩ s3 M3 ⟨hj, hjl, hl, hu, g6, gm, v, g5, gr⟩ ho
  dsimp only at hj hjl hl hu g6 gm g5 gr
  unfold spec_pl1Cur_rules.b0
  have j0 : s3 0 = .ptr 0 0 0 none := by rw [ho 0 rfl]; simp only [go_sem, ↓reduceIte, Nat.reduceEqDiff, Nat.reduceAdd, Nat.reduceMul, Nat.reduceBEq, Option.getD_none, Int.reduceToNat, Nat.reduceSub, Nat.reduceLT, Nat.reduceLeDiff, Int.reduceLE, Int.reduceLT, reduceCtorEq, g0, g4, j0, j4]
  have j4 : s3 4 = aI n := by rw [ho 4 rfl]; simp only [go_sem, ↓reduceIte, Nat.reduceEqDiff, Nat.reduceAdd, Nat.reduceMul, Nat.reduceBEq, Option.getD_none, Int.reduceToNat, Nat.reduceSub, Nat.reduceLT, Nat.reduceLeDiff, Int.reduceLE, Int.reduceLT, reduceCtorEq, g0, g4, j0, j4]
  clear ho
  cases j with
  | zero =>
    have hz : ¬ ((0 : Nat) : Int) > 0 := by omega
    have out : CurOk u m := hu.mono (by omega)
    by_cases h1 : (l.length : Int) > 0
    · have f1 := spec_pl1Cur_one.fc u 30 (m := m + 50) (hu.mono (by omega))
      have o1 : CurOk (pickC u 30) (m + 50) := pickC_ok (hu.mono (by omega))
      generalize pickC u 30 = u1 at f1 o1
      simp only [go_sem, ↓reduceIte, Nat.reduceEqDiff, Nat.reduceAdd, Nat.reduceMul, Nat.reduceBEq, Option.getD_none, Int.reduceToNat, Nat.reduceSub, Nat.reduceLT, Nat.reduceLeDiff, Int.reduceLE, Int.reduceLT, reduceCtorEq, hz, h1, g0, g4, j0, j4, j0, j4, g6, gm, g5, gr]
      refine coW_c f1 ?_
      cases (pickV u 30 == 0) with
      | false =>
        simp only [go_sem, ↓reduceIte, Nat.reduceEqDiff, Nat.reduceAdd, Nat.reduceMul, Nat.reduceBEq, Option.getD_none, Int.reduceToNat, Nat.reduceSub, Nat.reduceLT, Nat.reduceLeDiff, Int.reduceLE, Int.reduceLT, reduceCtorEq, take_map_len, g0, g4, j0, j4, j0, j4, g6, gm, g5, gr]
        exact RulesQ.mk (by omega) (by omega) hl (o1.mono (by omega))
      | true =>
        have f2 := spec_pl1Cur_pick.fc u1 14 (m := m + 48) o1
        have o2 : CurOk (pickC u1 14) (m + 48) := pickC_ok o1
        generalize pickV u1 14 = x2 at f2
        generalize pickC u1 14 = u2 at f2 o2
        have f3 := spec_pl1Cur_among.fc u2 [-1, 13] (by simp) (by simp) (m := m + 46) o2
        have o3 : CurOk (pickC u2 ([-1, 13] : List Int).length) (m + 46) := pickC_ok o2
        generalize amongV u2 [-1, 13] = x3 at f3
        generalize pickC u2 ([-1, 13] : List Int).length = u3 at f3 o3
        have k0 : (0 : Int) < l.length := by omega
        have e0 : l[0]? = some l[0] := List.getElem?_eq_getElem (by omega)
        have sn : (l.map RuleD.d).set 0 (.agg [.sl 1 [Ii x2], Ii x3]) = (l.set 0 ⟨[x2], x3⟩).map RuleD.d := by rw [List.map_set]; rfl
        have sl : (l.set 0 (⟨[x2], x3⟩ : RuleD)).length = l.length := by simp
        simp only [go_sem, ↓reduceIte, Nat.reduceEqDiff, Nat.reduceAdd, Nat.reduceMul, Nat.reduceBEq, Option.getD_none, Int.reduceToNat, Nat.reduceSub, Nat.reduceLT, Nat.reduceLeDiff, Int.reduceLE, Int.reduceLT, reduceCtorEq, k0, e0, g0, g4, j0, j4, j0, j4, g6, gm, g5, gr]
        refine coW_c f2 ?_
        simp only [go_sem, ↓reduceIte, Nat.reduceEqDiff, Nat.reduceAdd, Nat.reduceMul, Nat.reduceBEq, Option.getD_none, Int.reduceToNat, Nat.reduceSub, Nat.reduceLT, Nat.reduceLeDiff, Int.reduceLE, Int.reduceLT, reduceCtorEq, g0, g4, j0, j4, j0, j4, g6, gm, g5, gr]
        refine coW_c f3 ?_
        have hle : l.length ≤ (l.set 0 (⟨[x2], x3⟩ : RuleD)).length := by rw [sl]; exact Nat.le_refl _
        have tk : ((l.set 0 (⟨[x2], x3⟩ : RuleD)).map RuleD.d).take l.length = (l.set 0 (⟨[x2], x3⟩ : RuleD)).map RuleD.d := List.take_of_length_le (by simp)
        simp only [go_sem, ↓reduceIte, Nat.reduceEqDiff, Nat.reduceAdd, Nat.reduceMul, Nat.reduceBEq, Option.getD_none, Int.reduceToNat, Nat.reduceSub, Nat.reduceLT, Nat.reduceLeDiff, Int.reduceLE, Int.reduceLT, reduceCtorEq, k0, e0, sn, hle, tk, g0, g4, j0, j4, j0, j4, g6, gm, g5, gr]
        refine RulesQ.mk (m := m) (n := n) (c' := u3) (l := l.set 0 ⟨[x2], x3⟩) (by omega) (by rw [sl]; omega) ?_ (o3.mono (by omega))
        intro r hr
        rcases List.mem_or_eq_of_mem_set hr with hr | rfl
        · exact hl r hr
        · simp
    · simp only [go_sem, ↓reduceIte, Nat.reduceEqDiff, Nat.reduceAdd, Nat.reduceMul, Nat.reduceBEq, Option.getD_none, Int.reduceToNat, Nat.reduceSub, Nat.reduceLT, Nat.reduceLeDiff, Int.reduceLE, Int.reduceLT, reduceCtorEq, hz, h1, take_map_len, g0, g4, j0, j4, j0, j4, g6, gm, g5, gr]
      exact RulesQ.mk (by omega) (by omega) hl out
  | succ j =>
    have hz : ((j + 1 : Nat) : Int) > 0 := by omega
    have hw : IntKind.i64.wrap (((j + 1 : Nat) : Int) - 1) = (j : Int) := by rw [wrap_in (by omega) (by omega)]; omega
    have w1 : IntKind.i64.wrap ((n : Int) + 1) = (n : Int) + 1 := wrap_in (by omega) (by omega)
    obtain ⟨fs, u1, fl, o1, f1⟩ := facts_ex u (if (4 : Int) < n then 4 else n) (by split <;> omega) (m := m + 100 + 60 * j + 30) (hu.mono (by omega))
    have f2 := spec_pl1Cur_pick.fc u1 (n + 1) (m := m + 100 + 60 * j + 28) o1
    have o2 : CurOk (pickC u1 (n + 1)) (m + 100 + 60 * j + 28) := pickC_ok o1
    generalize pickV u1 (n + 1) = th at f2
    generalize pickC u1 (n + 1) = u2 at f2 o2
    have f3 := spec_pl1Cur_one.fc u2 4 (m := m + 100 + 60 * j + 26) o2
    have o3 : CurOk (pickC u2 4) (m + 100 + 60 * j + 26) := pickC_ok o2
    generalize (pickV u2 4 == 0) = b3 at f3
    generalize pickC u2 4 = u3 at f3 o3
    have hbb : (l.length + 1) * 32 ≤ 70368744177664 := by omega
    simp only [go_sem, ↓reduceIte, Nat.reduceEqDiff, Nat.reduceAdd, Nat.reduceMul, Nat.reduceBEq, Option.getD_none, Int.reduceToNat, Nat.reduceSub, Nat.reduceLT, Nat.reduceLeDiff, Int.reduceLE, Int.reduceLT, reduceCtorEq, hz, g0, g4, j0, j4, j0, j4, g6, gm, g5, gr]
    refine fcW_int (spec_l1Least.fc n 4) ?_
    simp only [go_sem, ↓reduceIte, Nat.reduceEqDiff, Nat.reduceAdd, Nat.reduceMul, Nat.reduceBEq, Option.getD_none, Int.reduceToNat, Nat.reduceSub, Nat.reduceLT, Nat.reduceLeDiff, Int.reduceLE, Int.reduceLT, reduceCtorEq, g0, g4, j0, j4, j0, j4, g6, gm, g5, gr]
    refine coW_c f1 ?_
    simp only [go_sem, ↓reduceIte, Nat.reduceEqDiff, Nat.reduceAdd, Nat.reduceMul, Nat.reduceBEq, Option.getD_none, Int.reduceToNat, Nat.reduceSub, Nat.reduceLT, Nat.reduceLeDiff, Int.reduceLE, Int.reduceLT, reduceCtorEq, w1, g0, g4, j0, j4, j0, j4, g6, gm, g5, gr]
    refine coW_c f2 ?_
    simp only [go_sem, ↓reduceIte, Nat.reduceEqDiff, Nat.reduceAdd, Nat.reduceMul, Nat.reduceBEq, Option.getD_none, Int.reduceToNat, Nat.reduceSub, Nat.reduceLT, Nat.reduceLeDiff, Int.reduceLE, Int.reduceLT, reduceCtorEq, take_map_len, g0, g4, j0, j4, j0, j4, g6, gm, g5, gr]
    refine coW_c f3 ?_
    cases b3 with
    | false =>
      have sn : l.map RuleD.d ++ [RuleD.d ⟨fs, th⟩] = (l ++ [(⟨fs, th⟩ : RuleD)]).map RuleD.d := by simp
      simp only [go_sem, ↓reduceIte, Nat.reduceEqDiff, Nat.reduceAdd, Nat.reduceMul, Nat.reduceBEq, Option.getD_none, Int.reduceToNat, Nat.reduceSub, Nat.reduceLT, Nat.reduceLeDiff, Int.reduceLE, Int.reduceLT, reduceCtorEq, take_map_len, hw, hbb, g0, g4, j0, j4, j0, j4, g6, gm, g5, gr]
      refine ⟨(j, l ++ [(⟨fs, th⟩ : RuleD)], u3), by dsimp only; omega, by dsimp only; omega, by simp; omega, ?_, o3.mono (by omega), by simp only [go_sem, ↓reduceIte, Nat.reduceEqDiff, Nat.reduceAdd, Nat.reduceMul, Nat.reduceBEq, Option.getD_none, Int.reduceToNat, Nat.reduceSub, Nat.reduceLT, Nat.reduceLeDiff, Int.reduceLE, Int.reduceLT, reduceCtorEq, g0, g4, j0, j4, j0, j4, g6, gm, g5, gr], by simp only [go_sem, ↓reduceIte, Nat.reduceEqDiff, Nat.reduceAdd, Nat.reduceMul, Nat.reduceBEq, Option.getD_none, Int.reduceToNat, Nat.reduceSub, Nat.reduceLT, Nat.reduceLeDiff, Int.reduceLE, Int.reduceLT, reduceCtorEq, g0, g4, j0, j4, j0, j4, g6, gm, g5, gr], _, by simp only [go_sem, ↓reduceIte, Nat.reduceEqDiff, Nat.reduceAdd, Nat.reduceMul, Nat.reduceBEq, Option.getD_none, Int.reduceToNat, Nat.reduceSub, Nat.reduceLT, Nat.reduceLeDiff, Int.reduceLE, Int.reduceLT, reduceCtorEq, List.length_append, g0, g4, j0, j4, j0, j4, g6, gm, g5, gr]; rfl, by simp only [go_sem, ↓reduceIte, Nat.reduceEqDiff, Nat.reduceAdd, Nat.reduceMul, Nat.reduceBEq, Option.getD_none, Int.reduceToNat, Nat.reduceSub, Nat.reduceLT, Nat.reduceLeDiff, Int.reduceLE, Int.reduceLT, reduceCtorEq, g0, g4, j0, j4, j0, j4, g6, gm, g5, gr]; rw [← sn]⟩
      intro r hr
      rcases List.mem_append.1 hr with hr | hr
      · exact hl r hr
      · obtain rfl : r = ⟨fs, th⟩ := by simpa using hr
        exact fl
    | true =>
      have sn : l.map RuleD.d ++ [RuleD.d ⟨[], th⟩] = (l ++ [(⟨[], th⟩ : RuleD)]).map RuleD.d := by simp
      simp only [go_sem, ↓reduceIte, Nat.reduceEqDiff, Nat.reduceAdd, Nat.reduceMul, Nat.reduceBEq, Option.getD_none, Int.reduceToNat, Nat.reduceSub, Nat.reduceLT, Nat.reduceLeDiff, Int.reduceLE, Int.reduceLT, reduceCtorEq, take_map_len, hw, hbb, g0, g4, j0, j4, j0, j4, g6, gm, g5, gr]
      refine ⟨(j, l ++ [(⟨[], th⟩ : RuleD)], u3), by dsimp only; omega, by dsimp only; omega, by simp; omega, ?_, o3.mono (by omega), by simp only [go_sem, ↓reduceIte, Nat.reduceEqDiff, Nat.reduceAdd, Nat.reduceMul, Nat.reduceBEq, Option.getD_none, Int.reduceToNat, Nat.reduceSub, Nat.reduceLT, Nat.reduceLeDiff, Int.reduceLE, Int.reduceLT, reduceCtorEq, g0, g4, j0, j4, j0, j4, g6, gm, g5, gr], by simp only [go_sem, ↓reduceIte, Nat.reduceEqDiff, Nat.reduceAdd, Nat.reduceMul, Nat.reduceBEq, Option.getD_none, Int.reduceToNat, Nat.reduceSub, Nat.reduceLT, Nat.reduceLeDiff, Int.reduceLE, Int.reduceLT, reduceCtorEq, g0, g4, j0, j4, j0, j4, g6, gm, g5, gr], _, by simp only [go_sem, ↓reduceIte, Nat.reduceEqDiff, Nat.reduceAdd, Nat.reduceMul, Nat.reduceBEq, Option.getD_none, Int.reduceToNat, Nat.reduceSub, Nat.reduceLT, Nat.reduceLeDiff, Int.reduceLE, Int.reduceLT, reduceCtorEq, List.length_append, g0, g4, j0, j4, j0, j4, g6, gm, g5, gr]; rfl, by simp only [go_sem, ↓reduceIte, Nat.reduceEqDiff, Nat.reduceAdd, Nat.reduceMul, Nat.reduceBEq, Option.getD_none, Int.reduceToNat, Nat.reduceSub, Nat.reduceLT, Nat.reduceLeDiff, Int.reduceLE, Int.reduceLT, reduceCtorEq, g0, g4, j0, j4, j0, j4, g6, gm, g5, gr]; rw [← sn]; rfl⟩
      intro r hr
      rcases List.mem_append.1 hr with hr | hr
      · exact hl r hr
      · obtain rfl : r = ⟨[], th⟩ := by simpa using hr
        simp
theorem gr_ex (code : List Int) (hl : code.length ≤ 9223372036854775807) (h8 : ∀ b ∈ code, 0 ≤ b ∧ b ≤ 255) :
    ∃ (n : Int) (l : List RuleD), (0 ≤ n ∧ n ≤ 13) ∧ l.length ≤ 31 ∧ (∀ r ∈ l, r.ifs.length ≤ 14) ∧ FCt prog F_spec_DrawGoodRules [.ro] [.sl 1 (code.map Ub)] (.tup [Ii n, rules l]) [] := by
  obtain ⟨n, l, c1, hn, hl2, hr, o1, f1⟩ := rules_ex (curS code) (m := 20) (curS_ok hl h8 (by omega))
  refine ⟨n, l, hn, hl2, hr, ?_⟩
  refine fct_run spec_DrawGoodRules.ok rfl ?_
  simp only [go_sem, ↓reduceIte, Nat.reduceEqDiff, Nat.reduceAdd, Nat.reduceMul, Nat.reduceBEq, Option.getD_none, Int.reduceToNat, Nat.reduceSub, Nat.reduceLT, Nat.reduceLeDiff, Int.reduceLE, Int.reduceLT, reduceCtorEq]
  refine coW_c f1 ?_
  simp only [go_sem, ↓reduceIte, Nat.reduceEqDiff, Nat.reduceAdd, Nat.reduceMul, Nat.reduceBEq, Option.getD_none, Int.reduceToNat, Nat.reduceSub, Nat.reduceLT, Nat.reduceLeDiff, Int.reduceLE, Int.reduceLT, reduceCtorEq, take_map_len]
theorem lf_ex (code : List Int) (hl : code.length ≤ 9223372036854775807) (h8 : ∀ b ∈ code, 0 ≤ b ∧ b ≤ 255) :
    ∃ (n : Int) (l : List RuleD), (0 ≤ n ∧ n ≤ 13) ∧ l.length ≤ 31 ∧ (∀ r ∈ l, r.ifs.length ≤ 14) ∧ FCt prog F_spec_DrawLeastOf [.ro] [.sl 1 (code.map Ub)] (.tup [Ii n, rules l]) [] := by
  obtain ⟨n, l, hn, hl2, hr, f1⟩ := gr_ex code hl h8
  refine ⟨n, l, hn, hl2, hr, ?_⟩
  refine fct_run spec_DrawLeastOf.ok rfl ?_
  simp only [go_sem, ↓reduceIte, Nat.reduceEqDiff, Nat.reduceAdd, Nat.reduceMul, Nat.reduceBEq, Option.getD_none, Int.reduceToNat, Nat.reduceSub, Nat.reduceLT, Nat.reduceLeDiff, Int.reduceLE, Int.reduceLT, reduceCtorEq]
  refine fcW_bd f1 (noRs_t2 rfl noRs_rules) ?_
  simp only [go_sem, ↓reduceIte, Nat.reduceEqDiff, Nat.reduceAdd, Nat.reduceMul, Nat.reduceBEq, Option.getD_none, Int.reduceToNat, Nat.reduceSub, Nat.reduceLT, Nat.reduceLeDiff, Int.reduceLE, Int.reduceLT, reduceCtorEq, take_map_len]
theorem hi_ex (code : List Int) (hl : code.length ≤ 9223372036854775807) (h8 : ∀ b ∈ code, 0 ≤ b ∧ b ≤ 255) :
    ∃ (n : Int) (l : List RuleD) (so : List Int), (0 ≤ n ∧ n ≤ 13) ∧ l.length ≤ 31 ∧ (∀ r ∈ l, r.ifs.length ≤ 14) ∧ so.length ≤ 14 ∧ FCt prog F_spec_DrawHoldsIn [.ro] [.sl 1 (code.map Ub)] (.tup [Ii n, rules l, ints so]) [] := by
  obtain ⟨n, l, c1, hn, hl2, hr, o1, f1⟩ := rules_ex (curS code) (m := 200) (curS_ok hl h8 (by omega))
  have f2 := spec_pl1Cur_pick.fc c1 20 (m := 198) o1
  have o2 : CurOk (pickC c1 20) 198 := pickC_ok o1
  have p2 := pickV_in (c := c1) (n := 20) (by omega)
  generalize pickV c1 20 = x2 at f2 p2
  generalize pickC c1 20 = c2 at f2 o2
  have q2 : 0 ≤ Int.tdiv x2 19 ∧ Int.tdiv x2 19 ≤ 1 := by
    rw [Int.tdiv_eq_ediv_of_nonneg (by omega)]; omega
  have w1 : IntKind.i64.wrap (n + IntKind.i64.wrap (Int.tdiv x2 19)) = n + Int.tdiv x2 19 := by
    rw [wrap_in (x := Int.tdiv x2 19) (by omega) (by omega), wrap_in (by omega) (by omega)]
  obtain ⟨so, c3, sl, o3, f3⟩ := facts_ex c2 (n + Int.tdiv x2 19) (by omega) (m := 20) (o2.mono (by omega))
  have n19 : ¬ (19 : Int) = 0 := by decide
  refine ⟨n, l, so, hn, hl2, hr, sl, ?_⟩
  refine fct_run spec_DrawHoldsIn.ok rfl ?_
  simp only [go_sem, ↓reduceIte, Nat.reduceEqDiff, Nat.reduceAdd, Nat.reduceMul, Nat.reduceBEq, Option.getD_none, Int.reduceToNat, Nat.reduceSub, Nat.reduceLT, Nat.reduceLeDiff, Int.reduceLE, Int.reduceLT, reduceCtorEq]
  refine coW_c f1 ?_
  simp only [go_sem, ↓reduceIte, Nat.reduceEqDiff, Nat.reduceAdd, Nat.reduceMul, Nat.reduceBEq, Option.getD_none, Int.reduceToNat, Nat.reduceSub, Nat.reduceLT, Nat.reduceLeDiff, Int.reduceLE, Int.reduceLT, reduceCtorEq, take_map_len]
  refine coW_c f2 ?_
  simp only [go_sem, ↓reduceIte, Nat.reduceEqDiff, Nat.reduceAdd, Nat.reduceMul, Nat.reduceBEq, Option.getD_none, Int.reduceToNat, Nat.reduceSub, Nat.reduceLT, Nat.reduceLeDiff, Int.reduceLE, Int.reduceLT, reduceCtorEq, n19, w1]
  refine coW_c f3 ?_
  simp only [go_sem, ↓reduceIte, Nat.reduceEqDiff, Nat.reduceAdd, Nat.reduceMul, Nat.reduceBEq, Option.getD_none, Int.reduceToNat, Nat.reduceSub, Nat.reduceLT, Nat.reduceLeDiff, Int.reduceLE, Int.reduceLT, reduceCtorEq, take_map_len]
end Go.Vm.Ytdebllkmblakkaa
/- Walks: what the laws call the same. -/
namespace Go.Vm.Ytdebllkmblakkaa
open Go Go.Vm
set_option maxRecDepth 10000
set_option maxHeartbeats 16000000
set_option linter.unusedSimpArgs false
set_option linter.unusedVariables false

theorem same_end {α : Type} {a b : List α} {k : Nat} (hl : a.length = b.length) (hk : a.length ≤ k) (h : ∀ i, i < k → a[i]? = b[i]?) : a = b := by
  apply List.ext_getElem?
  intro i
  by_cases hi : i < k
  · exact h i hi
  · rw [List.getElem?_eq_none (by omega), List.getElem?_eq_none (by omega)]
theorem same_not {α : Type} {a b : List α} {i : Nat} (h1 : i < a.length) (h2 : i < b.length) (h : a[i] ≠ b[i]) : a ≠ b := fun e => by subst e; exact h rfl
theorem laws_sameInts.fc (a b : List Int) (ha : a.length ≤ 4294967296) (hb : b.length ≤ 4294967296) : FCt prog F_laws_sameInts [.ro, .ro] [ints a, ints b] (Bb (decide (a = b))) [] := by
  refine fct_run laws_sameInts.ok rfl ?_
  by_cases hl : a.length = b.length
  · have e1 : ((a.length : Int) != b.length) = false := by rw [hl]; simp
    simp only [go_sem, ↓reduceIte, Nat.reduceEqDiff, Nat.reduceAdd, Nat.reduceMul, Nat.reduceBEq, Option.getD_none, Int.reduceToNat, Nat.reduceSub, Nat.reduceLT, Nat.reduceLeDiff, Int.reduceLE, Int.reduceLT, reduceCtorEq, e1]
    refine R_loop (α := Nat) (fun k s' M' => k ≤ a.length ∧ s' 13 = aI k ∧ ∀ i, i < k → a[i]? = b[i]?) (fun k => a.length - k) 0 ⟨Nat.zero_le _, by simp only [go_sem, ↓reduceIte, Nat.reduceEqDiff, Nat.reduceAdd, Nat.reduceMul, Nat.reduceBEq, Option.getD_none, Int.reduceToNat, Nat.reduceSub, Nat.reduceLT, Nat.reduceLeDiff, Int.reduceLE, Int.reduceLT, reduceCtorEq]; try rfl, fun i hi => absurd hi (Nat.not_lt_zero i)⟩ ?_
    rintro k s' M' ⟨hk, h13, hr⟩ ho
    unfold laws_sameInts.b0
    have j0 : s' 0 = .dat none (ints a) := by rw [ho 0 rfl]; simp only [go_sem, ↓reduceIte, Nat.reduceEqDiff, Nat.reduceAdd, Nat.reduceMul, Nat.reduceBEq, Option.getD_none, Int.reduceToNat, Nat.reduceSub, Nat.reduceLT, Nat.reduceLeDiff, Int.reduceLE, Int.reduceLT, reduceCtorEq]
    have j1 : s' 1 = .dat none (ints b) := by rw [ho 1 rfl]; simp only [go_sem, ↓reduceIte, Nat.reduceEqDiff, Nat.reduceAdd, Nat.reduceMul, Nat.reduceBEq, Option.getD_none, Int.reduceToNat, Nat.reduceSub, Nat.reduceLT, Nat.reduceLeDiff, Int.reduceLE, Int.reduceLT, reduceCtorEq]
    have j12 : s' 12 = aI a.length := by rw [ho 12 rfl]; simp only [go_sem, ↓reduceIte, Nat.reduceEqDiff, Nat.reduceAdd, Nat.reduceMul, Nat.reduceBEq, Option.getD_none, Int.reduceToNat, Nat.reduceSub, Nat.reduceLT, Nat.reduceLeDiff, Int.reduceLE, Int.reduceLT, reduceCtorEq]
    clear ho
    by_cases hlt : k < a.length
    · have hi' : (k : Int) < a.length := by omega
      have ga : a[k]? = some a[k] := List.getElem?_eq_getElem hlt
      have hw : IntKind.i64.wrap (k + 1) = ((k + 1 : Nat) : Int) := wrap_k hlt (by omega)
      have gb : b[k]? = some b[k] := List.getElem?_eq_getElem (by omega)
      have hb' : (k : Int) < b.length := by omega
      by_cases hx : a[k] = b[k]
      · have hx' : (a[k] != b[k]) = false := by simp [hx]
        simp only [go_sem, ↓reduceIte, Nat.reduceEqDiff, Nat.reduceAdd, Nat.reduceMul, Nat.reduceBEq, Option.getD_none, Int.reduceToNat, Nat.reduceSub, Nat.reduceLT, Nat.reduceLeDiff, Int.reduceLE, Int.reduceLT, reduceCtorEq, hi', hb', ga, gb, hx', hw, j0, j1, j12, h13]
        refine ⟨k + 1, by dsimp only; omega, by omega, by simp only [go_sem, ↓reduceIte, Nat.reduceEqDiff, Nat.reduceAdd, Nat.reduceMul, Nat.reduceBEq, Option.getD_none, Int.reduceToNat, Nat.reduceSub, Nat.reduceLT, Nat.reduceLeDiff, Int.reduceLE, Int.reduceLT, reduceCtorEq, j0, j1, j12, h13], fun i hi => ?_⟩
        by_cases c : i < k
        · exact hr i c
        · obtain rfl : i = k := by omega
          rw [ga, gb, hx]
      · have hne := same_not hlt (by omega) hx
        have hd : decide (a = b) = false := by simp [hne]
        have hx' : (a[k] != b[k]) = true := by simp [hx]
        generalize a[k] = x at *
        simp only [go_sem, ↓reduceIte, Nat.reduceEqDiff, Nat.reduceAdd, Nat.reduceMul, Nat.reduceBEq, Option.getD_none, Int.reduceToNat, Nat.reduceSub, Nat.reduceLT, Nat.reduceLeDiff, Int.reduceLE, Int.reduceLT, reduceCtorEq, hi', hb', ga, gb, hx', hd, j0, j1, j12, h13]; try rfl
    · have hi' : ¬ (k : Int) < a.length := by omega
      obtain rfl : k = a.length := by omega
      have e := same_end hl hk hr
      have hd : decide (a = b) = true := by simp [e]
      simp only [go_sem, ↓reduceIte, Nat.reduceEqDiff, Nat.reduceAdd, Nat.reduceMul, Nat.reduceBEq, Option.getD_none, Int.reduceToNat, Nat.reduceSub, Nat.reduceLT, Nat.reduceLeDiff, Int.reduceLE, Int.reduceLT, reduceCtorEq, Int.lt_irrefl, hd, j0, j1, j12, h13]; try rfl
  · have e1 : ((a.length : Int) != b.length) = true := by simp; omega
    have hd : decide (a = b) = false := by simp; intro e; exact hl (by rw [e])
    simp only [go_sem, ↓reduceIte, Nat.reduceEqDiff, Nat.reduceAdd, Nat.reduceMul, Nat.reduceBEq, Option.getD_none, Int.reduceToNat, Nat.reduceSub, Nat.reduceLT, Nat.reduceLeDiff, Int.reduceLE, Int.reduceLT, reduceCtorEq, e1, hd]; try rfl
end Go.Vm.Ytdebllkmblakkaa
/- Rows of bytes as the laws are handed them. -/
namespace Go.Vm.Ytdebllkmblakkaa
open Go Go.Vm

theorem hasByte {d : D} (h : HasTy (.int .u8) d) : ∃ n : Int, d = .int .u8 n ∧ (0 ≤ n ∧ n ≤ 255) := by
  simp only [HasTy] at h
  obtain ⟨n, rfl, h⟩ := h
  refine ⟨n, rfl, ?_⟩
  simp [Lit.wf, IntKind.has, IntKind.min, IntKind.max, IntKind.signed, IntKind.bits] at h
  exact ⟨by omega, by omega⟩
theorem hasBytes {d : D} (h : HasTy (.sl (.int .u8)) d) : ∃ l : List Int, d = .sl 1 (l.map (fun n => (.int .u8 n : D))) ∧ l.length ≤ 9223372036854775807 ∧ ∀ b ∈ l, 0 ≤ b ∧ b ≤ 255 :=
  hasSl (f := fun n => (.int .u8 n : D)) (p := fun b => 0 ≤ b ∧ b ≤ 255) (fun _ h => hasByte h) h
end Go.Vm.Ytdebllkmblakkaa
