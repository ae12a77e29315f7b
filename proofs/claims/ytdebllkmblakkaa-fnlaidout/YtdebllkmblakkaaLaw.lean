/- The law FnLaidOut returns true at all arguments; its row. -/
import Derived.Test.YtdebllkmblakkaaWka
import Derived.Test.YtdebllkmblakkaaRows
namespace Go.Vm.Ytdebllkmblakkaa
open Go Go.Vm
set_option maxRecDepth 10000
set_option maxHeartbeats 4000000
set_option linter.unusedSimpArgs false
set_option linter.unusedVariables false

theorem laws_FnLaidOut.fc (code more : List Int) (wc : code.length ≤ 9223372036854775807) (wm : more.length ≤ 9223372036854775807) (bc : ∀ b ∈ code, 0 ≤ b ∧ b ≤ 255) (bm : ∀ b ∈ more, 0 ≤ b ∧ b ≤ 255) :
    FCt prog F_laws_FnLaidOut [.ro, .ro] [.sl 1 (code.map Ub), .sl 1 (more.map Ub)] (Bb true) [] := by
  obtain ⟨n, l, w, hn, hl, hw, d1⟩ := iw_ex code wc bc
  obtain ⟨m, e, g, hm, he, hg, d2⟩ := lo_ex more wm bm
  obtain ⟨is, ok, one, d, A, hI, hL, hd, hO⟩ := lo_is n l w
  have c1 := impl_IsWalk.fc n l w (by omega) (by omega)
  have c2 := spec_IsWalk.fc n l w (by omega) (by omega)
  have c3 := impl_LaidWalk.fc n w (by omega)
  have c4 := spec_LaidWalk.fc n w (by omega)
  rw [hI] at c1 c2
  rw [hL] at c3 c4
  have s1 := laws_sameInts.fc d d (by omega) (by omega)
  rw [show decide (d = d) = true by simp] at s1
  obtain ⟨X, b, hX, hXl⟩ := layI_is m e g he
  have q1 := impl_LayOut.fc m e g (by omega)
  have q2 := spec_LayOut.fc m e g (by omega)
  rw [hX] at q1 q2
  obtain ⟨Y, hY, hYl⟩ := backI_is m e he
  have r1 := impl_BackArcs.fc m e (by omega)
  have r2 := spec_BackArcs.fc m e (by omega)
  have r3 := impl_GoodArcs.fc m e (by omega)
  rw [hY] at r1 r2
  have s2 := laws_sameArcs.fc X X rfl (by omega)
  have s3 := laws_sameInts.fc Y Y (by omega) (by omega)
  rw [show decide (Y = Y) = true by simp] at s3
  generalize goodA m e = gd at r1 r2 r3
  have x1 : (ok != ok) = false := by simp
  have x2 : (is != is) = false := by simp
  have x3 : (one != one) = false := by simp
  have x4 : (b == b) = true := by simp
  have x5 : (gd == gd) = true := by simp
  have x6 : (true != false) = true := rfl
  refine fct_run laws_FnLaidOut.ok rfl ?_
  simp only [go_sem, ↓reduceIte, Nat.reduceEqDiff, Nat.reduceAdd, Nat.reduceMul, Nat.reduceBEq, Option.getD_none, Int.reduceToNat, Nat.reduceSub, Nat.reduceLT, Nat.reduceLeDiff, Int.reduceLE, Int.reduceLT, reduceCtorEq]
  refine cdW_any (fun hlen => ?_) (fun hlen => ?_)
  · simp only [go_sem, ↓reduceIte, Nat.reduceEqDiff, Nat.reduceAdd, Nat.reduceMul, Nat.reduceBEq, Option.getD_none, Int.reduceToNat, Nat.reduceSub, Nat.reduceLT, Nat.reduceLeDiff, Int.reduceLE, Int.reduceLT, reduceCtorEq]; try rfl
  simp only [go_sem, ↓reduceIte, Nat.reduceEqDiff, Nat.reduceAdd, Nat.reduceMul, Nat.reduceBEq, Option.getD_none, Int.reduceToNat, Nat.reduceSub, Nat.reduceLT, Nat.reduceLeDiff, Int.reduceLE, Int.reduceLT, reduceCtorEq, take_map_len]
  refine fcW_bdc d1 ?_
  simp only [go_sem, ↓reduceIte, Nat.reduceEqDiff, Nat.reduceAdd, Nat.reduceMul, Nat.reduceBEq, Option.getD_none, Int.reduceToNat, Nat.reduceSub, Nat.reduceLT, Nat.reduceLeDiff, Int.reduceLE, Int.reduceLT, reduceCtorEq, take_map_len]
  refine fcW_bd c1 rfl ?_
  simp only [go_sem, ↓reduceIte, Nat.reduceEqDiff, Nat.reduceAdd, Nat.reduceMul, Nat.reduceBEq, Option.getD_none, Int.reduceToNat, Nat.reduceSub, Nat.reduceLT, Nat.reduceLeDiff, Int.reduceLE, Int.reduceLT, reduceCtorEq, take_map_len]
  refine fcW_bd c2 rfl ?_
  simp only [go_sem, ↓reduceIte, Nat.reduceEqDiff, Nat.reduceAdd, Nat.reduceMul, Nat.reduceBEq, Option.getD_none, Int.reduceToNat, Nat.reduceSub, Nat.reduceLT, Nat.reduceLeDiff, Int.reduceLE, Int.reduceLT, reduceCtorEq, take_map_len]
  refine fcW_bd c3 (noRs_t2 noRs_ints rfl) ?_
  simp only [go_sem, ↓reduceIte, Nat.reduceEqDiff, Nat.reduceAdd, Nat.reduceMul, Nat.reduceBEq, Option.getD_none, Int.reduceToNat, Nat.reduceSub, Nat.reduceLT, Nat.reduceLeDiff, Int.reduceLE, Int.reduceLT, reduceCtorEq, take_map_len]
  refine fcW_bd c4 (noRs_t2 noRs_ints rfl) ?_
  simp only [go_sem, ↓reduceIte, Nat.reduceEqDiff, Nat.reduceAdd, Nat.reduceMul, Nat.reduceBEq, Option.getD_none, Int.reduceToNat, Nat.reduceSub, Nat.reduceLT, Nat.reduceLeDiff, Int.reduceLE, Int.reduceLT, reduceCtorEq, take_map_len, x1, x2, x3]
  refine fcW_bool s1 ?_
  simp only [go_sem, ↓reduceIte, Nat.reduceEqDiff, Nat.reduceAdd, Nat.reduceMul, Nat.reduceBEq, Option.getD_none, Int.reduceToNat, Nat.reduceSub, Nat.reduceLT, Nat.reduceLeDiff, Int.reduceLE, Int.reduceLT, reduceCtorEq, take_map_len]
  refine cdW_cut (fun e _ _ => e = .n) ?_ ?_
  · cases ok
    · simp only [go_sem, ↓reduceIte, Nat.reduceEqDiff, Nat.reduceAdd, Nat.reduceMul, Nat.reduceBEq, Option.getD_none, Int.reduceToNat, Nat.reduceSub, Nat.reduceLT, Nat.reduceLeDiff, Int.reduceLE, Int.reduceLT, reduceCtorEq]
    · obtain ⟨rfl, hn, hl2, hw1, hd1, ha1, hlay, rfl, hhas, harc⟩ := hO rfl
      have c5 := impl_LayOut.fc n l w.length (by omega)
      rw [hlay] at c5
      simp only [go_sem, ↓reduceIte, Nat.reduceEqDiff, Nat.reduceAdd, Nat.reduceMul, Nat.reduceBEq, Option.getD_none, Int.reduceToNat, Nat.reduceSub, Nat.reduceLT, Nat.reduceLeDiff, Int.reduceLE, Int.reduceLT, reduceCtorEq, take_map_len]
      refine fcW_bd c5 (noRs_t2 noRs_arcs rfl) ?_
      simp only [go_sem, ↓reduceIte, Nat.reduceEqDiff, Nat.reduceAdd, Nat.reduceMul, Nat.reduceBEq, Option.getD_none, Int.reduceToNat, Nat.reduceSub, Nat.reduceLT, Nat.reduceLeDiff, Int.reduceLE, Int.reduceLT, reduceCtorEq, take_map_len]
      refine R_cut (fun e s' M' => e = .ex 0 ∧ s' 18 = aB (walkK l w (w.length - 1)) ∧ ∃ v, s' 16 = .sl 4928 v 0 A.length 2 ∧ M'.m 4928 = some (.arr v true 2 (A.map arcD))) ?_ ?_
      · refine R_loop (α := Nat) (fun k s' M' => k + 1 ≤ w.length ∧ s' 19 = aI ((k + 1 : Nat) : Int) ∧ s' 18 = aB (walkK l w k) ∧ (∃ v, s' 12 = .sl 2432 v 0 d.length 1 ∧ M'.m 2432 = some (.arr v true 1 (d.map Ii))) ∧ ∃ v, s' 16 = .sl 4928 v 0 A.length 2 ∧ M'.m 4928 = some (.arr v true 2 (A.map arcD))) (fun k => w.length - k) 0
          ⟨by omega, by simp only [go_sem, ↓reduceIte, Nat.reduceEqDiff, Nat.reduceAdd, Nat.reduceMul, Nat.reduceBEq, Option.getD_none, Int.reduceToNat, Nat.reduceSub, Nat.reduceLT, Nat.reduceLeDiff, Int.reduceLE, Int.reduceLT, reduceCtorEq]; rfl, by simp only [go_sem, ↓reduceIte, Nat.reduceEqDiff, Nat.reduceAdd, Nat.reduceMul, Nat.reduceBEq, Option.getD_none, Int.reduceToNat, Nat.reduceSub, Nat.reduceLT, Nat.reduceLeDiff, Int.reduceLE, Int.reduceLT, reduceCtorEq]; rfl, ⟨_, by simp only [go_sem, ↓reduceIte, Nat.reduceEqDiff, Nat.reduceAdd, Nat.reduceMul, Nat.reduceBEq, Option.getD_none, Int.reduceToNat, Nat.reduceSub, Nat.reduceLT, Nat.reduceLeDiff, Int.reduceLE, Int.reduceLT, reduceCtorEq]; rfl, by simp only [go_sem, ↓reduceIte, Nat.reduceEqDiff, Nat.reduceAdd, Nat.reduceMul, Nat.reduceBEq, Option.getD_none, Int.reduceToNat, Nat.reduceSub, Nat.reduceLT, Nat.reduceLeDiff, Int.reduceLE, Int.reduceLT, reduceCtorEq]; try rfl⟩, _, by simp only [go_sem, ↓reduceIte, Nat.reduceEqDiff, Nat.reduceAdd, Nat.reduceMul, Nat.reduceBEq, Option.getD_none, Int.reduceToNat, Nat.reduceSub, Nat.reduceLT, Nat.reduceLeDiff, Int.reduceLE, Int.reduceLT, reduceCtorEq]; rfl, by simp only [go_sem, ↓reduceIte, Nat.reduceEqDiff, Nat.reduceAdd, Nat.reduceMul, Nat.reduceBEq, Option.getD_none, Int.reduceToNat, Nat.reduceSub, Nat.reduceLT, Nat.reduceLeDiff, Int.reduceLE, Int.reduceLT, reduceCtorEq]; try rfl⟩ ?_
        rintro k s' M' ⟨hk, g19, g18, ⟨v, g12, gm⟩, u, g16, gq⟩ ho
        clear ho
        unfold laws_FnLaidOut.b0
        by_cases hlt : k + 1 < w.length
        · have hi' : ((k + 1 : Nat) : Int) < d.length := by omega
          have hi0 : (k : Int) < d.length := by omega
          have e1 : IntKind.i64.wrap (((k + 1 : Nat) : Int) - 1) = (k : Int) := by rw [wrap_in (by omega) (by omega)]; omega
          have hw3 : IntKind.i64.wrap (((k + 1 : Nat) : Int) + 1) = ((k + 1 + 1 : Nat) : Int) := by rw [wrap_in (by omega) (by omega)]; omega
          have ga : d[k]? = some (d.getD k 0) := getD_sm (by omega)
          have gb : d[k + 1]? = some (d.getD (k + 1) 0) := getD_sm (by omega)
          have st := walkK_succ (l := l) (w := w) (k := k)
          rw [← hhas k hlt] at st
          have c6 := laws_hasArc.fc A (d.getD k 0) (d.getD (k + 1) 0) (by omega)
          cases hh : walkK l w k with
          | false =>
            rw [hh, Bool.false_and] at st
            rw [hh] at g18
            simp only [go_sem, ↓reduceIte, Nat.reduceEqDiff, Nat.reduceAdd, Nat.reduceMul, Nat.reduceBEq, Option.getD_none, Int.reduceToNat, Nat.reduceSub, Nat.reduceLT, Nat.reduceLeDiff, Int.reduceLE, Int.reduceLT, reduceCtorEq, hi', hw3, g19, g18, g12, gm, g16, gq, take_map_len]
            exact ⟨k + 1, by dsimp only; omega, by omega, by simp only [go_sem, ↓reduceIte, Nat.reduceEqDiff, Nat.reduceAdd, Nat.reduceMul, Nat.reduceBEq, Option.getD_none, Int.reduceToNat, Nat.reduceSub, Nat.reduceLT, Nat.reduceLeDiff, Int.reduceLE, Int.reduceLT, reduceCtorEq, g19, g18, g12, gm, g16, gq, take_map_len], by simp only [go_sem, ↓reduceIte, Nat.reduceEqDiff, Nat.reduceAdd, Nat.reduceMul, Nat.reduceBEq, Option.getD_none, Int.reduceToNat, Nat.reduceSub, Nat.reduceLT, Nat.reduceLeDiff, Int.reduceLE, Int.reduceLT, reduceCtorEq, st, g19, g18, g12, gm, g16, gq, take_map_len], ⟨v, by simp only [go_sem, ↓reduceIte, Nat.reduceEqDiff, Nat.reduceAdd, Nat.reduceMul, Nat.reduceBEq, Option.getD_none, Int.reduceToNat, Nat.reduceSub, Nat.reduceLT, Nat.reduceLeDiff, Int.reduceLE, Int.reduceLT, reduceCtorEq, g19, g18, g12, gm, g16, gq, take_map_len], by simp only [go_sem, ↓reduceIte, Nat.reduceEqDiff, Nat.reduceAdd, Nat.reduceMul, Nat.reduceBEq, Option.getD_none, Int.reduceToNat, Nat.reduceSub, Nat.reduceLT, Nat.reduceLeDiff, Int.reduceLE, Int.reduceLT, reduceCtorEq, g19, g18, g12, gm, g16, gq, take_map_len]⟩, u, by simp only [go_sem, ↓reduceIte, Nat.reduceEqDiff, Nat.reduceAdd, Nat.reduceMul, Nat.reduceBEq, Option.getD_none, Int.reduceToNat, Nat.reduceSub, Nat.reduceLT, Nat.reduceLeDiff, Int.reduceLE, Int.reduceLT, reduceCtorEq, g19, g18, g12, gm, g16, gq, take_map_len], by simp only [go_sem, ↓reduceIte, Nat.reduceEqDiff, Nat.reduceAdd, Nat.reduceMul, Nat.reduceBEq, Option.getD_none, Int.reduceToNat, Nat.reduceSub, Nat.reduceLT, Nat.reduceLeDiff, Int.reduceLE, Int.reduceLT, reduceCtorEq, g19, g18, g12, gm, g16, gq, take_map_len]⟩
          | true =>
            rw [hh, Bool.true_and] at st
            rw [hh] at g18
            simp only [go_sem, ↓reduceIte, Nat.reduceEqDiff, Nat.reduceAdd, Nat.reduceMul, Nat.reduceBEq, Option.getD_none, Int.reduceToNat, Nat.reduceSub, Nat.reduceLT, Nat.reduceLeDiff, Int.reduceLE, Int.reduceLT, reduceCtorEq, hi', e1, hi0, ga, gb, g19, g18, g12, gm, g16, gq, take_map_len]
            refine fcW_bool c6 ?_
            simp only [go_sem, ↓reduceIte, Nat.reduceEqDiff, Nat.reduceAdd, Nat.reduceMul, Nat.reduceBEq, Option.getD_none, Int.reduceToNat, Nat.reduceSub, Nat.reduceLT, Nat.reduceLeDiff, Int.reduceLE, Int.reduceLT, reduceCtorEq, hw3, g19, g18, g12, gm, g16, gq, take_map_len]
            exact ⟨k + 1, by dsimp only; omega, by omega, by simp only [go_sem, ↓reduceIte, Nat.reduceEqDiff, Nat.reduceAdd, Nat.reduceMul, Nat.reduceBEq, Option.getD_none, Int.reduceToNat, Nat.reduceSub, Nat.reduceLT, Nat.reduceLeDiff, Int.reduceLE, Int.reduceLT, reduceCtorEq, g19, g18, g12, gm, g16, gq, take_map_len], by simp only [go_sem, ↓reduceIte, Nat.reduceEqDiff, Nat.reduceAdd, Nat.reduceMul, Nat.reduceBEq, Option.getD_none, Int.reduceToNat, Nat.reduceSub, Nat.reduceLT, Nat.reduceLeDiff, Int.reduceLE, Int.reduceLT, reduceCtorEq, st, g19, g18, g12, gm, g16, gq, take_map_len], ⟨v, by simp only [go_sem, ↓reduceIte, Nat.reduceEqDiff, Nat.reduceAdd, Nat.reduceMul, Nat.reduceBEq, Option.getD_none, Int.reduceToNat, Nat.reduceSub, Nat.reduceLT, Nat.reduceLeDiff, Int.reduceLE, Int.reduceLT, reduceCtorEq, g19, g18, g12, gm, g16, gq, take_map_len], by simp only [go_sem, ↓reduceIte, Nat.reduceEqDiff, Nat.reduceAdd, Nat.reduceMul, Nat.reduceBEq, Option.getD_none, Int.reduceToNat, Nat.reduceSub, Nat.reduceLT, Nat.reduceLeDiff, Int.reduceLE, Int.reduceLT, reduceCtorEq, g19, g18, g12, gm, g16, gq, take_map_len]⟩, u, by simp only [go_sem, ↓reduceIte, Nat.reduceEqDiff, Nat.reduceAdd, Nat.reduceMul, Nat.reduceBEq, Option.getD_none, Int.reduceToNat, Nat.reduceSub, Nat.reduceLT, Nat.reduceLeDiff, Int.reduceLE, Int.reduceLT, reduceCtorEq, g19, g18, g12, gm, g16, gq, take_map_len], by simp only [go_sem, ↓reduceIte, Nat.reduceEqDiff, Nat.reduceAdd, Nat.reduceMul, Nat.reduceBEq, Option.getD_none, Int.reduceToNat, Nat.reduceSub, Nat.reduceLT, Nat.reduceLeDiff, Int.reduceLE, Int.reduceLT, reduceCtorEq, g19, g18, g12, gm, g16, gq, take_map_len]⟩
        · have hi' : ¬ ((k + 1 : Nat) : Int) < d.length := by omega
          obtain rfl : k = w.length - 1 := by omega
          simp only [go_sem, ↓reduceIte, Nat.reduceEqDiff, Nat.reduceAdd, Nat.reduceMul, Nat.reduceBEq, Option.getD_none, Int.reduceToNat, Nat.reduceSub, Nat.reduceLT, Nat.reduceLeDiff, Int.reduceLE, Int.reduceLT, reduceCtorEq, hi', g19, g18, g12, gm, g16, gq, take_map_len]
          exact ⟨u, rfl, rfl⟩
      · rintro e2 s2 M2 ⟨rfl, g18, u, g16, gq⟩ ho
        have j5 : s2 5 = aI n := by rw [ho 5 rfl]; simp only [go_sem, ↓reduceIte, Nat.reduceEqDiff, Nat.reduceAdd, Nat.reduceMul, Nat.reduceBEq, Option.getD_none, Int.reduceToNat, Nat.reduceSub, Nat.reduceLT, Nat.reduceLeDiff, Int.reduceLE, Int.reduceLT, reduceCtorEq]
        have j6 : s2 6 = .dat none (arcs l) := by rw [ho 6 rfl]; simp only [go_sem, ↓reduceIte, Nat.reduceEqDiff, Nat.reduceAdd, Nat.reduceMul, Nat.reduceBEq, Option.getD_none, Int.reduceToNat, Nat.reduceSub, Nat.reduceLT, Nat.reduceLeDiff, Int.reduceLE, Int.reduceLT, reduceCtorEq]
        have j8 : s2 8 = aB (walkK l w (w.length - 1)) := by rw [ho 8 rfl]; simp only [go_sem, ↓reduceIte, Nat.reduceEqDiff, Nat.reduceAdd, Nat.reduceMul, Nat.reduceBEq, Option.getD_none, Int.reduceToNat, Nat.reduceSub, Nat.reduceLT, Nat.reduceLeDiff, Int.reduceLE, Int.reduceLT, reduceCtorEq]
        clear ho
        simp only [go_sem, ↓reduceIte, Nat.reduceEqDiff, Nat.reduceAdd, Nat.reduceMul, Nat.reduceBEq, Option.getD_none, Int.reduceToNat, Nat.reduceSub, Nat.reduceLT, Nat.reduceLeDiff, Int.reduceLE, Int.reduceLT, reduceCtorEq, x2, j5, j6, j8, g18, g16, gq]
        refine R_loop (α := Nat) (fun k s' M' => k ≤ A.length ∧ s' 130 = aI k ∧ ∃ v, s' 128 = .sl 4928 v 0 A.length 2 ∧ M'.m 4928 = some (.arr v true 2 (A.map arcD))) (fun k => A.length - k) 0 ⟨Nat.zero_le _, by simp only [go_sem, ↓reduceIte, Nat.reduceEqDiff, Nat.reduceAdd, Nat.reduceMul, Nat.reduceBEq, Option.getD_none, Int.reduceToNat, Nat.reduceSub, Nat.reduceLT, Nat.reduceLeDiff, Int.reduceLE, Int.reduceLT, reduceCtorEq, j5, j6, j8, g18, g16, gq]; try rfl, u, by simp only [go_sem, ↓reduceIte, Nat.reduceEqDiff, Nat.reduceAdd, Nat.reduceMul, Nat.reduceBEq, Option.getD_none, Int.reduceToNat, Nat.reduceSub, Nat.reduceLT, Nat.reduceLeDiff, Int.reduceLE, Int.reduceLT, reduceCtorEq, j5, j6, j8, g18, g16, gq]; try rfl, by simp only [go_sem, ↓reduceIte, Nat.reduceEqDiff, Nat.reduceAdd, Nat.reduceMul, Nat.reduceBEq, Option.getD_none, Int.reduceToNat, Nat.reduceSub, Nat.reduceLT, Nat.reduceLeDiff, Int.reduceLE, Int.reduceLT, reduceCtorEq, j5, j6, j8, g18, g16, gq]; try rfl⟩ ?_
        rintro k s3 M3 ⟨hk, q130, v, q128, qm⟩ ho
        unfold laws_FnLaidOut.b1
        have q5 : s3 5 = aI n := by rw [ho 5 rfl]; simp only [go_sem, ↓reduceIte, Nat.reduceEqDiff, Nat.reduceAdd, Nat.reduceMul, Nat.reduceBEq, Option.getD_none, Int.reduceToNat, Nat.reduceSub, Nat.reduceLT, Nat.reduceLeDiff, Int.reduceLE, Int.reduceLT, reduceCtorEq, j5, j6, j8, g18, g16, gq]
        have q6 : s3 6 = .dat none (arcs l) := by rw [ho 6 rfl]; simp only [go_sem, ↓reduceIte, Nat.reduceEqDiff, Nat.reduceAdd, Nat.reduceMul, Nat.reduceBEq, Option.getD_none, Int.reduceToNat, Nat.reduceSub, Nat.reduceLT, Nat.reduceLeDiff, Int.reduceLE, Int.reduceLT, reduceCtorEq, j5, j6, j8, g18, g16, gq]
        have q129 : s3 129 = aI A.length := by rw [ho 129 rfl]; simp only [go_sem, ↓reduceIte, Nat.reduceEqDiff, Nat.reduceAdd, Nat.reduceMul, Nat.reduceBEq, Option.getD_none, Int.reduceToNat, Nat.reduceSub, Nat.reduceLT, Nat.reduceLeDiff, Int.reduceLE, Int.reduceLT, reduceCtorEq, j5, j6, j8, g18, g16, gq]
        clear ho
        by_cases hlt : k < A.length
        · have hi' : (k : Int) < A.length := by omega
          have ga : A[k]? = some A[k] := List.getElem?_eq_getElem hlt
          have hw : IntKind.i64.wrap (k + 1) = ((k + 1 : Nat) : Int) := wrap_k hlt (by omega)
          obtain ⟨a1, a2, a3, a4, a5⟩ := harc _ (List.getElem_mem hlt)
          generalize A[k] = x at ga a1 a2 a3 a4 a5
          have n0 : ¬ n = 0 := by omega
          have t1 : Int.tdiv x.1 n = x.1 / n := Int.tdiv_eq_ediv_of_nonneg a1.1
          have t2 : Int.tdiv x.2 n = x.1 / n + 1 := by rw [Int.tdiv_eq_ediv_of_nonneg a2.1, a3]
          have t3 : Int.tmod x.1 n = x.1 % n := Int.tmod_eq_emod_of_nonneg a1.1
          have t4 : Int.tmod x.2 n = x.2 % n := Int.tmod_eq_emod_of_nonneg a2.1
          have w1 : IntKind.i64.wrap (x.1 / n) = x.1 / n := wrap_in (by omega) (by omega)
          have w2 : IntKind.i64.wrap (x.1 / n + 1) = x.1 / n + 1 := wrap_in (by omega) (by omega)
          have m1 := Int.emod_nonneg x.1 n0
          have m2 := Int.emod_lt_of_pos x.1 (b := n) (by omega)
          have m3 := Int.emod_nonneg x.2 n0
          have m4 := Int.emod_lt_of_pos x.2 (b := n) (by omega)
          have w3 : IntKind.i64.wrap (x.1 % n) = x.1 % n := wrap_in (by omega) (by omega)
          have w4 : IntKind.i64.wrap (x.2 % n) = x.2 % n := wrap_in (by omega) (by omega)
          have ne : ((x.1 / n + 1) != (x.1 / n + 1)) = false := by simp
          have c7 := laws_hasArc.fc l (x.1 % n) (x.2 % n) (by omega)
          rw [a5] at c7
          simp only [go_sem, ↓reduceIte, Nat.reduceEqDiff, Nat.reduceAdd, Nat.reduceMul, Nat.reduceBEq, Option.getD_none, Int.reduceToNat, Nat.reduceSub, Nat.reduceLT, Nat.reduceLeDiff, Int.reduceLE, Int.reduceLT, reduceCtorEq, hi', ga, n0, t1, t2, t3, t4, w1, w2, w3, w4, ne, j5, j6, j8, g18, g16, gq, q5, q6, q129, q130, q128, qm]
          refine fcW_bool c7 ?_
          simp only [go_sem, ↓reduceIte, Nat.reduceEqDiff, Nat.reduceAdd, Nat.reduceMul, Nat.reduceBEq, Option.getD_none, Int.reduceToNat, Nat.reduceSub, Nat.reduceLT, Nat.reduceLeDiff, Int.reduceLE, Int.reduceLT, reduceCtorEq, hw, j5, j6, j8, g18, g16, gq, q5, q6, q129, q130, q128, qm]
          exact ⟨k + 1, by dsimp only; omega, by omega, by simp only [go_sem, ↓reduceIte, Nat.reduceEqDiff, Nat.reduceAdd, Nat.reduceMul, Nat.reduceBEq, Option.getD_none, Int.reduceToNat, Nat.reduceSub, Nat.reduceLT, Nat.reduceLeDiff, Int.reduceLE, Int.reduceLT, reduceCtorEq, j5, j6, j8, g18, g16, gq, q5, q6, q129, q130, q128, qm], v, by simp only [go_sem, ↓reduceIte, Nat.reduceEqDiff, Nat.reduceAdd, Nat.reduceMul, Nat.reduceBEq, Option.getD_none, Int.reduceToNat, Nat.reduceSub, Nat.reduceLT, Nat.reduceLeDiff, Int.reduceLE, Int.reduceLT, reduceCtorEq, j5, j6, j8, g18, g16, gq, q5, q6, q129, q130, q128, qm], by simp only [go_sem, ↓reduceIte, Nat.reduceEqDiff, Nat.reduceAdd, Nat.reduceMul, Nat.reduceBEq, Option.getD_none, Int.reduceToNat, Nat.reduceSub, Nat.reduceLT, Nat.reduceLeDiff, Int.reduceLE, Int.reduceLT, reduceCtorEq, j5, j6, j8, g18, g16, gq, q5, q6, q129, q130, q128, qm]⟩
        · have hi' : ¬ (k : Int) < A.length := by omega
          obtain rfl : k = A.length := by omega
          simp only [go_sem, ↓reduceIte, Nat.reduceEqDiff, Nat.reduceAdd, Nat.reduceMul, Nat.reduceBEq, Option.getD_none, Int.reduceToNat, Nat.reduceSub, Nat.reduceLT, Nat.reduceLeDiff, Int.reduceLE, Int.reduceLT, reduceCtorEq, Int.lt_irrefl, j5, j6, j8, g18, g16, gq, q5, q6, q129, q130, q128, qm]
  rintro e2 s' M' rfl ho
  have g1 : s' 1 = .dat none (.sl 1 (more.map Ub)) := by rw [ho 1 rfl]; simp only [go_sem, ↓reduceIte, Nat.reduceEqDiff, Nat.reduceAdd, Nat.reduceMul, Nat.reduceBEq, Option.getD_none, Int.reduceToNat, Nat.reduceSub, Nat.reduceLT, Nat.reduceLeDiff, Int.reduceLE, Int.reduceLT, reduceCtorEq]
  clear ho
  simp only [go_sem, ↓reduceIte, Nat.reduceEqDiff, Nat.reduceAdd, Nat.reduceMul, Nat.reduceBEq, Option.getD_none, Int.reduceToNat, Nat.reduceSub, Nat.reduceLT, Nat.reduceLeDiff, Int.reduceLE, Int.reduceLT, reduceCtorEq, take_map_len, g1]
  refine fcW_bd d2 (noRs_t3 rfl noRs_arcs rfl) ?_
  simp only [go_sem, ↓reduceIte, Nat.reduceEqDiff, Nat.reduceAdd, Nat.reduceMul, Nat.reduceBEq, Option.getD_none, Int.reduceToNat, Nat.reduceSub, Nat.reduceLT, Nat.reduceLeDiff, Int.reduceLE, Int.reduceLT, reduceCtorEq, take_map_len]
  refine fcW_bd q1 (noRs_t2 noRs_arcs rfl) ?_
  simp only [go_sem, ↓reduceIte, Nat.reduceEqDiff, Nat.reduceAdd, Nat.reduceMul, Nat.reduceBEq, Option.getD_none, Int.reduceToNat, Nat.reduceSub, Nat.reduceLT, Nat.reduceLeDiff, Int.reduceLE, Int.reduceLT, reduceCtorEq, take_map_len]
  refine fcW_bd q2 (noRs_t2 noRs_arcs rfl) ?_
  simp only [go_sem, ↓reduceIte, Nat.reduceEqDiff, Nat.reduceAdd, Nat.reduceMul, Nat.reduceBEq, Option.getD_none, Int.reduceToNat, Nat.reduceSub, Nat.reduceLT, Nat.reduceLeDiff, Int.reduceLE, Int.reduceLT, reduceCtorEq, take_map_len]
  refine fcW_bd r1 (noRs_t2 noRs_ints rfl) ?_
  simp only [go_sem, ↓reduceIte, Nat.reduceEqDiff, Nat.reduceAdd, Nat.reduceMul, Nat.reduceBEq, Option.getD_none, Int.reduceToNat, Nat.reduceSub, Nat.reduceLT, Nat.reduceLeDiff, Int.reduceLE, Int.reduceLT, reduceCtorEq, take_map_len]
  refine fcW_bd r2 (noRs_t2 noRs_ints rfl) ?_
  simp only [go_sem, ↓reduceIte, Nat.reduceEqDiff, Nat.reduceAdd, Nat.reduceMul, Nat.reduceBEq, Option.getD_none, Int.reduceToNat, Nat.reduceSub, Nat.reduceLT, Nat.reduceLeDiff, Int.reduceLE, Int.reduceLT, reduceCtorEq, take_map_len, x4, x5, x6]
  refine fcW_bool s2 ?_
  simp only [go_sem, ↓reduceIte, Nat.reduceEqDiff, Nat.reduceAdd, Nat.reduceMul, Nat.reduceBEq, Option.getD_none, Int.reduceToNat, Nat.reduceSub, Nat.reduceLT, Nat.reduceLeDiff, Int.reduceLE, Int.reduceLT, reduceCtorEq, take_map_len, x4, x5, x6]
  refine fcW_bool s3 ?_
  simp only [go_sem, ↓reduceIte, Nat.reduceEqDiff, Nat.reduceAdd, Nat.reduceMul, Nat.reduceBEq, Option.getD_none, Int.reduceToNat, Nat.reduceSub, Nat.reduceLT, Nat.reduceLeDiff, Int.reduceLE, Int.reduceLT, reduceCtorEq, take_map_len, x4, x5, x6]
  refine fcW_bool r3 ?_
  simp only [go_sem, ↓reduceIte, Nat.reduceEqDiff, Nat.reduceAdd, Nat.reduceMul, Nat.reduceBEq, Option.getD_none, Int.reduceToNat, Nat.reduceSub, Nat.reduceLT, Nat.reduceLeDiff, Int.reduceLE, Int.reduceLT, reduceCtorEq, x4, x5, x6]; try rfl
end Go.Vm.Ytdebllkmblakkaa
namespace Go.Proofs.Ytdebllkmblakkaa
open Go Go.Vm
theorem laidOut_own : ownKnob Try.prog.godebug = none := by kernel_rfl
theorem laidOut_laid : laidOutB Try.prog = true := by kernel_rfl
set_option maxRecDepth 100000 in
theorem laidOut_lifted (os : Os) (started : os.Started) (H : Type) (enc : TypeId × Value → H) :
    ReturnsInHanded {} Try.checked os 13 .any (Rows.fnLaidOutSpec.pre6 enc Try.prog Try.f13 Rows.fnLaidOutRow.domain false) (Rows.fnLaidOutSpec.post enc Try.prog Try.f13 false true false false) := by
  refine returnsInHanded_of_change_sized (C := Try.checked) laidOut_own started (by kernel_rfl) Try.func13
    (ChangeSpec.witness6 (enc := enc) (C := Try.checked) false ⟨#[], #[.slice none 0 0, .slice none 0 0], []⟩ 8 (by kernel_rfl) (by kernel_rfl) (by kernel_rfl) (by kernel_rfl)) ?_
  intro W base args ds gs before hval hW _ _ _
  refine law_contract (C := Try.checked) (f := 13) [.sl (.int .u8), .sl (.int .u8)] (rt := 4) rfl (by kernel_rfl) rfl (by kernel_rfl) laidOut_laid (fun H ds h => ?_) (fun ds h => ?_) hval hW
  · match ds, h with
    | [_, _], _ => rfl
  · simp only [HasTys] at h
    obtain ⟨d1, ds1, rfl, h1, d2, ds2, rfl, h2, rfl⟩ := h
    obtain ⟨code, rfl, wc, bc⟩ := Vm.Ytdebllkmblakkaa.hasBytes h1
    obtain ⟨more, rfl, wm, bm⟩ := Vm.Ytdebllkmblakkaa.hasBytes h2
    exact Vm.Ytdebllkmblakkaa.laws_FnLaidOut.fc code more wc wm bc bm
theorem laidOut_over : Rows.fnLaidOutRow.holds Try.pinned (OpenSpec.ofChange Rows.fnLaidOutSpec) :=
  OpenClaim.holds_of_wide 13 Try.f13 rfl rfl rfl rfl rfl rfl rfl ⟨rfl, rfl, rfl, rfl, rfl⟩ rfl rfl rfl rfl rfl (by kernel_rfl) Try.func13 (by kernel_rfl)
    (of_decide_eq_true (by kernel_rfl)) (by unfold Func.isWrapper; first | (rw [if_pos (by decide +kernel)]; kernel_rfl) | (rw [if_neg (by decide +kernel)]; exact ⟨rfl, rfl⟩))
    (fun os started H enc _ => laidOut_lifted os started H enc)
/-- The law FnLaidOut holds as given. -/
theorem laidOut_holds : Rows.FnLaidOutSaid := laidOut_over
#print axioms laidOut_holds
end Go.Proofs.Ytdebllkmblakkaa
