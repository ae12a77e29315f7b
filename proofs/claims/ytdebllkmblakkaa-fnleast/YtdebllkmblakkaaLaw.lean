/- The law FnLeast returns true at all arguments; its row. -/
import Derived.Test.YtdebllkmblakkaaWkb
import Derived.Test.YtdebllkmblakkaaRows
namespace Go.Vm.Ytdebllkmblakkaa
open Go Go.Vm
set_option maxRecDepth 10000
set_option maxHeartbeats 4000000
set_option linter.unusedSimpArgs false
set_option linter.unusedVariables false

theorem shl_nat {N : Nat} (h : N ≤ 8) : IntKind.i64.wrap (1 * 2 ^ min N 64) = ((2 ^ N : Nat) : Int) ∧ 2 ^ N ≤ 256 := by
  have : N = 0 ∨ N = 1 ∨ N = 2 ∨ N = 3 ∨ N = 4 ∨ N = 5 ∨ N = 6 ∨ N = 7 ∨ N = 8 := by omega
  rcases this with rfl | rfl | rfl | rfl | rfl | rfl | rfl | rfl | rfl <;> decide
theorem laws_FnLeast.fc (code more : List Int) (wc : code.length ≤ 9223372036854775807) (wm : more.length ≤ 9223372036854775807) (bc : ∀ b ∈ code, 0 ≤ b ∧ b ≤ 255) (bm : ∀ b ∈ more, 0 ≤ b ∧ b ≤ 255) :
    FCt prog F_laws_FnLeast [.ro, .ro] [.sl 1 (code.map Ub), .sl 1 (more.map Ub)] (Bb true) [] := by
  obtain ⟨n, l, hn, hl, hr, d1⟩ := lf_ex code wc bc
  obtain ⟨m, e, so, hm, he, hre, hso, d2⟩ := hi_ex more wm bm
  have hr' : ∀ r ∈ l, r.ifs.length ≤ 4294967296 := fun r h => by have := hr r h; omega
  have hre' : ∀ r ∈ e, r.ifs.length ≤ 4294967296 := fun r h => by have := hre r h; omega
  obtain ⟨s, may, ok, c, N, hI, hgd, hsl, hO⟩ := le_is n l
  have c1 := impl_LeastOf.fc n l (by omega) hr'
  have c2 := spec_LeastOf.fc n l (by omega) hr'
  rw [hI] at c1 c2
  have c3 := impl_GoodRules.fc l n (by omega) hr'
  rw [← hgd] at c3
  have s1 := laws_sameInts.fc s s (by omega) (by omega)
  rw [show decide (s = s) = true by simp] at s1
  obtain ⟨a, b, hH⟩ := holdsI_is m e so
  have q1 := impl_HoldsIn.fc m e so (by omega) hre' (by omega)
  have q2 := spec_HoldsIn.fc m e so (by omega) hre' (by omega)
  rw [hH] at q1 q2
  have x1 : (ok != ok) = false := by simp
  have x2 : (may != may) = false := by simp
  have x3 : (a == a) = true := by simp
  have x4 : (b == b) = true := by simp
  have x6 : (true != false) = true := rfl
  refine fct_run laws_FnLeast.ok rfl ?_
  simp only [go_sem, ↓reduceIte, Nat.reduceEqDiff, Nat.reduceAdd, Nat.reduceMul, Nat.reduceBEq, Option.getD_none, Int.reduceToNat, Nat.reduceSub, Nat.reduceLT, Nat.reduceLeDiff, Int.reduceLE, Int.reduceLT, reduceCtorEq]
  refine cdW_any (fun hlen => ?_) (fun hlen => ?_)
  · simp only [go_sem, ↓reduceIte, Nat.reduceEqDiff, Nat.reduceAdd, Nat.reduceMul, Nat.reduceBEq, Option.getD_none, Int.reduceToNat, Nat.reduceSub, Nat.reduceLT, Nat.reduceLeDiff, Int.reduceLE, Int.reduceLT, reduceCtorEq]; try rfl
  simp only [go_sem, ↓reduceIte, Nat.reduceEqDiff, Nat.reduceAdd, Nat.reduceMul, Nat.reduceBEq, Option.getD_none, Int.reduceToNat, Nat.reduceSub, Nat.reduceLT, Nat.reduceLeDiff, Int.reduceLE, Int.reduceLT, reduceCtorEq, take_map_len]
  refine fcW_bd d1 (noRs_t2 rfl noRs_rules) ?_
  simp only [go_sem, ↓reduceIte, Nat.reduceEqDiff, Nat.reduceAdd, Nat.reduceMul, Nat.reduceBEq, Option.getD_none, Int.reduceToNat, Nat.reduceSub, Nat.reduceLT, Nat.reduceLeDiff, Int.reduceLE, Int.reduceLT, reduceCtorEq, take_map_len]
  refine fcW_bd c1 (noRs_t3 noRs_ints rfl rfl) ?_
  simp only [go_sem, ↓reduceIte, Nat.reduceEqDiff, Nat.reduceAdd, Nat.reduceMul, Nat.reduceBEq, Option.getD_none, Int.reduceToNat, Nat.reduceSub, Nat.reduceLT, Nat.reduceLeDiff, Int.reduceLE, Int.reduceLT, reduceCtorEq, take_map_len]
  refine fcW_bd c2 (noRs_t3 noRs_ints rfl rfl) ?_
  simp only [go_sem, ↓reduceIte, Nat.reduceEqDiff, Nat.reduceAdd, Nat.reduceMul, Nat.reduceBEq, Option.getD_none, Int.reduceToNat, Nat.reduceSub, Nat.reduceLT, Nat.reduceLeDiff, Int.reduceLE, Int.reduceLT, reduceCtorEq, take_map_len, x1, x2]
  refine fcW_bool s1 ?_
  simp only [go_sem, ↓reduceIte, Nat.reduceEqDiff, Nat.reduceAdd, Nat.reduceMul, Nat.reduceBEq, Option.getD_none, Int.reduceToNat, Nat.reduceSub, Nat.reduceLT, Nat.reduceLeDiff, Int.reduceLE, Int.reduceLT, reduceCtorEq, take_map_len]
  refine fcW_bool c3 ?_
  simp only [go_sem, ↓reduceIte, Nat.reduceEqDiff, Nat.reduceAdd, Nat.reduceMul, Nat.reduceBEq, Option.getD_none, Int.reduceToNat, Nat.reduceSub, Nat.reduceLT, Nat.reduceLeDiff, Int.reduceLE, Int.reduceLT, reduceCtorEq, take_map_len, x1]
  refine cdW_cut (fun e _ _ => e = .n) ?_ ?_
  · cases ok
    · simp only [go_sem, ↓reduceIte, Nat.reduceEqDiff, Nat.reduceAdd, Nat.reduceMul, Nat.reduceBEq, Option.getD_none, Int.reduceToNat, Nat.reduceSub, Nat.reduceLT, Nat.reduceLeDiff, Int.reduceLE, Int.reduceLT, reduceCtorEq]
    · obtain ⟨rfl, n12, hsl, h1, h2, hcl, hce, h3, h4, hlit, h5⟩ := hO rfl
      have hsk := someK_all (hO rfl)
      have hce' : ∀ x ∈ c, x.length ≤ 4294967296 := fun x hx => by have := hce x hx; omega
      have c4 := impl_HoldsIn.fc N l s (by omega) hr' (by omega)
      rw [h1] at c4
      have c5 := impl_RulesAsClauses.fc N l (by omega) hr'
      rw [h2] at c5
      have c6 := impl_IsHorn.fc N c (by omega) hce'
      rw [h3] at c6
      simp only [go_sem, ↓reduceIte, Nat.reduceEqDiff, Nat.reduceAdd, Nat.reduceMul, Nat.reduceBEq, Option.getD_none, Int.reduceToNat, Nat.reduceSub, Nat.reduceLT, Nat.reduceLeDiff, Int.reduceLE, Int.reduceLT, reduceCtorEq, take_map_len]
      refine fcW_bd c4 rfl ?_
      simp only [go_sem, ↓reduceIte, Nat.reduceEqDiff, Nat.reduceAdd, Nat.reduceMul, Nat.reduceBEq, Option.getD_none, Int.reduceToNat, Nat.reduceSub, Nat.reduceLT, Nat.reduceLeDiff, Int.reduceLE, Int.reduceLT, reduceCtorEq, take_map_len]
      refine fcW_bd c5 (noRs_t2 noRs_intss rfl) ?_
      simp only [go_sem, ↓reduceIte, Nat.reduceEqDiff, Nat.reduceAdd, Nat.reduceMul, Nat.reduceBEq, Option.getD_none, Int.reduceToNat, Nat.reduceSub, Nat.reduceLT, Nat.reduceLeDiff, Int.reduceLE, Int.reduceLT, reduceCtorEq, take_map_len, x2]
      refine fcW_bd c6 rfl ?_
      simp only [go_sem, ↓reduceIte, Nat.reduceEqDiff, Nat.reduceAdd, Nat.reduceMul, Nat.reduceBEq, Option.getD_none, Int.reduceToNat, Nat.reduceSub, Nat.reduceLT, Nat.reduceLeDiff, Int.reduceLE, Int.reduceLT, reduceCtorEq, take_map_len]
      by_cases h8 : (N : Int) ≤ 8
      · have u1 : IntKind.u64.wrap (N : Int) = N := by simp [IntKind.wrap, IntKind.signed, IntKind.bits]; omega
        have u2 : ¬ (N : Int) < 0 := by omega
        simp only [go_sem, ↓reduceIte, Nat.reduceEqDiff, Nat.reduceAdd, Nat.reduceMul, Nat.reduceBEq, Option.getD_none, Int.reduceToNat, Nat.reduceSub, Nat.reduceLT, Nat.reduceLeDiff, Int.reduceLE, Int.reduceLT, reduceCtorEq, h8]
        refine R_loop (α := Nat) (fun k s' M' => k ≤ 2 ^ N ∧ s' 20 = aI k ∧ s' 19 = aB (someK N c k)) (fun k => 2 ^ N - k) 0 ⟨Nat.zero_le _, by simp only [go_sem, ↓reduceIte, Nat.reduceEqDiff, Nat.reduceAdd, Nat.reduceMul, Nat.reduceBEq, Option.getD_none, Int.reduceToNat, Nat.reduceSub, Nat.reduceLT, Nat.reduceLeDiff, Int.reduceLE, Int.reduceLT, reduceCtorEq]; rfl, by simp only [go_sem, ↓reduceIte, Nat.reduceEqDiff, Nat.reduceAdd, Nat.reduceMul, Nat.reduceBEq, Option.getD_none, Int.reduceToNat, Nat.reduceSub, Nat.reduceLT, Nat.reduceLeDiff, Int.reduceLE, Int.reduceLT, reduceCtorEq]; rfl⟩ ?_
        rintro k s' M' ⟨hk, g20, g19⟩ ho
        unfold laws_FnLeast.b1
        have j5 : s' 5 = aI N := by rw [ho 5 rfl]; simp only [go_sem, ↓reduceIte, Nat.reduceEqDiff, Nat.reduceAdd, Nat.reduceMul, Nat.reduceBEq, Option.getD_none, Int.reduceToNat, Nat.reduceSub, Nat.reduceLT, Nat.reduceLeDiff, Int.reduceLE, Int.reduceLT, reduceCtorEq]
        have j6 : s' 6 = .dat none (rules l) := by rw [ho 6 rfl]; simp only [go_sem, ↓reduceIte, Nat.reduceEqDiff, Nat.reduceAdd, Nat.reduceMul, Nat.reduceBEq, Option.getD_none, Int.reduceToNat, Nat.reduceSub, Nat.reduceLT, Nat.reduceLeDiff, Int.reduceLE, Int.reduceLT, reduceCtorEq]
        have j7 : s' 7 = .dat none (ints s) := by rw [ho 7 rfl]; simp only [go_sem, ↓reduceIte, Nat.reduceEqDiff, Nat.reduceAdd, Nat.reduceMul, Nat.reduceBEq, Option.getD_none, Int.reduceToNat, Nat.reduceSub, Nat.reduceLT, Nat.reduceLeDiff, Int.reduceLE, Int.reduceLT, reduceCtorEq]
        have j8 : s' 8 = aB may := by rw [ho 8 rfl]; simp only [go_sem, ↓reduceIte, Nat.reduceEqDiff, Nat.reduceAdd, Nat.reduceMul, Nat.reduceBEq, Option.getD_none, Int.reduceToNat, Nat.reduceSub, Nat.reduceLT, Nat.reduceLeDiff, Int.reduceLE, Int.reduceLT, reduceCtorEq]
        have j15 : s' 15 = .dat none (intss c) := by rw [ho 15 rfl]; simp only [go_sem, ↓reduceIte, Nat.reduceEqDiff, Nat.reduceAdd, Nat.reduceMul, Nat.reduceBEq, Option.getD_none, Int.reduceToNat, Nat.reduceSub, Nat.reduceLT, Nat.reduceLeDiff, Int.reduceLE, Int.reduceLT, reduceCtorEq]
        clear ho
        obtain ⟨sh, p256⟩ := shl_nat (N := N) (by omega)
        by_cases hlt : k < 2 ^ N
        · have hi' : (k : Int) < ((2 ^ N : Nat) : Int) := by omega
          have hw : IntKind.i64.wrap ((k : Int) + 1) = ((k + 1 : Nat) : Int) := wrap_k hlt (by omega)
          have f1 := laws_modelOf.fc N k (by omega) (by omega)
          have ml : (modelB N k).length = N := modelB_len
          obtain ⟨f2, f3, f4⟩ := h4 (modelB N k) ml
          have hss := someK_succ (N := N) (c := c) (k := k)
          have hmg : ∀ i, i < N → (modelB N k)[i]? = some ((modelB N k).getD i false) := fun i hi => getD_sm (by omega)
          generalize modelB N k = mm at f1 f2 f3 f4 ml hss hmg
          have f5 := impl_HoldsIn.fc N l (soOf mm N) (by omega) hr' (by have := soOf_len (m := mm) (k := N); omega)
          rw [f2] at f5
          have f6 := impl_HoldsAll.fc N c mm (by omega) hce'
          rw [f3] at f6
          have f7 := laws_allIn.fc s mm (by omega) (by omega) (by rw [ml]; exact hlit)
          have tkm : (mm.map Bb).take N = mm.map Bb := List.take_of_length_le (by simp [ml])
          have nl : N ≤ mm.length := by omega
          simp only [go_sem, ↓reduceIte, Nat.reduceEqDiff, Nat.reduceAdd, Nat.reduceMul, Nat.reduceBEq, Option.getD_none, Int.reduceToNat, Nat.reduceSub, Nat.reduceLT, Nat.reduceLeDiff, Int.reduceLE, Int.reduceLT, reduceCtorEq, sh, hi', j5, j6, j7, j8, j15, g20, g19, u1, u2]
          refine fcW_bd f1 noRs_bools ?_
          simp only [go_sem, ↓reduceIte, Nat.reduceEqDiff, Nat.reduceAdd, Nat.reduceMul, Nat.reduceBEq, Option.getD_none, Int.reduceToNat, Nat.reduceSub, Nat.reduceLT, Nat.reduceLeDiff, Int.reduceLE, Int.reduceLT, reduceCtorEq, ml, j5, j6, j7, j8, j15, g20, g19, u1, u2]
          refine R_cut (fun e s' M' => e = .ex 2 ∧ (∃ v, s' 21 = .sl 7296 v 0 N 1 ∧ M'.m 7296 = some (.arr v true 1 (mm.map Bb))) ∧ ∃ v, s' 22 = .sl 8384 v 0 (soOf mm N).length 1 ∧ M'.m 8384 = some (.arr v true 1 ((soOf mm N).map Ii))) ?_ ?_
          · refine R_loop (α := Nat) (fun i s' M' => i ≤ N ∧ s' 133 = aI i ∧ (∃ v, s' 21 = .sl 7296 v 0 N 1 ∧ s' 131 = .sl 7296 v 0 N 1 ∧ M'.m 7296 = some (.arr v true 1 (mm.map Bb))) ∧ ∃ v, s' 22 = .sl 8384 v 0 (soOf mm i).length 1 ∧ M'.m 8384 = some (.arr v true 1 ((soOf mm i).map Ii))) (fun i => N - i) 0 ⟨Nat.zero_le _, by simp only [go_sem, ↓reduceIte, Nat.reduceEqDiff, Nat.reduceAdd, Nat.reduceMul, Nat.reduceBEq, Option.getD_none, Int.reduceToNat, Nat.reduceSub, Nat.reduceLT, Nat.reduceLeDiff, Int.reduceLE, Int.reduceLT, reduceCtorEq, j5, j6, j7, j8, j15, g20, g19, u1, u2]; try rfl, ⟨_, by simp only [go_sem, ↓reduceIte, Nat.reduceEqDiff, Nat.reduceAdd, Nat.reduceMul, Nat.reduceBEq, Option.getD_none, Int.reduceToNat, Nat.reduceSub, Nat.reduceLT, Nat.reduceLeDiff, Int.reduceLE, Int.reduceLT, reduceCtorEq, j5, j6, j7, j8, j15, g20, g19, u1, u2]; try rfl, by simp only [go_sem, ↓reduceIte, Nat.reduceEqDiff, Nat.reduceAdd, Nat.reduceMul, Nat.reduceBEq, Option.getD_none, Int.reduceToNat, Nat.reduceSub, Nat.reduceLT, Nat.reduceLeDiff, Int.reduceLE, Int.reduceLT, reduceCtorEq, j5, j6, j7, j8, j15, g20, g19, u1, u2]; try rfl, by simp only [go_sem, ↓reduceIte, Nat.reduceEqDiff, Nat.reduceAdd, Nat.reduceMul, Nat.reduceBEq, Option.getD_none, Int.reduceToNat, Nat.reduceSub, Nat.reduceLT, Nat.reduceLeDiff, Int.reduceLE, Int.reduceLT, reduceCtorEq, j5, j6, j7, j8, j15, g20, g19, u1, u2]; try rfl⟩, _, by simp only [go_sem, ↓reduceIte, Nat.reduceEqDiff, Nat.reduceAdd, Nat.reduceMul, Nat.reduceBEq, Option.getD_none, Int.reduceToNat, Nat.reduceSub, Nat.reduceLT, Nat.reduceLeDiff, Int.reduceLE, Int.reduceLT, reduceCtorEq, j5, j6, j7, j8, j15, g20, g19, u1, u2]; try rfl, by simp only [go_sem, ↓reduceIte, Nat.reduceEqDiff, Nat.reduceAdd, Nat.reduceMul, Nat.reduceBEq, Option.getD_none, Int.reduceToNat, Nat.reduceSub, Nat.reduceLT, Nat.reduceLeDiff, Int.reduceLE, Int.reduceLT, reduceCtorEq, j5, j6, j7, j8, j15, g20, g19, u1, u2]; try rfl⟩ ?_
            rintro i s2 M2 ⟨hi, q133, ⟨v, q21, q131, qm⟩, u, q22, qu⟩ ho
            unfold laws_FnLeast.b0
            have q132 : s2 132 = aI N := by rw [ho 132 rfl]; simp only [go_sem, ↓reduceIte, Nat.reduceEqDiff, Nat.reduceAdd, Nat.reduceMul, Nat.reduceBEq, Option.getD_none, Int.reduceToNat, Nat.reduceSub, Nat.reduceLT, Nat.reduceLeDiff, Int.reduceLE, Int.reduceLT, reduceCtorEq, j5, j6, j7, j8, j15, g20, g19, u1, u2]
            clear ho
            by_cases hl3 : i < N
            · have hi2 : (i : Int) < N := by omega
              have hi3 : (i : Int) < mm.length := by omega
              have hw2 : IntKind.i64.wrap ((i : Int) + 1) = ((i + 1 : Nat) : Int) := wrap_k hl3 (by omega)
              have ga := hmg i hl3
              have st := soOf_succ (m := mm) (k := i)
              have sl := soOf_len (m := mm) (k := i)
              cases hh : mm.getD i false with
              | false =>
                rw [hh] at ga st
                simp only [Bool.false_eq_true, if_false, List.append_nil] at st
                simp only [go_sem, ↓reduceIte, Nat.reduceEqDiff, Nat.reduceAdd, Nat.reduceMul, Nat.reduceBEq, Option.getD_none, Int.reduceToNat, Nat.reduceSub, Nat.reduceLT, Nat.reduceLeDiff, Int.reduceLE, Int.reduceLT, reduceCtorEq, hi2, hi3, ga, hw2, j5, j6, j7, j8, j15, g20, g19, u1, u2, q132, q133, q21, q131, qm, q22, qu]
                exact ⟨i + 1, by dsimp only; omega, by omega, by simp only [go_sem, ↓reduceIte, Nat.reduceEqDiff, Nat.reduceAdd, Nat.reduceMul, Nat.reduceBEq, Option.getD_none, Int.reduceToNat, Nat.reduceSub, Nat.reduceLT, Nat.reduceLeDiff, Int.reduceLE, Int.reduceLT, reduceCtorEq, j5, j6, j7, j8, j15, g20, g19, u1, u2, q132, q133, q21, q131, qm, q22, qu], ⟨v, by simp only [go_sem, ↓reduceIte, Nat.reduceEqDiff, Nat.reduceAdd, Nat.reduceMul, Nat.reduceBEq, Option.getD_none, Int.reduceToNat, Nat.reduceSub, Nat.reduceLT, Nat.reduceLeDiff, Int.reduceLE, Int.reduceLT, reduceCtorEq, j5, j6, j7, j8, j15, g20, g19, u1, u2, q132, q133, q21, q131, qm, q22, qu], by simp only [go_sem, ↓reduceIte, Nat.reduceEqDiff, Nat.reduceAdd, Nat.reduceMul, Nat.reduceBEq, Option.getD_none, Int.reduceToNat, Nat.reduceSub, Nat.reduceLT, Nat.reduceLeDiff, Int.reduceLE, Int.reduceLT, reduceCtorEq, j5, j6, j7, j8, j15, g20, g19, u1, u2, q132, q133, q21, q131, qm, q22, qu], by simp only [go_sem, ↓reduceIte, Nat.reduceEqDiff, Nat.reduceAdd, Nat.reduceMul, Nat.reduceBEq, Option.getD_none, Int.reduceToNat, Nat.reduceSub, Nat.reduceLT, Nat.reduceLeDiff, Int.reduceLE, Int.reduceLT, reduceCtorEq, j5, j6, j7, j8, j15, g20, g19, u1, u2, q132, q133, q21, q131, qm, q22, qu]⟩, u, by simp only [go_sem, ↓reduceIte, Nat.reduceEqDiff, Nat.reduceAdd, Nat.reduceMul, Nat.reduceBEq, Option.getD_none, Int.reduceToNat, Nat.reduceSub, Nat.reduceLT, Nat.reduceLeDiff, Int.reduceLE, Int.reduceLT, reduceCtorEq, j5, j6, j7, j8, j15, g20, g19, u1, u2, q132, q133, q21, q131, qm, q22, qu]; rw [st], by simp only [go_sem, ↓reduceIte, Nat.reduceEqDiff, Nat.reduceAdd, Nat.reduceMul, Nat.reduceBEq, Option.getD_none, Int.reduceToNat, Nat.reduceSub, Nat.reduceLT, Nat.reduceLeDiff, Int.reduceLE, Int.reduceLT, reduceCtorEq, j5, j6, j7, j8, j15, g20, g19, u1, u2, q132, q133, q21, q131, qm, q22, qu]; rw [st]⟩
              | true =>
                rw [hh, if_pos rfl] at st
                rw [hh] at ga
                have hbb : ((soOf mm i).length + 1) * 8 ≤ 70368744177664 := by omega
                have sn : (soOf mm i).map Ii ++ [Ii ((i + 1 : Nat) : Int)] = (soOf mm (i + 1)).map Ii := by rw [st]; simp
                simp only [go_sem, ↓reduceIte, Nat.reduceEqDiff, Nat.reduceAdd, Nat.reduceMul, Nat.reduceBEq, Option.getD_none, Int.reduceToNat, Nat.reduceSub, Nat.reduceLT, Nat.reduceLeDiff, Int.reduceLE, Int.reduceLT, reduceCtorEq, hi2, hi3, ga, hw2, hbb, take_map_len, j5, j6, j7, j8, j15, g20, g19, u1, u2, q132, q133, q21, q131, qm, q22, qu]
                exact ⟨i + 1, by dsimp only; omega, by omega, by simp only [go_sem, ↓reduceIte, Nat.reduceEqDiff, Nat.reduceAdd, Nat.reduceMul, Nat.reduceBEq, Option.getD_none, Int.reduceToNat, Nat.reduceSub, Nat.reduceLT, Nat.reduceLeDiff, Int.reduceLE, Int.reduceLT, reduceCtorEq, j5, j6, j7, j8, j15, g20, g19, u1, u2, q132, q133, q21, q131, qm, q22, qu], ⟨v, by simp only [go_sem, ↓reduceIte, Nat.reduceEqDiff, Nat.reduceAdd, Nat.reduceMul, Nat.reduceBEq, Option.getD_none, Int.reduceToNat, Nat.reduceSub, Nat.reduceLT, Nat.reduceLeDiff, Int.reduceLE, Int.reduceLT, reduceCtorEq, j5, j6, j7, j8, j15, g20, g19, u1, u2, q132, q133, q21, q131, qm, q22, qu], by simp only [go_sem, ↓reduceIte, Nat.reduceEqDiff, Nat.reduceAdd, Nat.reduceMul, Nat.reduceBEq, Option.getD_none, Int.reduceToNat, Nat.reduceSub, Nat.reduceLT, Nat.reduceLeDiff, Int.reduceLE, Int.reduceLT, reduceCtorEq, j5, j6, j7, j8, j15, g20, g19, u1, u2, q132, q133, q21, q131, qm, q22, qu], by simp only [go_sem, ↓reduceIte, Nat.reduceEqDiff, Nat.reduceAdd, Nat.reduceMul, Nat.reduceBEq, Option.getD_none, Int.reduceToNat, Nat.reduceSub, Nat.reduceLT, Nat.reduceLeDiff, Int.reduceLE, Int.reduceLT, reduceCtorEq, j5, j6, j7, j8, j15, g20, g19, u1, u2, q132, q133, q21, q131, qm, q22, qu]⟩, _, by simp only [go_sem, ↓reduceIte, Nat.reduceEqDiff, Nat.reduceAdd, Nat.reduceMul, Nat.reduceBEq, Option.getD_none, Int.reduceToNat, Nat.reduceSub, Nat.reduceLT, Nat.reduceLeDiff, Int.reduceLE, Int.reduceLT, reduceCtorEq, j5, j6, j7, j8, j15, g20, g19, u1, u2, q132, q133, q21, q131, qm, q22, qu]; rw [st, List.length_append]; rfl, by simp only [go_sem, ↓reduceIte, Nat.reduceEqDiff, Nat.reduceAdd, Nat.reduceMul, Nat.reduceBEq, Option.getD_none, Int.reduceToNat, Nat.reduceSub, Nat.reduceLT, Nat.reduceLeDiff, Int.reduceLE, Int.reduceLT, reduceCtorEq, j5, j6, j7, j8, j15, g20, g19, u1, u2, q132, q133, q21, q131, qm, q22, qu]; rw [← sn]⟩
            · obtain rfl : i = N := by omega
              simp only [go_sem, ↓reduceIte, Nat.reduceEqDiff, Nat.reduceAdd, Nat.reduceMul, Nat.reduceBEq, Option.getD_none, Int.reduceToNat, Nat.reduceSub, Nat.reduceLT, Nat.reduceLeDiff, Int.reduceLE, Int.reduceLT, reduceCtorEq, Int.lt_irrefl, j5, j6, j7, j8, j15, g20, g19, u1, u2, q132, q133, q21, q131, qm, q22, qu]
              exact ⟨⟨v, rfl, rfl⟩, u, rfl, rfl⟩
          · rintro e2 s2 M2 ⟨rfl, ⟨v, q21, qm⟩, u, q22, qu⟩ ho
            have q5 : s2 5 = aI N := by rw [ho 5 rfl]; simp only [go_sem, ↓reduceIte, Nat.reduceEqDiff, Nat.reduceAdd, Nat.reduceMul, Nat.reduceBEq, Option.getD_none, Int.reduceToNat, Nat.reduceSub, Nat.reduceLT, Nat.reduceLeDiff, Int.reduceLE, Int.reduceLT, reduceCtorEq, j5, j6, j7, j8, j15, g20, g19, u1, u2]
            have q6 : s2 6 = .dat none (rules l) := by rw [ho 6 rfl]; simp only [go_sem, ↓reduceIte, Nat.reduceEqDiff, Nat.reduceAdd, Nat.reduceMul, Nat.reduceBEq, Option.getD_none, Int.reduceToNat, Nat.reduceSub, Nat.reduceLT, Nat.reduceLeDiff, Int.reduceLE, Int.reduceLT, reduceCtorEq, j5, j6, j7, j8, j15, g20, g19, u1, u2]
            have q7 : s2 7 = .dat none (ints s) := by rw [ho 7 rfl]; simp only [go_sem, ↓reduceIte, Nat.reduceEqDiff, Nat.reduceAdd, Nat.reduceMul, Nat.reduceBEq, Option.getD_none, Int.reduceToNat, Nat.reduceSub, Nat.reduceLT, Nat.reduceLeDiff, Int.reduceLE, Int.reduceLT, reduceCtorEq, j5, j6, j7, j8, j15, g20, g19, u1, u2]
            have q15 : s2 15 = .dat none (intss c) := by rw [ho 15 rfl]; simp only [go_sem, ↓reduceIte, Nat.reduceEqDiff, Nat.reduceAdd, Nat.reduceMul, Nat.reduceBEq, Option.getD_none, Int.reduceToNat, Nat.reduceSub, Nat.reduceLT, Nat.reduceLeDiff, Int.reduceLE, Int.reduceLT, reduceCtorEq, j5, j6, j7, j8, j15, g20, g19, u1, u2]
            have q19 : s2 19 = aB (someK N c k) := by rw [ho 19 rfl]; simp only [go_sem, ↓reduceIte, Nat.reduceEqDiff, Nat.reduceAdd, Nat.reduceMul, Nat.reduceBEq, Option.getD_none, Int.reduceToNat, Nat.reduceSub, Nat.reduceLT, Nat.reduceLeDiff, Int.reduceLE, Int.reduceLT, reduceCtorEq, j5, j6, j7, j8, j15, g20, g19, u1, u2]
            have q20 : s2 20 = aI k := by rw [ho 20 rfl]; simp only [go_sem, ↓reduceIte, Nat.reduceEqDiff, Nat.reduceAdd, Nat.reduceMul, Nat.reduceBEq, Option.getD_none, Int.reduceToNat, Nat.reduceSub, Nat.reduceLT, Nat.reduceLeDiff, Int.reduceLE, Int.reduceLT, reduceCtorEq, j5, j6, j7, j8, j15, g20, g19, u1, u2]
            clear ho
            simp only [go_sem, ↓reduceIte, Nat.reduceEqDiff, Nat.reduceAdd, Nat.reduceMul, Nat.reduceBEq, Option.getD_none, Int.reduceToNat, Nat.reduceSub, Nat.reduceLT, Nat.reduceLeDiff, Int.reduceLE, Int.reduceLT, reduceCtorEq, take_map_len, j5, j6, j7, j8, j15, g20, g19, u1, u2, q5, q6, q7, q15, q19, q20, q21, qm, q22, qu, tkm, nl, ml]
            refine fcW_bd f5 rfl ?_
            simp only [go_sem, ↓reduceIte, Nat.reduceEqDiff, Nat.reduceAdd, Nat.reduceMul, Nat.reduceBEq, Option.getD_none, Int.reduceToNat, Nat.reduceSub, Nat.reduceLT, Nat.reduceLeDiff, Int.reduceLE, Int.reduceLT, reduceCtorEq, take_map_len, j5, j6, j7, j8, j15, g20, g19, u1, u2, q5, q6, q7, q15, q19, q20, q21, qm, q22, qu, tkm, nl, ml]
            refine fcW_bd f6 rfl ?_
            cases hc : c.all (holdsC mm) with
            | false =>
              rw [hc, Bool.or_false] at hss
              cases hk2 : someK N c k with
              | false =>
                rw [hk2] at hss
                simp only [go_sem, ↓reduceIte, Nat.reduceEqDiff, Nat.reduceAdd, Nat.reduceMul, Nat.reduceBEq, Option.getD_none, Int.reduceToNat, Nat.reduceSub, Nat.reduceLT, Nat.reduceLeDiff, Int.reduceLE, Int.reduceLT, reduceCtorEq, hw, hk2, j5, j6, j7, j8, j15, g20, g19, u1, u2, q5, q6, q7, q15, q19, q20, q21, qm, q22, qu, tkm, nl, ml]
                exact ⟨k + 1, by dsimp only; omega, by omega, by simp only [go_sem, ↓reduceIte, Nat.reduceEqDiff, Nat.reduceAdd, Nat.reduceMul, Nat.reduceBEq, Option.getD_none, Int.reduceToNat, Nat.reduceSub, Nat.reduceLT, Nat.reduceLeDiff, Int.reduceLE, Int.reduceLT, reduceCtorEq, j5, j6, j7, j8, j15, g20, g19, u1, u2, q5, q6, q7, q15, q19, q20, q21, qm, q22, qu, tkm, nl, ml], by simp only [go_sem, ↓reduceIte, Nat.reduceEqDiff, Nat.reduceAdd, Nat.reduceMul, Nat.reduceBEq, Option.getD_none, Int.reduceToNat, Nat.reduceSub, Nat.reduceLT, Nat.reduceLeDiff, Int.reduceLE, Int.reduceLT, reduceCtorEq, hss, j5, j6, j7, j8, j15, g20, g19, u1, u2, q5, q6, q7, q15, q19, q20, q21, qm, q22, qu, tkm, nl, ml]⟩
              | true =>
                rw [hk2] at hss
                simp only [go_sem, ↓reduceIte, Nat.reduceEqDiff, Nat.reduceAdd, Nat.reduceMul, Nat.reduceBEq, Option.getD_none, Int.reduceToNat, Nat.reduceSub, Nat.reduceLT, Nat.reduceLeDiff, Int.reduceLE, Int.reduceLT, reduceCtorEq, hw, hk2, j5, j6, j7, j8, j15, g20, g19, u1, u2, q5, q6, q7, q15, q19, q20, q21, qm, q22, qu, tkm, nl, ml]
                exact ⟨k + 1, by dsimp only; omega, by omega, by simp only [go_sem, ↓reduceIte, Nat.reduceEqDiff, Nat.reduceAdd, Nat.reduceMul, Nat.reduceBEq, Option.getD_none, Int.reduceToNat, Nat.reduceSub, Nat.reduceLT, Nat.reduceLeDiff, Int.reduceLE, Int.reduceLT, reduceCtorEq, j5, j6, j7, j8, j15, g20, g19, u1, u2, q5, q6, q7, q15, q19, q20, q21, qm, q22, qu, tkm, nl, ml], by simp only [go_sem, ↓reduceIte, Nat.reduceEqDiff, Nat.reduceAdd, Nat.reduceMul, Nat.reduceBEq, Option.getD_none, Int.reduceToNat, Nat.reduceSub, Nat.reduceLT, Nat.reduceLeDiff, Int.reduceLE, Int.reduceLT, reduceCtorEq, hss, j5, j6, j7, j8, j15, g20, g19, u1, u2, q5, q6, q7, q15, q19, q20, q21, qm, q22, qu, tkm, nl, ml]⟩
            | true =>
              obtain ⟨y1, y2⟩ := f4 hc
              rw [y1] at f7
              rw [hc, Bool.or_true] at hss
              simp only [go_sem, ↓reduceIte, Nat.reduceEqDiff, Nat.reduceAdd, Nat.reduceMul, Nat.reduceBEq, Option.getD_none, Int.reduceToNat, Nat.reduceSub, Nat.reduceLT, Nat.reduceLeDiff, Int.reduceLE, Int.reduceLT, reduceCtorEq, take_map_len, j5, j6, j7, j8, j15, g20, g19, u1, u2, q5, q6, q7, q15, q19, q20, q21, qm, q22, qu, tkm, nl, ml]
              refine fcW_bool f7 ?_
              cases hk2 : someK N c k with
              | false =>
                simp only [go_sem, ↓reduceIte, Nat.reduceEqDiff, Nat.reduceAdd, Nat.reduceMul, Nat.reduceBEq, Option.getD_none, Int.reduceToNat, Nat.reduceSub, Nat.reduceLT, Nat.reduceLeDiff, Int.reduceLE, Int.reduceLT, reduceCtorEq, hw, hk2, j5, j6, j7, j8, j15, g20, g19, u1, u2, q5, q6, q7, q15, q19, q20, q21, qm, q22, qu, tkm, nl, ml]
                exact ⟨k + 1, by dsimp only; omega, by omega, by simp only [go_sem, ↓reduceIte, Nat.reduceEqDiff, Nat.reduceAdd, Nat.reduceMul, Nat.reduceBEq, Option.getD_none, Int.reduceToNat, Nat.reduceSub, Nat.reduceLT, Nat.reduceLeDiff, Int.reduceLE, Int.reduceLT, reduceCtorEq, j5, j6, j7, j8, j15, g20, g19, u1, u2, q5, q6, q7, q15, q19, q20, q21, qm, q22, qu, tkm, nl, ml], by simp only [go_sem, ↓reduceIte, Nat.reduceEqDiff, Nat.reduceAdd, Nat.reduceMul, Nat.reduceBEq, Option.getD_none, Int.reduceToNat, Nat.reduceSub, Nat.reduceLT, Nat.reduceLeDiff, Int.reduceLE, Int.reduceLT, reduceCtorEq, hss, j5, j6, j7, j8, j15, g20, g19, u1, u2, q5, q6, q7, q15, q19, q20, q21, qm, q22, qu, tkm, nl, ml]⟩
              | true =>
                simp only [go_sem, ↓reduceIte, Nat.reduceEqDiff, Nat.reduceAdd, Nat.reduceMul, Nat.reduceBEq, Option.getD_none, Int.reduceToNat, Nat.reduceSub, Nat.reduceLT, Nat.reduceLeDiff, Int.reduceLE, Int.reduceLT, reduceCtorEq, hw, hk2, j5, j6, j7, j8, j15, g20, g19, u1, u2, q5, q6, q7, q15, q19, q20, q21, qm, q22, qu, tkm, nl, ml]
                exact ⟨k + 1, by dsimp only; omega, by omega, by simp only [go_sem, ↓reduceIte, Nat.reduceEqDiff, Nat.reduceAdd, Nat.reduceMul, Nat.reduceBEq, Option.getD_none, Int.reduceToNat, Nat.reduceSub, Nat.reduceLT, Nat.reduceLeDiff, Int.reduceLE, Int.reduceLT, reduceCtorEq, j5, j6, j7, j8, j15, g20, g19, u1, u2, q5, q6, q7, q15, q19, q20, q21, qm, q22, qu, tkm, nl, ml], by simp only [go_sem, ↓reduceIte, Nat.reduceEqDiff, Nat.reduceAdd, Nat.reduceMul, Nat.reduceBEq, Option.getD_none, Int.reduceToNat, Nat.reduceSub, Nat.reduceLT, Nat.reduceLeDiff, Int.reduceLE, Int.reduceLT, reduceCtorEq, hss, j5, j6, j7, j8, j15, g20, g19, u1, u2, q5, q6, q7, q15, q19, q20, q21, qm, q22, qu, tkm, nl, ml]⟩
        · obtain rfl : k = 2 ^ N := by omega
          simp only [go_sem, ↓reduceIte, Nat.reduceEqDiff, Nat.reduceAdd, Nat.reduceMul, Nat.reduceBEq, Option.getD_none, Int.reduceToNat, Nat.reduceSub, Nat.reduceLT, Nat.reduceLeDiff, Int.reduceLE, Int.reduceLT, reduceCtorEq, sh, Int.lt_irrefl, hsk, x2, j5, j6, j7, j8, j15, g20, g19, u1, u2]
      · simp only [go_sem, ↓reduceIte, Nat.reduceEqDiff, Nat.reduceAdd, Nat.reduceMul, Nat.reduceBEq, Option.getD_none, Int.reduceToNat, Nat.reduceSub, Nat.reduceLT, Nat.reduceLeDiff, Int.reduceLE, Int.reduceLT, reduceCtorEq, h8]
  rintro e2 s' M' rfl ho
  have g1 : s' 1 = .dat none (.sl 1 (more.map Ub)) := by rw [ho 1 rfl]; simp only [go_sem, ↓reduceIte, Nat.reduceEqDiff, Nat.reduceAdd, Nat.reduceMul, Nat.reduceBEq, Option.getD_none, Int.reduceToNat, Nat.reduceSub, Nat.reduceLT, Nat.reduceLeDiff, Int.reduceLE, Int.reduceLT, reduceCtorEq]
  clear ho
  simp only [go_sem, ↓reduceIte, Nat.reduceEqDiff, Nat.reduceAdd, Nat.reduceMul, Nat.reduceBEq, Option.getD_none, Int.reduceToNat, Nat.reduceSub, Nat.reduceLT, Nat.reduceLeDiff, Int.reduceLE, Int.reduceLT, reduceCtorEq, take_map_len, g1]
  refine fcW_bd d2 (noRs_t3 rfl noRs_rules noRs_ints) ?_
  simp only [go_sem, ↓reduceIte, Nat.reduceEqDiff, Nat.reduceAdd, Nat.reduceMul, Nat.reduceBEq, Option.getD_none, Int.reduceToNat, Nat.reduceSub, Nat.reduceLT, Nat.reduceLeDiff, Int.reduceLE, Int.reduceLT, reduceCtorEq, take_map_len]
  refine fcW_bd q1 rfl ?_
  simp only [go_sem, ↓reduceIte, Nat.reduceEqDiff, Nat.reduceAdd, Nat.reduceMul, Nat.reduceBEq, Option.getD_none, Int.reduceToNat, Nat.reduceSub, Nat.reduceLT, Nat.reduceLeDiff, Int.reduceLE, Int.reduceLT, reduceCtorEq, take_map_len]
  refine fcW_bd q2 rfl ?_
  simp only [go_sem, ↓reduceIte, Nat.reduceEqDiff, Nat.reduceAdd, Nat.reduceMul, Nat.reduceBEq, Option.getD_none, Int.reduceToNat, Nat.reduceSub, Nat.reduceLT, Nat.reduceLeDiff, Int.reduceLE, Int.reduceLT, reduceCtorEq, x3, x4, x6]; try rfl
end Go.Vm.Ytdebllkmblakkaa
namespace Go.Proofs.Ytdebllkmblakkaa
open Go Go.Vm
theorem least_own : ownKnob Try.prog.godebug = none := by kernel_rfl
theorem least_laid : laidOutB Try.prog = true := by kernel_rfl
set_option maxRecDepth 100000 in
theorem least_lifted (os : Os) (started : os.Started) (H : Type) (enc : TypeId × Value → H) :
    ReturnsInHanded {} Try.checked os 10 .any (Rows.fnLeastSpec.pre6 enc Try.prog Try.f10 Rows.fnLeastRow.domain false) (Rows.fnLeastSpec.post enc Try.prog Try.f10 false true false false) := by
  refine returnsInHanded_of_change_sized (C := Try.checked) least_own started (by kernel_rfl) Try.func10
    (ChangeSpec.witness6 (enc := enc) (C := Try.checked) false ⟨#[], #[.slice none 0 0, .slice none 0 0], []⟩ 8 (by kernel_rfl) (by kernel_rfl) (by kernel_rfl) (by kernel_rfl)) ?_
  intro W base args ds gs before hval hW _ _ _
  refine law_contract (C := Try.checked) (f := 10) [.sl (.int .u8), .sl (.int .u8)] (rt := 4) rfl (by kernel_rfl) rfl (by kernel_rfl) least_laid (fun H ds h => ?_) (fun ds h => ?_) hval hW
  · match ds, h with
    | [_, _], _ => rfl
  · simp only [HasTys] at h
    obtain ⟨d1, ds1, rfl, h1, d2, ds2, rfl, h2, rfl⟩ := h
    obtain ⟨code, rfl, wc, bc⟩ := Vm.Ytdebllkmblakkaa.hasBytes h1
    obtain ⟨more, rfl, wm, bm⟩ := Vm.Ytdebllkmblakkaa.hasBytes h2
    exact Vm.Ytdebllkmblakkaa.laws_FnLeast.fc code more wc wm bc bm
theorem least_over : Rows.fnLeastRow.holds Try.pinned (OpenSpec.ofChange Rows.fnLeastSpec) :=
  OpenClaim.holds_of_wide 10 Try.f10 rfl rfl rfl rfl rfl rfl rfl ⟨rfl, rfl, rfl, rfl, rfl⟩ rfl rfl rfl rfl rfl (by kernel_rfl) Try.func10 (by kernel_rfl)
    (of_decide_eq_true (by kernel_rfl)) (by unfold Func.isWrapper; first | (rw [if_pos (by decide +kernel)]; kernel_rfl) | (rw [if_neg (by decide +kernel)]; exact ⟨rfl, rfl⟩))
    (fun os started H enc _ => least_lifted os started H enc)
/-- The law FnLeast holds as given. -/
theorem least_holds : Rows.FnLeastSaid := least_over
#print axioms least_holds
end Go.Proofs.Ytdebllkmblakkaa
