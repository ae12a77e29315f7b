/- The law FnLeads returns true at all arguments; its row. -/
import Derived.Test.YtdebllkmblakkaaWkb
import Derived.Test.YtdebllkmblakkaaRows
namespace Go.Vm.Ytdebllkmblakkaa
open Go Go.Vm
set_option maxRecDepth 10000
set_option maxHeartbeats 4000000
set_option linter.unusedSimpArgs false
set_option linter.unusedVariables false

theorem laws_FnLeads.fc (code more : List Int) (wc : code.length ≤ 9223372036854775807) (wm : more.length ≤ 9223372036854775807) (bc : ∀ b ∈ code, 0 ≤ b ∧ b ≤ 255) (bm : ∀ b ∈ more, 0 ≤ b ∧ b ≤ 255) :
    FCt prog F_laws_FnLeads [.ro, .ro] [.sl 1 (code.map Ub), .sl 1 (more.map Ub)] (Bb true) [] := by
  obtain ⟨n, l, x, hn, hl, hr, d1⟩ := ld_ex code wc bc
  obtain ⟨m, e, hm, he, hre, d2⟩ := lp_ex more wm bm
  obtain ⟨a, arcs', ha, har, hra, d3⟩ := to_ex more wm bm
  have hr' : ∀ r ∈ l, r.length ≤ 4294967296 := fun r h => by have := hr r h; omega
  have hre' : ∀ r ∈ e, r.length ≤ 4294967296 := fun r h => by have := hre r h; omega
  have hra' : ∀ r ∈ arcs', r.length ≤ 4294967296 := fun r h => by have := hra r h; omega
  have c1 := impl_LeadsTo.fc n l x (by omega) hr'
  have c2 := spec_LeadsTo.fc n l x (by omega) hr'
  have hT := leadV_len (v := n) (l := l) (x := x)
  have hO := ld_is n l x
  have lp := impl_LoopsOf.fc n l (by omega) hr'
  have q1 := impl_LoopsOf.fc m e (by omega) hre'
  have q2 := spec_LoopsOf.fc m e (by omega) hre'
  obtain ⟨hL1, hL2⟩ := loopsD_len (v := m) (l := e)
  have s2 := laws_sameRows.fc (loopsD m e).1 (loopsD m e).1 (by omega) (by omega) (fun r h => by have := hL2 r h; omega) (fun r h => by have := hL2 r h; omega)
  rw [show decide ((loopsD m e).1 = (loopsD m e).1) = true by simp] at s2
  generalize (loopsD m e).1 = LL at q1 q2 s2
  generalize (loopsD m e).2 = lb at q1 q2
  obtain ⟨d, three, hd, hd1, hd2, hd3⟩ := twoOf_is a arcs' (by omega) hra
  have r1 := impl_TwoOf.fc a arcs' (by omega) hra'
  have r2 := spec_TwoOf.fc a arcs' (by omega) hra'
  rw [hd] at r1 r2
  have s3 := laws_sameRows.fc d d (by omega) (by omega) (fun r h => by have := hd2 r h; omega) (fun r h => by have := hd2 r h; omega)
  rw [show decide (d = d) = true by simp] at s3
  have hd2' : ∀ r ∈ d, r.length ≤ 4294967296 := fun r h => by have := hd2 r h; omega
  have s1 := laws_sameInts.fc (leadV n l x).1 (leadV n l x).1 (by omega) (by omega)
  rw [show decide ((leadV n l x).1 = (leadV n l x).1) = true by simp] at s1
  have x1 : ((leadV n l x).2 != (leadV n l x).2) = false := by simp
  have x2 : (lb != lb) = false := by simp
  have x3 : (three != three) = false := by simp
  refine fct_run laws_FnLeads.ok rfl ?_
  simp only [go_sem, ↓reduceIte, Nat.reduceEqDiff, Nat.reduceAdd, Nat.reduceMul, Nat.reduceBEq, Option.getD_none, Int.reduceToNat, Nat.reduceSub, Nat.reduceLT, Nat.reduceLeDiff, Int.reduceLE, Int.reduceLT, reduceCtorEq]
  refine cdW_any (fun hlen => ?_) (fun hlen => ?_)
  · simp only [go_sem, ↓reduceIte, Nat.reduceEqDiff, Nat.reduceAdd, Nat.reduceMul, Nat.reduceBEq, Option.getD_none, Int.reduceToNat, Nat.reduceSub, Nat.reduceLT, Nat.reduceLeDiff, Int.reduceLE, Int.reduceLT, reduceCtorEq]; try rfl
  simp only [go_sem, ↓reduceIte, Nat.reduceEqDiff, Nat.reduceAdd, Nat.reduceMul, Nat.reduceBEq, Option.getD_none, Int.reduceToNat, Nat.reduceSub, Nat.reduceLT, Nat.reduceLeDiff, Int.reduceLE, Int.reduceLT, reduceCtorEq, take_map_len]
  refine fcW_bd d1 (noRs_t3 rfl noRs_intss rfl) ?_
  simp only [go_sem, ↓reduceIte, Nat.reduceEqDiff, Nat.reduceAdd, Nat.reduceMul, Nat.reduceBEq, Option.getD_none, Int.reduceToNat, Nat.reduceSub, Nat.reduceLT, Nat.reduceLeDiff, Int.reduceLE, Int.reduceLT, reduceCtorEq, take_map_len]
  refine fcW_bd c1 (noRs_t2 noRs_ints rfl) ?_
  simp only [go_sem, ↓reduceIte, Nat.reduceEqDiff, Nat.reduceAdd, Nat.reduceMul, Nat.reduceBEq, Option.getD_none, Int.reduceToNat, Nat.reduceSub, Nat.reduceLT, Nat.reduceLeDiff, Int.reduceLE, Int.reduceLT, reduceCtorEq, take_map_len]
  refine fcW_bd c2 (noRs_t2 noRs_ints rfl) ?_
  simp only [go_sem, ↓reduceIte, Nat.reduceEqDiff, Nat.reduceAdd, Nat.reduceMul, Nat.reduceBEq, Option.getD_none, Int.reduceToNat, Nat.reduceSub, Nat.reduceLT, Nat.reduceLeDiff, Int.reduceLE, Int.reduceLT, reduceCtorEq, take_map_len, x1]
  refine fcW_bool s1 ?_
  simp only [go_sem, ↓reduceIte, Nat.reduceEqDiff, Nat.reduceAdd, Nat.reduceMul, Nat.reduceBEq, Option.getD_none, Int.reduceToNat, Nat.reduceSub, Nat.reduceLT, Nat.reduceLeDiff, Int.reduceLE, Int.reduceLT, reduceCtorEq, take_map_len]
  refine cdW_cut (fun e _ _ => e = .n) ?_ ?_
  · cases hok : (leadV n l x).2
    · simp only [go_sem, ↓reduceIte, Nat.reduceEqDiff, Nat.reduceAdd, Nat.reduceMul, Nat.reduceBEq, Option.getD_none, Int.reduceToNat, Nat.reduceSub, Nat.reduceLT, Nat.reduceLeDiff, Int.reduceLE, Int.reduceLT, reduceCtorEq]
    · obtain ⟨N, rfl, n12, back, xx, hlp, hll, hsum, each⟩ := hO hok
      generalize (leadV N l x).1 = T at hT back s1
      rw [hlp] at lp
      simp only [go_sem, ↓reduceIte, Nat.reduceEqDiff, Nat.reduceAdd, Nat.reduceMul, Nat.reduceBEq, Option.getD_none, Int.reduceToNat, Nat.reduceSub, Nat.reduceLT, Nat.reduceLeDiff, Int.reduceLE, Int.reduceLT, reduceCtorEq, take_map_len]
      refine R_cut (fun e s' M' => e = .ex 0) ?_ ?_
      · refine R_loop (α := Nat) (fun k s' M' => k ≤ T.length ∧ s' 77 = aI k) (fun k => T.length - k) 0 ⟨Nat.zero_le _, by simp only [go_sem, ↓reduceIte, Nat.reduceEqDiff, Nat.reduceAdd, Nat.reduceMul, Nat.reduceBEq, Option.getD_none, Int.reduceToNat, Nat.reduceSub, Nat.reduceLT, Nat.reduceLeDiff, Int.reduceLE, Int.reduceLT, reduceCtorEq]; try rfl⟩ ?_
        rintro k s' M' ⟨hk, g77⟩ ho
        unfold laws_FnLeads.b0
        have j5 : s' 5 = aI N := by rw [ho 5 rfl]; simp only [go_sem, ↓reduceIte, Nat.reduceEqDiff, Nat.reduceAdd, Nat.reduceMul, Nat.reduceBEq, Option.getD_none, Int.reduceToNat, Nat.reduceSub, Nat.reduceLT, Nat.reduceLeDiff, Int.reduceLE, Int.reduceLT, reduceCtorEq]
        have j6 : s' 6 = .dat none (intss l) := by rw [ho 6 rfl]; simp only [go_sem, ↓reduceIte, Nat.reduceEqDiff, Nat.reduceAdd, Nat.reduceMul, Nat.reduceBEq, Option.getD_none, Int.reduceToNat, Nat.reduceSub, Nat.reduceLT, Nat.reduceLeDiff, Int.reduceLE, Int.reduceLT, reduceCtorEq]
        have j7 : s' 7 = aI x := by rw [ho 7 rfl]; simp only [go_sem, ↓reduceIte, Nat.reduceEqDiff, Nat.reduceAdd, Nat.reduceMul, Nat.reduceBEq, Option.getD_none, Int.reduceToNat, Nat.reduceSub, Nat.reduceLT, Nat.reduceLeDiff, Int.reduceLE, Int.reduceLT, reduceCtorEq]
        have j75 : s' 75 = .dat none (ints T) := by rw [ho 75 rfl]; simp only [go_sem, ↓reduceIte, Nat.reduceEqDiff, Nat.reduceAdd, Nat.reduceMul, Nat.reduceBEq, Option.getD_none, Int.reduceToNat, Nat.reduceSub, Nat.reduceLT, Nat.reduceLeDiff, Int.reduceLE, Int.reduceLT, reduceCtorEq]
        have j76 : s' 76 = aI T.length := by rw [ho 76 rfl]; simp only [go_sem, ↓reduceIte, Nat.reduceEqDiff, Nat.reduceAdd, Nat.reduceMul, Nat.reduceBEq, Option.getD_none, Int.reduceToNat, Nat.reduceSub, Nat.reduceLT, Nat.reduceLeDiff, Int.reduceLE, Int.reduceLT, reduceCtorEq]
        clear ho
        by_cases hlt : k < T.length
        · have hi' : (k : Int) < T.length := by omega
          have ga : T[k]? = some T[k] := List.getElem?_eq_getElem hlt
          have hw : IntKind.i64.wrap (k + 1) = ((k + 1 : Nat) : Int) := wrap_k hlt (by omega)
          obtain ⟨y0, y1, y2, y3⟩ := back _ (List.getElem_mem hlt)
          generalize T[k] = y at ga y0 y1 y2 y3
          have w1 : IntKind.i64.wrap (0 - y) = -y := by rw [wrap_in (by omega) (by omega)]; omega
          have w2 : IntKind.i64.wrap (0 - x) = -x := by rw [wrap_in (by omega) (by omega)]; omega
          have f1 := impl_LeadsTo.fc N l (-y) (by omega) hr'
          rw [y1] at f1
          dsimp only at f1
          have f2 := laws_has.fc (leadV N l (-y)).1 (-x) (by omega)
          rw [y3] at f2
          simp only [go_sem, ↓reduceIte, Nat.reduceEqDiff, Nat.reduceAdd, Nat.reduceMul, Nat.reduceBEq, Option.getD_none, Int.reduceToNat, Nat.reduceSub, Nat.reduceLT, Nat.reduceLeDiff, Int.reduceLE, Int.reduceLT, reduceCtorEq, hi', ga, w1, j5, j6, j7, j75, j76, g77]
          refine fcW_bd f1 (noRs_t2 noRs_ints rfl) ?_
          simp only [go_sem, ↓reduceIte, Nat.reduceEqDiff, Nat.reduceAdd, Nat.reduceMul, Nat.reduceBEq, Option.getD_none, Int.reduceToNat, Nat.reduceSub, Nat.reduceLT, Nat.reduceLeDiff, Int.reduceLE, Int.reduceLT, reduceCtorEq, take_map_len, w2, j5, j6, j7, j75, j76, g77]
          refine fcW_bool f2 ?_
          simp only [go_sem, ↓reduceIte, Nat.reduceEqDiff, Nat.reduceAdd, Nat.reduceMul, Nat.reduceBEq, Option.getD_none, Int.reduceToNat, Nat.reduceSub, Nat.reduceLT, Nat.reduceLeDiff, Int.reduceLE, Int.reduceLT, reduceCtorEq, hw, j5, j6, j7, j75, j76, g77]
          exact ⟨k + 1, by dsimp only; omega, by omega, by simp only [go_sem, ↓reduceIte, Nat.reduceEqDiff, Nat.reduceAdd, Nat.reduceMul, Nat.reduceBEq, Option.getD_none, Int.reduceToNat, Nat.reduceSub, Nat.reduceLT, Nat.reduceLeDiff, Int.reduceLE, Int.reduceLT, reduceCtorEq, j5, j6, j7, j75, j76, g77]⟩
        · have hi' : ¬ (k : Int) < T.length := by omega
          obtain rfl : k = T.length := by omega
          simp only [go_sem, ↓reduceIte, Nat.reduceEqDiff, Nat.reduceAdd, Nat.reduceMul, Nat.reduceBEq, Option.getD_none, Int.reduceToNat, Nat.reduceSub, Nat.reduceLT, Nat.reduceLeDiff, Int.reduceLE, Int.reduceLT, reduceCtorEq, Int.lt_irrefl, j5, j6, j7, j75, j76, g77]
      · rintro e2 s' M' rfl ho
        have j5 : s' 5 = aI N := by rw [ho 5 rfl]; simp only [go_sem, ↓reduceIte, Nat.reduceEqDiff, Nat.reduceAdd, Nat.reduceMul, Nat.reduceBEq, Option.getD_none, Int.reduceToNat, Nat.reduceSub, Nat.reduceLT, Nat.reduceLeDiff, Int.reduceLE, Int.reduceLT, reduceCtorEq]
        have j6 : s' 6 = .dat none (intss l) := by rw [ho 6 rfl]; simp only [go_sem, ↓reduceIte, Nat.reduceEqDiff, Nat.reduceAdd, Nat.reduceMul, Nat.reduceBEq, Option.getD_none, Int.reduceToNat, Nat.reduceSub, Nat.reduceLT, Nat.reduceLeDiff, Int.reduceLE, Int.reduceLT, reduceCtorEq]
        clear ho
        simp only [go_sem, ↓reduceIte, Nat.reduceEqDiff, Nat.reduceAdd, Nat.reduceMul, Nat.reduceBEq, Option.getD_none, Int.reduceToNat, Nat.reduceSub, Nat.reduceLT, Nat.reduceLeDiff, Int.reduceLE, Int.reduceLT, reduceCtorEq, take_map_len, j5, j6]
        refine fcW_bd lp (noRs_t2 noRs_intss rfl) ?_
        generalize hLL : loopsL N l = R at lp hll hsum each
        simp only [go_sem, ↓reduceIte, Nat.reduceEqDiff, Nat.reduceAdd, Nat.reduceMul, Nat.reduceBEq, Option.getD_none, Int.reduceToNat, Nat.reduceSub, Nat.reduceLT, Nat.reduceLeDiff, Int.reduceLE, Int.reduceLT, reduceCtorEq, take_map_len, j5, j6]
        refine R_cut (fun e s' M' => e = .ex 2 ∧ s' 18 = aI ((2 * N : Nat) : Int)) ?_ ?_
        · refine R_loop (α := Nat) (fun k s' M' => k ≤ R.length ∧ s' 107 = aI k ∧ s' 18 = aI (sumLen R k)) (fun k => R.length - k) 0 ⟨Nat.zero_le _, by simp only [go_sem, ↓reduceIte, Nat.reduceEqDiff, Nat.reduceAdd, Nat.reduceMul, Nat.reduceBEq, Option.getD_none, Int.reduceToNat, Nat.reduceSub, Nat.reduceLT, Nat.reduceLeDiff, Int.reduceLE, Int.reduceLT, reduceCtorEq, j5, j6]; try rfl, by simp only [go_sem, ↓reduceIte, Nat.reduceEqDiff, Nat.reduceAdd, Nat.reduceMul, Nat.reduceBEq, Option.getD_none, Int.reduceToNat, Nat.reduceSub, Nat.reduceLT, Nat.reduceLeDiff, Int.reduceLE, Int.reduceLT, reduceCtorEq, j5, j6]; try rfl⟩ ?_
          rintro k s2 M2 ⟨hk, g107, g18⟩ ho
          unfold laws_FnLeads.b2
          have j5 : s2 5 = aI N := by rw [ho 5 rfl]; simp only [go_sem, ↓reduceIte, Nat.reduceEqDiff, Nat.reduceAdd, Nat.reduceMul, Nat.reduceBEq, Option.getD_none, Int.reduceToNat, Nat.reduceSub, Nat.reduceLT, Nat.reduceLeDiff, Int.reduceLE, Int.reduceLT, reduceCtorEq, j5, j6]
          have j6 : s2 6 = .dat none (intss l) := by rw [ho 6 rfl]; simp only [go_sem, ↓reduceIte, Nat.reduceEqDiff, Nat.reduceAdd, Nat.reduceMul, Nat.reduceBEq, Option.getD_none, Int.reduceToNat, Nat.reduceSub, Nat.reduceLT, Nat.reduceLeDiff, Int.reduceLE, Int.reduceLT, reduceCtorEq, j5, j6]
          have j105 : s2 105 = .dat none (intss R) := by rw [ho 105 rfl]; simp only [go_sem, ↓reduceIte, Nat.reduceEqDiff, Nat.reduceAdd, Nat.reduceMul, Nat.reduceBEq, Option.getD_none, Int.reduceToNat, Nat.reduceSub, Nat.reduceLT, Nat.reduceLeDiff, Int.reduceLE, Int.reduceLT, reduceCtorEq, j5, j6]
          have j106 : s2 106 = aI R.length := by rw [ho 106 rfl]; simp only [go_sem, ↓reduceIte, Nat.reduceEqDiff, Nat.reduceAdd, Nat.reduceMul, Nat.reduceBEq, Option.getD_none, Int.reduceToNat, Nat.reduceSub, Nat.reduceLT, Nat.reduceLeDiff, Int.reduceLE, Int.reduceLT, reduceCtorEq, j5, j6]
          clear ho
          by_cases hlt : k < R.length
          · have hi' : (k : Int) < R.length := by omega
            have ga : R[k]? = some R[k] := List.getElem?_eq_getElem hlt
            have hw : IntKind.i64.wrap (k + 1) = ((k + 1 : Nat) : Int) := wrap_k hlt (by omega)
            have hs := sumLen_succ hlt
            have hse : sumLen R (k + 1) ≤ sumLen R R.length := by
              unfold sumLen
              rw [List.take_length]
              have h1 : R.flatten = (R.take (k + 1)).flatten ++ (R.drop (k + 1)).flatten := by rw [← List.flatten_append, List.take_append_drop]
              rw [h1, List.length_append]; omega
            rw [sumLen_all, hsum] at hse
            obtain ⟨e0, e1, h, e2, e3, e4, e5⟩ := each _ (List.getElem_mem hlt)
            generalize R[k] = r at ga hs e0 e1 e2 e5
            have w1 : IntKind.i64.wrap ((sumLen R k : Int) + r.length) = ((sumLen R (k + 1) : Nat) : Int) := by rw [wrap_in (by omega) (by omega)]; omega
            have f1 := impl_LeadsTo.fc N l h (by omega) hr'
            rw [e3] at f1
            dsimp only at f1
            have l0 : (0 : Int) < r.length := by omega
            simp only [go_sem, ↓reduceIte, Nat.reduceEqDiff, Nat.reduceAdd, Nat.reduceMul, Nat.reduceBEq, Option.getD_none, Int.reduceToNat, Nat.reduceSub, Nat.reduceLT, Nat.reduceLeDiff, Int.reduceLE, Int.reduceLT, reduceCtorEq, hi', ga, w1, j5, j6, j5, j6, j105, j106, g107, g18]
            refine R_cut (fun e s' M' => e = .ex 4) ?_ ?_
            · refine R_loop (α := Nat) (fun i s' M' => i ≤ r.length ∧ s' 117 = aI i) (fun i => r.length - i) 0 ⟨Nat.zero_le _, by simp only [go_sem, ↓reduceIte, Nat.reduceEqDiff, Nat.reduceAdd, Nat.reduceMul, Nat.reduceBEq, Option.getD_none, Int.reduceToNat, Nat.reduceSub, Nat.reduceLT, Nat.reduceLeDiff, Int.reduceLE, Int.reduceLT, reduceCtorEq, j5, j6, j5, j6, j105, j106, g107, g18]; try rfl⟩ ?_
              rintro i s3 M3 ⟨hi, g117⟩ ho
              unfold laws_FnLeads.b1
              have q5 : s3 5 = aI N := by rw [ho 5 rfl]; simp only [go_sem, ↓reduceIte, Nat.reduceEqDiff, Nat.reduceAdd, Nat.reduceMul, Nat.reduceBEq, Option.getD_none, Int.reduceToNat, Nat.reduceSub, Nat.reduceLT, Nat.reduceLeDiff, Int.reduceLE, Int.reduceLT, reduceCtorEq, j5, j6, j5, j6, j105, j106, g107, g18]
              have q6 : s3 6 = .dat none (intss l) := by rw [ho 6 rfl]; simp only [go_sem, ↓reduceIte, Nat.reduceEqDiff, Nat.reduceAdd, Nat.reduceMul, Nat.reduceBEq, Option.getD_none, Int.reduceToNat, Nat.reduceSub, Nat.reduceLT, Nat.reduceLeDiff, Int.reduceLE, Int.reduceLT, reduceCtorEq, j5, j6, j5, j6, j105, j106, g107, g18]
              have q20 : s3 20 = .dat none (ints r) := by rw [ho 20 rfl]; simp only [go_sem, ↓reduceIte, Nat.reduceEqDiff, Nat.reduceAdd, Nat.reduceMul, Nat.reduceBEq, Option.getD_none, Int.reduceToNat, Nat.reduceSub, Nat.reduceLT, Nat.reduceLeDiff, Int.reduceLE, Int.reduceLT, reduceCtorEq, j5, j6, j5, j6, j105, j106, g107, g18]
              have q115 : s3 115 = .dat none (ints r) := by rw [ho 115 rfl]; simp only [go_sem, ↓reduceIte, Nat.reduceEqDiff, Nat.reduceAdd, Nat.reduceMul, Nat.reduceBEq, Option.getD_none, Int.reduceToNat, Nat.reduceSub, Nat.reduceLT, Nat.reduceLeDiff, Int.reduceLE, Int.reduceLT, reduceCtorEq, j5, j6, j5, j6, j105, j106, g107, g18]
              have q116 : s3 116 = aI r.length := by rw [ho 116 rfl]; simp only [go_sem, ↓reduceIte, Nat.reduceEqDiff, Nat.reduceAdd, Nat.reduceMul, Nat.reduceBEq, Option.getD_none, Int.reduceToNat, Nat.reduceSub, Nat.reduceLT, Nat.reduceLeDiff, Int.reduceLE, Int.reduceLT, reduceCtorEq, j5, j6, j5, j6, j105, j106, g107, g18]
              clear ho
              by_cases hl3 : i < r.length
              · have hi2 : (i : Int) < r.length := by omega
                have gb : r[i]? = some r[i] := List.getElem?_eq_getElem hl3
                have hw2 : IntKind.i64.wrap (i + 1) = ((i + 1 : Nat) : Int) := wrap_k hl3 (by omega)
                have e6 := e5 _ (List.getElem_mem hl3)
                have f2 := laws_has.fc (leadV N l h).1 r[i] (by omega)
                rw [e6] at f2
                generalize r[i] = y at gb f2
                simp only [go_sem, ↓reduceIte, Nat.reduceEqDiff, Nat.reduceAdd, Nat.reduceMul, Nat.reduceBEq, Option.getD_none, Int.reduceToNat, Nat.reduceSub, Nat.reduceLT, Nat.reduceLeDiff, Int.reduceLE, Int.reduceLT, reduceCtorEq, hi2, gb, e2, l0, j5, j6, j5, j6, j105, j106, g107, g18, q5, q6, q20, q115, q116, g117]
                refine fcW_bd f1 (noRs_t2 noRs_ints rfl) ?_
                simp only [go_sem, ↓reduceIte, Nat.reduceEqDiff, Nat.reduceAdd, Nat.reduceMul, Nat.reduceBEq, Option.getD_none, Int.reduceToNat, Nat.reduceSub, Nat.reduceLT, Nat.reduceLeDiff, Int.reduceLE, Int.reduceLT, reduceCtorEq, take_map_len, j5, j6, j5, j6, j105, j106, g107, g18, q5, q6, q20, q115, q116, g117]
                refine fcW_bool f2 ?_
                simp only [go_sem, ↓reduceIte, Nat.reduceEqDiff, Nat.reduceAdd, Nat.reduceMul, Nat.reduceBEq, Option.getD_none, Int.reduceToNat, Nat.reduceSub, Nat.reduceLT, Nat.reduceLeDiff, Int.reduceLE, Int.reduceLT, reduceCtorEq, hw2, j5, j6, j5, j6, j105, j106, g107, g18, q5, q6, q20, q115, q116, g117]
                exact ⟨i + 1, by dsimp only; omega, by omega, by simp only [go_sem, ↓reduceIte, Nat.reduceEqDiff, Nat.reduceAdd, Nat.reduceMul, Nat.reduceBEq, Option.getD_none, Int.reduceToNat, Nat.reduceSub, Nat.reduceLT, Nat.reduceLeDiff, Int.reduceLE, Int.reduceLT, reduceCtorEq, j5, j6, j5, j6, j105, j106, g107, g18, q5, q6, q20, q115, q116, g117]⟩
              · obtain rfl : i = r.length := by omega
                simp only [go_sem, ↓reduceIte, Nat.reduceEqDiff, Nat.reduceAdd, Nat.reduceMul, Nat.reduceBEq, Option.getD_none, Int.reduceToNat, Nat.reduceSub, Nat.reduceLT, Nat.reduceLeDiff, Int.reduceLE, Int.reduceLT, reduceCtorEq, Int.lt_irrefl, j5, j6, j5, j6, j105, j106, g107, g18, q5, q6, q20, q115, q116, g117]
            · rintro e3 s3 M3 rfl ho
              have q18 : s3 18 = aI ((sumLen R (k + 1) : Nat) : Int) := by rw [ho 18 rfl]; simp only [go_sem, ↓reduceIte, Nat.reduceEqDiff, Nat.reduceAdd, Nat.reduceMul, Nat.reduceBEq, Option.getD_none, Int.reduceToNat, Nat.reduceSub, Nat.reduceLT, Nat.reduceLeDiff, Int.reduceLE, Int.reduceLT, reduceCtorEq, j5, j6, j5, j6, j105, j106, g107, g18]
              have q107 : s3 107 = aI k := by rw [ho 107 rfl]; simp only [go_sem, ↓reduceIte, Nat.reduceEqDiff, Nat.reduceAdd, Nat.reduceMul, Nat.reduceBEq, Option.getD_none, Int.reduceToNat, Nat.reduceSub, Nat.reduceLT, Nat.reduceLeDiff, Int.reduceLE, Int.reduceLT, reduceCtorEq, j5, j6, j5, j6, j105, j106, g107, g18]
              clear ho
              simp only [go_sem, ↓reduceIte, Nat.reduceEqDiff, Nat.reduceAdd, Nat.reduceMul, Nat.reduceBEq, Option.getD_none, Int.reduceToNat, Nat.reduceSub, Nat.reduceLT, Nat.reduceLeDiff, Int.reduceLE, Int.reduceLT, reduceCtorEq, hw, j5, j6, j5, j6, j105, j106, g107, g18, q18, q107]
              exact ⟨k + 1, by dsimp only; omega, by omega, by simp only [go_sem, ↓reduceIte, Nat.reduceEqDiff, Nat.reduceAdd, Nat.reduceMul, Nat.reduceBEq, Option.getD_none, Int.reduceToNat, Nat.reduceSub, Nat.reduceLT, Nat.reduceLeDiff, Int.reduceLE, Int.reduceLT, reduceCtorEq, j5, j6, j5, j6, j105, j106, g107, g18, q18, q107], by simp only [go_sem, ↓reduceIte, Nat.reduceEqDiff, Nat.reduceAdd, Nat.reduceMul, Nat.reduceBEq, Option.getD_none, Int.reduceToNat, Nat.reduceSub, Nat.reduceLT, Nat.reduceLeDiff, Int.reduceLE, Int.reduceLT, reduceCtorEq, j5, j6, j5, j6, j105, j106, g107, g18, q18, q107]⟩
          · have hi' : ¬ (k : Int) < R.length := by omega
            obtain rfl : k = R.length := by omega
            have : sumLen R R.length = 2 * N := by rw [sumLen_all, hsum]
            rw [this] at g18
            simp only [go_sem, ↓reduceIte, Nat.reduceEqDiff, Nat.reduceAdd, Nat.reduceMul, Nat.reduceBEq, Option.getD_none, Int.reduceToNat, Nat.reduceSub, Nat.reduceLT, Nat.reduceLeDiff, Int.reduceLE, Int.reduceLT, reduceCtorEq, Int.lt_irrefl, j5, j6, j5, j6, j105, j106, g107, g18]
        · rintro e3 s2 M2 ⟨rfl, g18⟩ ho
          have j5 : s2 5 = aI N := by rw [ho 5 rfl]; simp only [go_sem, ↓reduceIte, Nat.reduceEqDiff, Nat.reduceAdd, Nat.reduceMul, Nat.reduceBEq, Option.getD_none, Int.reduceToNat, Nat.reduceSub, Nat.reduceLT, Nat.reduceLeDiff, Int.reduceLE, Int.reduceLT, reduceCtorEq, j5, j6]
          have j17 : s2 17 = aB true := by rw [ho 17 rfl]; simp only [go_sem, ↓reduceIte, Nat.reduceEqDiff, Nat.reduceAdd, Nat.reduceMul, Nat.reduceBEq, Option.getD_none, Int.reduceToNat, Nat.reduceSub, Nat.reduceLT, Nat.reduceLeDiff, Int.reduceLE, Int.reduceLT, reduceCtorEq, j5, j6]
          clear ho
          have w1 : IntKind.i64.wrap (2 * (N : Int)) = ((2 * N : Nat) : Int) := by rw [wrap_in (by omega) (by omega)]; omega
          have w2 : (((2 * N : Nat) : Int) != ((2 * N : Nat) : Int)) = false := by simp
          simp only [go_sem, ↓reduceIte, Nat.reduceEqDiff, Nat.reduceAdd, Nat.reduceMul, Nat.reduceBEq, Option.getD_none, Int.reduceToNat, Nat.reduceSub, Nat.reduceLT, Nat.reduceLeDiff, Int.reduceLE, Int.reduceLT, reduceCtorEq, g18, w1, w2, j5, j6, j5, j17]
  rintro e2 s' M' rfl ho
  have g1 : s' 1 = .dat none (.sl 1 (more.map Ub)) := by rw [ho 1 rfl]; simp only [go_sem, ↓reduceIte, Nat.reduceEqDiff, Nat.reduceAdd, Nat.reduceMul, Nat.reduceBEq, Option.getD_none, Int.reduceToNat, Nat.reduceSub, Nat.reduceLT, Nat.reduceLeDiff, Int.reduceLE, Int.reduceLT, reduceCtorEq]
  clear ho
  simp only [go_sem, ↓reduceIte, Nat.reduceEqDiff, Nat.reduceAdd, Nat.reduceMul, Nat.reduceBEq, Option.getD_none, Int.reduceToNat, Nat.reduceSub, Nat.reduceLT, Nat.reduceLeDiff, Int.reduceLE, Int.reduceLT, reduceCtorEq, take_map_len, g1]
  refine fcW_bd d2 (noRs_t2 rfl noRs_intss) ?_
  simp only [go_sem, ↓reduceIte, Nat.reduceEqDiff, Nat.reduceAdd, Nat.reduceMul, Nat.reduceBEq, Option.getD_none, Int.reduceToNat, Nat.reduceSub, Nat.reduceLT, Nat.reduceLeDiff, Int.reduceLE, Int.reduceLT, reduceCtorEq, take_map_len]
  refine fcW_bd q1 (noRs_t2 noRs_intss rfl) ?_
  simp only [go_sem, ↓reduceIte, Nat.reduceEqDiff, Nat.reduceAdd, Nat.reduceMul, Nat.reduceBEq, Option.getD_none, Int.reduceToNat, Nat.reduceSub, Nat.reduceLT, Nat.reduceLeDiff, Int.reduceLE, Int.reduceLT, reduceCtorEq, take_map_len]
  refine fcW_bd q2 (noRs_t2 noRs_intss rfl) ?_
  simp only [go_sem, ↓reduceIte, Nat.reduceEqDiff, Nat.reduceAdd, Nat.reduceMul, Nat.reduceBEq, Option.getD_none, Int.reduceToNat, Nat.reduceSub, Nat.reduceLT, Nat.reduceLeDiff, Int.reduceLE, Int.reduceLT, reduceCtorEq, take_map_len, g1]
  refine fcW_bdc d3 ?_
  simp only [go_sem, ↓reduceIte, Nat.reduceEqDiff, Nat.reduceAdd, Nat.reduceMul, Nat.reduceBEq, Option.getD_none, Int.reduceToNat, Nat.reduceSub, Nat.reduceLT, Nat.reduceLeDiff, Int.reduceLE, Int.reduceLT, reduceCtorEq, take_map_len]
  refine fcW_bd r1 (noRs_t2 noRs_intss rfl) ?_
  simp only [go_sem, ↓reduceIte, Nat.reduceEqDiff, Nat.reduceAdd, Nat.reduceMul, Nat.reduceBEq, Option.getD_none, Int.reduceToNat, Nat.reduceSub, Nat.reduceLT, Nat.reduceLeDiff, Int.reduceLE, Int.reduceLT, reduceCtorEq, take_map_len]
  refine fcW_bd r2 (noRs_t2 noRs_intss rfl) ?_
  simp only [go_sem, ↓reduceIte, Nat.reduceEqDiff, Nat.reduceAdd, Nat.reduceMul, Nat.reduceBEq, Option.getD_none, Int.reduceToNat, Nat.reduceSub, Nat.reduceLT, Nat.reduceLeDiff, Int.reduceLE, Int.reduceLT, reduceCtorEq, take_map_len, x2]
  refine fcW_bool s2 ?_
  simp only [go_sem, ↓reduceIte, Nat.reduceEqDiff, Nat.reduceAdd, Nat.reduceMul, Nat.reduceBEq, Option.getD_none, Int.reduceToNat, Nat.reduceSub, Nat.reduceLT, Nat.reduceLeDiff, Int.reduceLE, Int.reduceLT, reduceCtorEq, take_map_len, x3]
  refine fcW_bool s3 ?_
  by_cases h3 : three = true ∧ a > 0 ∧ 0 < arcs'.length
  · obtain ⟨rfl, h4, h5⟩ := h3
    obtain ⟨p, q, k1, k2, k3, k4⟩ := hd3 rfl h5
    have f1 := impl_LeadsTo.fc a d p (by omega) hd2'
    rw [k2] at f1
    dsimp only at f1
    have f2 := laws_has.fc (leadV a d p).1 q (by omega)
    rw [k3] at f2
    have h5' : (arcs'.length : Int) > 0 := by omega
    have h6 : (0 : Int) < arcs'.length := by omega
    have z1 : (0 : Int) < ((2 : Nat) : Int) := by decide
    have z2 : (1 : Int) < ((2 : Nat) : Int) := by decide
    simp only [go_sem, ↓reduceIte, Nat.reduceEqDiff, Nat.reduceAdd, Nat.reduceMul, Nat.reduceBEq, Option.getD_none, Int.reduceToNat, Nat.reduceSub, Nat.reduceLT, Nat.reduceLeDiff, Int.reduceLE, Int.reduceLT, reduceCtorEq, take_map_len, h4, h5', h6, k1, z1, z2]
    refine fcW_bd f1 (noRs_t2 noRs_ints rfl) ?_
    simp only [go_sem, ↓reduceIte, Nat.reduceEqDiff, Nat.reduceAdd, Nat.reduceMul, Nat.reduceBEq, Option.getD_none, Int.reduceToNat, Nat.reduceSub, Nat.reduceLT, Nat.reduceLeDiff, Int.reduceLE, Int.reduceLT, reduceCtorEq, take_map_len, h6, k1, z1, z2]
    refine fcW_bool f2 ?_
    simp only [go_sem, ↓reduceIte, Nat.reduceEqDiff, Nat.reduceAdd, Nat.reduceMul, Nat.reduceBEq, Option.getD_none, Int.reduceToNat, Nat.reduceSub, Nat.reduceLT, Nat.reduceLeDiff, Int.reduceLE, Int.reduceLT, reduceCtorEq]; try rfl
  · cases three with
    | false => simp only [go_sem, ↓reduceIte, Nat.reduceEqDiff, Nat.reduceAdd, Nat.reduceMul, Nat.reduceBEq, Option.getD_none, Int.reduceToNat, Nat.reduceSub, Nat.reduceLT, Nat.reduceLeDiff, Int.reduceLE, Int.reduceLT, reduceCtorEq, take_map_len]; try rfl
    | true =>
      by_cases h4 : a > 0
      · have h5 : ¬ (arcs'.length : Int) > 0 := fun h => h3 ⟨rfl, h4, by omega⟩
        simp only [go_sem, ↓reduceIte, Nat.reduceEqDiff, Nat.reduceAdd, Nat.reduceMul, Nat.reduceBEq, Option.getD_none, Int.reduceToNat, Nat.reduceSub, Nat.reduceLT, Nat.reduceLeDiff, Int.reduceLE, Int.reduceLT, reduceCtorEq, take_map_len, h4, h5]; try rfl
      · simp only [go_sem, ↓reduceIte, Nat.reduceEqDiff, Nat.reduceAdd, Nat.reduceMul, Nat.reduceBEq, Option.getD_none, Int.reduceToNat, Nat.reduceSub, Nat.reduceLT, Nat.reduceLeDiff, Int.reduceLE, Int.reduceLT, reduceCtorEq, take_map_len, h4]; try rfl
end Go.Vm.Ytdebllkmblakkaa
namespace Go.Proofs.Ytdebllkmblakkaa
open Go Go.Vm
theorem leads_own : ownKnob Try.prog.godebug = none := by kernel_rfl
theorem leads_laid : laidOutB Try.prog = true := by kernel_rfl
set_option maxRecDepth 100000 in
theorem leads_lifted (os : Os) (started : os.Started) (H : Type) (enc : TypeId × Value → H) :
    ReturnsInHanded {} Try.checked os 8 .any (Rows.fnLeadsSpec.pre6 enc Try.prog Try.f8 Rows.fnLeadsRow.domain false) (Rows.fnLeadsSpec.post enc Try.prog Try.f8 false true false false) := by
  refine returnsInHanded_of_change_sized (C := Try.checked) leads_own started (by kernel_rfl) Try.func8
    (ChangeSpec.witness6 (enc := enc) (C := Try.checked) false ⟨#[], #[.slice none 0 0, .slice none 0 0], []⟩ 8 (by kernel_rfl) (by kernel_rfl) (by kernel_rfl) (by kernel_rfl)) ?_
  intro W base args ds gs before hval hW _ _ _
  refine law_contract (C := Try.checked) (f := 8) [.sl (.int .u8), .sl (.int .u8)] (rt := 4) rfl (by kernel_rfl) rfl (by kernel_rfl) leads_laid (fun H ds h => ?_) (fun ds h => ?_) hval hW
  · match ds, h with
    | [_, _], _ => rfl
  · simp only [HasTys] at h
    obtain ⟨d1, ds1, rfl, h1, d2, ds2, rfl, h2, rfl⟩ := h
    obtain ⟨code, rfl, wc, bc⟩ := Vm.Ytdebllkmblakkaa.hasBytes h1
    obtain ⟨more, rfl, wm, bm⟩ := Vm.Ytdebllkmblakkaa.hasBytes h2
    exact Vm.Ytdebllkmblakkaa.laws_FnLeads.fc code more wc wm bc bm
theorem leads_over : Rows.fnLeadsRow.holds Try.pinned (OpenSpec.ofChange Rows.fnLeadsSpec) :=
  OpenClaim.holds_of_wide 8 Try.f8 rfl rfl rfl rfl rfl rfl rfl ⟨rfl, rfl, rfl, rfl, rfl⟩ rfl rfl rfl rfl rfl (by kernel_rfl) Try.func8 (by kernel_rfl)
    (of_decide_eq_true (by kernel_rfl)) (by unfold Func.isWrapper; first | (rw [if_pos (by decide +kernel)]; kernel_rfl) | (rw [if_neg (by decide +kernel)]; exact ⟨rfl, rfl⟩))
    (fun os started H enc _ => leads_lifted os started H enc)
/-- The law FnLeads holds as given. -/
theorem leads_holds : Rows.FnLeadsSaid := leads_over
#print axioms leads_holds
end Go.Proofs.Ytdebllkmblakkaa
