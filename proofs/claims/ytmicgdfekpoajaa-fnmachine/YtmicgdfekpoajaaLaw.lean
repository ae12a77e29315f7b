/- The law FnMachine returns true at all arguments; its row. -/
import Derived.Test.YtmicgdfekpoajaaWkb
import Derived.Test.YtmicgdfekpoajaaRows
namespace Go.Vm.Ytmicgdfekpoajaa
open Go Go.Vm
set_option maxRecDepth 10000
set_option maxHeartbeats 4000000
set_option linter.unusedSimpArgs false
set_option linter.unusedVariables false

/-- the machine of the law, in its box -/
def BoxM (s : Nat → AV) (M : Mem) (m : MachD) : Prop := ∃ n v1 v2 v3 bv, (n = 3328 ∨ n = 7424) ∧ s 13 = .ptr 3392 bv 0 none ∧
  M.m 3392 = some (.box bv (.agg [aI m.pc, .sl n v1 0 m.regs.length 1, .sl (n + 1) v2 0 m.cells.length 1, .sl (n + 2) v3 0 m.isset.length 1])) ∧
  M.m n = some (.arr v1 true 1 (m.regs.map Ii)) ∧ M.m (n + 1) = some (.arr v2 true 1 (m.cells.map Ii)) ∧ M.m (n + 2) = some (.arr v3 true 1 (m.isset.map Bb))
theorem laws_FnMachine.fc (code more : List Int) (wc : code.length ≤ 9223372036854775807) (wm : more.length ≤ 9223372036854775807) (bc : ∀ b ∈ code, 0 ≤ b ∧ b ≤ 255) (bm : ∀ b ∈ more, 0 ≤ b ∧ b ≤ 255) :
    FCt prog F_laws_FnMachine [.ro, .ro] [.sl 1 (code.map Ub), .sl 1 (more.map Ub)] (Bb true) [] := by
  obtain ⟨p, ctx, pl, cl, d1⟩ := tr_ex code wc bc
  obtain ⟨q, c, g, ql, cql, d2⟩ := rp_ex more wm bm
  have c1 := impl_TraceOf.fc p ctx (by omega) (by omega)
  have c2 := spec_TraceOf.fc p ctx (by omega) (by omega)
  have c3 := impl_RunProgram.fcq p ctx 100 (by omega) (by omega)
  have c4 := impl_FaultFree.fc p ctx (by omega) (by omega)
  have q1 := impl_RunProgram.fcq q c g (by omega) (by omega)
  have q2 := spec_RunProgram.fcq q c g (by omega) (by omega)
  unfold runQD at q1 q2 c3
  generalize runQV q c g = Q at q1 q2
  obtain ⟨Q0, Q1, Q2, Q3⟩ := Q
  have hO : (traceV p ctx).2.2 = true → MaOk p ctx (runP p ctx 100).1 (runP p ctx 100).2.1 (runP p ctx 100).2.2.1 (runP p ctx 100).2.2.2 ∧ CtxOk ctx ∧ goodP p = true ∧ ctxB ctx = true ∧ traceV p ctx = ((runP p ctx 100).2.2.2, (runP p ctx 100).2.1, true) ∧ runQV p ctx 100 = ((runP p ctx 100).1, (runP p ctx 100).2.1, (runP p ctx 100).2.2.1, true) := by
    intro h
    have hc : (goodP p && ctxB ctx) = true := by
      cases hq : (goodP p && ctxB ctx) with
      | true => rfl
      | false => unfold traceV at h; rw [hq] at h; cases h
    have hT : traceV p ctx = ((runP p ctx 100).2.2.2, (runP p ctx 100).2.1, true) := by unfold traceV; rw [hc]; rfl
    have hR : runQV p ctx 100 = ((runP p ctx 100).1, (runP p ctx 100).2.1, (runP p ctx 100).2.2.1, true) := by unfold runQV; rw [hc]; rfl
    rw [Bool.and_eq_true] at hc
    exact ⟨ma_is hc.1 hc.2 (ctx_ok hc.2), ctx_ok hc.2, hc.1, hc.2, hT, hR⟩
  have tl : (traceV p ctx).1.length ≤ 4294967296 := by
    cases h : (traceV p ctx).2.2 with
    | true =>
      obtain ⟨m1, _, _, _, m2, _⟩ := hO h
      rw [m2]
      have := m1.few; have := m1.p20
      dsimp only; omega
    | false =>
      unfold traceV at h ⊢
      split
      · rename_i hc; rw [if_pos hc] at h; cases h
      · simp
  have s1 := laws_sameInts.fc (traceV p ctx).1 (traceV p ctx).1 tl tl
  rw [show decide ((traceV p ctx).1 = (traceV p ctx).1) = true by simp] at s1
  unfold traceD at c1 c2
  generalize traceV p ctx = T at c1 c2 c4 hO tl s1
  obtain ⟨t, f, ok⟩ := T
  dsimp only at c1 c2 c4 hO tl s1
  have x1 : (ok != ok) = false := by simp
  have x2 : (f != f) = false := by simp
  have x3 : (Q0 == Q0) = true := by simp
  have x4 : (Q1 == Q1) = true := by simp
  have x5 : (Q2 == Q2) = true := by simp
  have x6 : (Q3 == Q3) = true := by simp
  have x7 : (true != false) = true := rfl
  refine fct_run laws_FnMachine.ok rfl ?_
  simp only [go_sem, ↓reduceIte, Nat.reduceEqDiff, Nat.reduceAdd, Nat.reduceMul, Nat.reduceBEq, Option.getD_none, Int.reduceToNat, Nat.reduceSub, Nat.reduceLT, Nat.reduceLeDiff, Int.reduceLE, Int.reduceLT, reduceCtorEq]
  refine cdW_any (fun hlen => ?_) (fun hlen => ?_)
  · simp only [go_sem, ↓reduceIte, Nat.reduceEqDiff, Nat.reduceAdd, Nat.reduceMul, Nat.reduceBEq, Option.getD_none, Int.reduceToNat, Nat.reduceSub, Nat.reduceLT, Nat.reduceLeDiff, Int.reduceLE, Int.reduceLT, reduceCtorEq]; try rfl
  simp only [go_sem, ↓reduceIte, Nat.reduceEqDiff, Nat.reduceAdd, Nat.reduceMul, Nat.reduceBEq, Option.getD_none, Int.reduceToNat, Nat.reduceSub, Nat.reduceLT, Nat.reduceLeDiff, Int.reduceLE, Int.reduceLT, reduceCtorEq, take_map_len]
  refine fcW_bd d1 (noRs_t2 noRs_steps noRs_ints) ?_
  simp only [go_sem, ↓reduceIte, Nat.reduceEqDiff, Nat.reduceAdd, Nat.reduceMul, Nat.reduceBEq, Option.getD_none, Int.reduceToNat, Nat.reduceSub, Nat.reduceLT, Nat.reduceLeDiff, Int.reduceLE, Int.reduceLT, reduceCtorEq, take_map_len]
  refine fcW_bd c1 (noRs_t3 noRs_ints rfl rfl) ?_
  simp only [go_sem, ↓reduceIte, Nat.reduceEqDiff, Nat.reduceAdd, Nat.reduceMul, Nat.reduceBEq, Option.getD_none, Int.reduceToNat, Nat.reduceSub, Nat.reduceLT, Nat.reduceLeDiff, Int.reduceLE, Int.reduceLT, reduceCtorEq, take_map_len]
  refine fcW_bd c2 (noRs_t3 noRs_ints rfl rfl) ?_
  simp only [go_sem, ↓reduceIte, Nat.reduceEqDiff, Nat.reduceAdd, Nat.reduceMul, Nat.reduceBEq, Option.getD_none, Int.reduceToNat, Nat.reduceSub, Nat.reduceLT, Nat.reduceLeDiff, Int.reduceLE, Int.reduceLT, reduceCtorEq, take_map_len, x1, x2]
  refine fcW_bool s1 ?_
  simp only [go_sem, ↓reduceIte, Nat.reduceEqDiff, Nat.reduceAdd, Nat.reduceMul, Nat.reduceBEq, Option.getD_none, Int.reduceToNat, Nat.reduceSub, Nat.reduceLT, Nat.reduceLeDiff, Int.reduceLE, Int.reduceLT, reduceCtorEq, take_map_len]
  refine cdW_cut (fun e _ _ => e = .n) ?_ ?_
  · cases ok
    · simp only [go_sem, ↓reduceIte, Nat.reduceEqDiff, Nat.reduceAdd, Nat.reduceMul, Nat.reduceBEq, Option.getD_none, Int.reduceToNat, Nat.reduceSub, Nat.reduceLT, Nat.reduceLeDiff, Int.reduceLE, Int.reduceLT, reduceCtorEq]
    · obtain ⟨hM, hC, hg, hcb, hT, hR⟩ := hO rfl
      rw [hR] at c3
      dsimp only at c3
      cases hT
      generalize (runP p ctx 100).1 = r at hM c3
      generalize (runP p ctx 100).2.1 = f at hM c3 c4 x2
      generalize (runP p ctx 100).2.2.1 = at' at hM c3
      generalize (runP p ctx 100).2.2.2 = t at hM tl s1
      obtain ⟨few, p20, f3, hat⟩ := hM
      have n1 : ¬ (t.length : Int) > p.length := by omega
      have n2 : (f == 4) = false := by simp; omega
      have n3 : ((f == 0) != (f == 0)) = false := by simp
      simp only [go_sem, ↓reduceIte, Nat.reduceEqDiff, Nat.reduceAdd, Nat.reduceMul, Nat.reduceBEq, Option.getD_none, Int.reduceToNat, Nat.reduceSub, Nat.reduceLT, Nat.reduceLeDiff, Int.reduceLE, Int.reduceLT, reduceCtorEq, take_map_len]
      refine fcW_bd impl_NewMachine.fc noRs_Machine ?_
      simp only [go_sem, ↓reduceIte, Nat.reduceEqDiff, Nat.reduceAdd, Nat.reduceMul, Nat.reduceBEq, Option.getD_none, Int.reduceToNat, Nat.reduceSub, Nat.reduceLT, Nat.reduceLeDiff, Int.reduceLE, Int.reduceLT, reduceCtorEq, take_map_len]
      refine fcW_bd c3 rfl ?_
      simp only [go_sem, ↓reduceIte, Nat.reduceEqDiff, Nat.reduceAdd, Nat.reduceMul, Nat.reduceBEq, Option.getD_none, Int.reduceToNat, Nat.reduceSub, Nat.reduceLT, Nat.reduceLeDiff, Int.reduceLE, Int.reduceLT, reduceCtorEq, take_map_len]
      refine fcW_bd c4 rfl ?_
      simp only [go_sem, ↓reduceIte, Nat.reduceEqDiff, Nat.reduceAdd, Nat.reduceMul, Nat.reduceBEq, Option.getD_none, Int.reduceToNat, Nat.reduceSub, Nat.reduceLT, Nat.reduceLeDiff, Int.reduceLE, Int.reduceLT, reduceCtorEq, take_map_len, x2, n1, n2, n3]
      refine R_loop (α := Nat) (fun i s' M' => i ≤ t.length ∧ s' 123 = aI i ∧ (i < t.length → BoxM s' M' (machK p ctx i)) ∧ ∃ bv x, s' 13 = .ptr 3392 bv 0 none ∧ M'.m 3392 = some (.box bv x)) (fun i => t.length - i) 0
        ⟨Nat.zero_le _, by simp only [go_sem, ↓reduceIte, Nat.reduceEqDiff, Nat.reduceAdd, Nat.reduceMul, Nat.reduceBEq, Option.getD_none, Int.reduceToNat, Nat.reduceSub, Nat.reduceLT, Nat.reduceLeDiff, Int.reduceLE, Int.reduceLT, reduceCtorEq]; try rfl, fun _ => ⟨3328, _, _, _, _, .inl rfl, by simp only [go_sem, ↓reduceIte, Nat.reduceEqDiff, Nat.reduceAdd, Nat.reduceMul, Nat.reduceBEq, Option.getD_none, Int.reduceToNat, Nat.reduceSub, Nat.reduceLT, Nat.reduceLeDiff, Int.reduceLE, Int.reduceLT, reduceCtorEq]; rfl, by simp only [go_sem, ↓reduceIte, Nat.reduceEqDiff, Nat.reduceAdd, Nat.reduceMul, Nat.reduceBEq, Option.getD_none, Int.reduceToNat, Nat.reduceSub, Nat.reduceLT, Nat.reduceLeDiff, Int.reduceLE, Int.reduceLT, reduceCtorEq]; rfl, by simp only [go_sem, ↓reduceIte, Nat.reduceEqDiff, Nat.reduceAdd, Nat.reduceMul, Nat.reduceBEq, Option.getD_none, Int.reduceToNat, Nat.reduceSub, Nat.reduceLT, Nat.reduceLeDiff, Int.reduceLE, Int.reduceLT, reduceCtorEq]; rfl, by simp only [go_sem, ↓reduceIte, Nat.reduceEqDiff, Nat.reduceAdd, Nat.reduceMul, Nat.reduceBEq, Option.getD_none, Int.reduceToNat, Nat.reduceSub, Nat.reduceLT, Nat.reduceLeDiff, Int.reduceLE, Int.reduceLT, reduceCtorEq]; rfl, by simp only [go_sem, ↓reduceIte, Nat.reduceEqDiff, Nat.reduceAdd, Nat.reduceMul, Nat.reduceBEq, Option.getD_none, Int.reduceToNat, Nat.reduceSub, Nat.reduceLT, Nat.reduceLeDiff, Int.reduceLE, Int.reduceLT, reduceCtorEq]; rfl⟩, _, _, by simp only [go_sem, ↓reduceIte, Nat.reduceEqDiff, Nat.reduceAdd, Nat.reduceMul, Nat.reduceBEq, Option.getD_none, Int.reduceToNat, Nat.reduceSub, Nat.reduceLT, Nat.reduceLeDiff, Int.reduceLE, Int.reduceLT, reduceCtorEq]; rfl, by simp only [go_sem, ↓reduceIte, Nat.reduceEqDiff, Nat.reduceAdd, Nat.reduceMul, Nat.reduceBEq, Option.getD_none, Int.reduceToNat, Nat.reduceSub, Nat.reduceLT, Nat.reduceLeDiff, Int.reduceLE, Int.reduceLT, reduceCtorEq]; rfl⟩ ?_
      rintro i s2 M2 ⟨hi, g123, hB, -⟩ ho
      unfold laws_FnMachine.b0
      have j5 : s2 5 = .dat none (steps p) := by rw [ho 5 rfl]; simp only [go_sem, ↓reduceIte, Nat.reduceEqDiff, Nat.reduceAdd, Nat.reduceMul, Nat.reduceBEq, Option.getD_none, Int.reduceToNat, Nat.reduceSub, Nat.reduceLT, Nat.reduceLeDiff, Int.reduceLE, Int.reduceLT, reduceCtorEq]
      have j6 : s2 6 = .dat none (ints ctx) := by rw [ho 6 rfl]; simp only [go_sem, ↓reduceIte, Nat.reduceEqDiff, Nat.reduceAdd, Nat.reduceMul, Nat.reduceBEq, Option.getD_none, Int.reduceToNat, Nat.reduceSub, Nat.reduceLT, Nat.reduceLeDiff, Int.reduceLE, Int.reduceLT, reduceCtorEq]
      have j7 : s2 7 = .dat none (ints t) := by rw [ho 7 rfl]; simp only [go_sem, ↓reduceIte, Nat.reduceEqDiff, Nat.reduceAdd, Nat.reduceMul, Nat.reduceBEq, Option.getD_none, Int.reduceToNat, Nat.reduceSub, Nat.reduceLT, Nat.reduceLeDiff, Int.reduceLE, Int.reduceLT, reduceCtorEq]
      have j14 : s2 14 = aI r := by rw [ho 14 rfl]; simp only [go_sem, ↓reduceIte, Nat.reduceEqDiff, Nat.reduceAdd, Nat.reduceMul, Nat.reduceBEq, Option.getD_none, Int.reduceToNat, Nat.reduceSub, Nat.reduceLT, Nat.reduceLeDiff, Int.reduceLE, Int.reduceLT, reduceCtorEq]
      have j15 : s2 15 = aI f := by rw [ho 15 rfl]; simp only [go_sem, ↓reduceIte, Nat.reduceEqDiff, Nat.reduceAdd, Nat.reduceMul, Nat.reduceBEq, Option.getD_none, Int.reduceToNat, Nat.reduceSub, Nat.reduceLT, Nat.reduceLeDiff, Int.reduceLE, Int.reduceLT, reduceCtorEq]
      have j16 : s2 16 = aI at' := by rw [ho 16 rfl]; simp only [go_sem, ↓reduceIte, Nat.reduceEqDiff, Nat.reduceAdd, Nat.reduceMul, Nat.reduceBEq, Option.getD_none, Int.reduceToNat, Nat.reduceSub, Nat.reduceLT, Nat.reduceLeDiff, Int.reduceLE, Int.reduceLT, reduceCtorEq]
      have j121 : s2 121 = .dat none (ints t) := by rw [ho 121 rfl]; simp only [go_sem, ↓reduceIte, Nat.reduceEqDiff, Nat.reduceAdd, Nat.reduceMul, Nat.reduceBEq, Option.getD_none, Int.reduceToNat, Nat.reduceSub, Nat.reduceLT, Nat.reduceLeDiff, Int.reduceLE, Int.reduceLT, reduceCtorEq]
      have j122 : s2 122 = aI t.length := by rw [ho 122 rfl]; simp only [go_sem, ↓reduceIte, Nat.reduceEqDiff, Nat.reduceAdd, Nat.reduceMul, Nat.reduceBEq, Option.getD_none, Int.reduceToNat, Nat.reduceSub, Nat.reduceLT, Nat.reduceLeDiff, Int.reduceLE, Int.reduceLT, reduceCtorEq]
      clear ho
      by_cases hlt : i < t.length
      · have hi' : (i : Int) < t.length := by omega
        have ga : t[i]? = some (t.getD i 0) := getD_some hlt
        have hw : IntKind.i64.wrap ((i : Int) + 1) = ((i + 1 : Nat) : Int) := wrap_k hlt (by omega)
        have hw1 : IntKind.i64.wrap ((t.length : Int) - 1) = (t.length : Int) - 1 := wrap_in (by omega) (by omega)
        obtain ⟨am, apc, aeq, amid, alast⟩ := hat i hlt
        have hms : machK p ctx (i + 1) = (stepAt p ctx (machK p ctx i)).1 := rfl
        have hwm : wMachine (machK p ctx i) ≤ 4194304 := by
          have l1 := am.regs; have l2 := am.cells; have l3 := am.isset
          unfold wMachine
          omega
        have f1 := impl_DoStep.fc p ctx (machK p ctx i) (by omega) (by omega) hwm
        have hdo : doOk p ctx (machK p ctx i) = true := by unfold doOk; rw [hg, hcb, mach_good am, decide_eq_true apc]; rfl
        obtain ⟨n, v1, v2, v3, bv, hn, g13, gb, gr, gc, gs⟩ := hB hlt
        have l1 := am.regs
        have l2 := am.cells
        have l3 := am.isset
        have k1 : (machK p ctx (i + 1)).regs.length = (stepAt p ctx (machK p ctx i)).1.regs.length := by rw [hms]
        unfold doStepV at f1
        rw [if_pos hdo] at f1
        generalize hmi : machK p ctx i = m at *
        generalize hst : stepAt p ctx m = S at *
        obtain ⟨x, fl, en⟩ := S
        dsimp only at f1 amid alast hms
        have aeq' : (m.pc != t.getD i 0) = false := by rw [aeq]; simp
        have z0 : ¬ (0 : Int) > 0 := by decide
        have tm := fun (n : Nat) (l : List Int) (h : l.length = n) => tk_I (n := n) (l := l) h
        have hx : x = machK p ctx (i + 1) := hms.symm
        by_cases hmid : i + 1 < t.length
        · obtain ⟨rfl, rfl⟩ := amid hmid
          have b0 : ((0 : Int) == 0) = true := rfl
          rw [if_pos b0] at f1
          unfold doStepD at f1
          dsimp only at f1
          have lst : ((i : Int) == (t.length : Int) - 1) = false := by simp; omega
          have am2 := (hat (i + 1) hmid).ok
          rw [← hx] at am2
          have r1 := am2.regs
          have r2 := am2.cells
          have r3 := am2.isset
          rcases hn with rfl | rfl <;> simp only [Nat.reduceAdd] at gb gc gs
          · have hz := hi'
            simp only [go_sem, ↓reduceIte, Nat.reduceEqDiff, Nat.reduceAdd, Nat.reduceMul, Nat.reduceBEq, Option.getD_none, Int.reduceToNat, Nat.reduceSub, Nat.reduceLT, Nat.reduceLeDiff, Int.reduceLE, Int.reduceLT, reduceCtorEq, hi', ga, take_map_len, j5, j6, j7, j14, j15, j16, j121, j122, g123, g13, gb, gr, gc, gs]
            refine fcW_bd f1 (noRs_t4 noRs_Machine rfl rfl rfl) ?_
            simp only [go_sem, ↓reduceIte, Nat.reduceEqDiff, Nat.reduceAdd, Nat.reduceMul, Nat.reduceBEq, Option.getD_none, Int.reduceToNat, Nat.reduceSub, Nat.reduceLT, Nat.reduceLeDiff, Int.reduceLE, Int.reduceLT, reduceCtorEq, hw1, lst, aeq', z0, hw, j5, j6, j7, j14, j15, j16, j121, j122, g123, g13, gb, gr, gc, gs]
            refine ⟨i + 1, by dsimp only; omega, by omega, by simp only [go_sem, ↓reduceIte, Nat.reduceEqDiff, Nat.reduceAdd, Nat.reduceMul, Nat.reduceBEq, Option.getD_none, Int.reduceToNat, Nat.reduceSub, Nat.reduceLT, Nat.reduceLeDiff, Int.reduceLE, Int.reduceLT, reduceCtorEq, j5, j6, j7, j14, j15, j16, j121, j122, g123, g13, gb, gr, gc, gs], fun _ => ?_, _, _, by simp only [go_sem, ↓reduceIte, Nat.reduceEqDiff, Nat.reduceAdd, Nat.reduceMul, Nat.reduceBEq, Option.getD_none, Int.reduceToNat, Nat.reduceSub, Nat.reduceLT, Nat.reduceLeDiff, Int.reduceLE, Int.reduceLT, reduceCtorEq, j5, j6, j7, j14, j15, j16, j121, j122, g123, g13, gb, gr, gc, gs]; rfl, by simp only [go_sem, ↓reduceIte, Nat.reduceEqDiff, Nat.reduceAdd, Nat.reduceMul, Nat.reduceBEq, Option.getD_none, Int.reduceToNat, Nat.reduceSub, Nat.reduceLT, Nat.reduceLeDiff, Int.reduceLE, Int.reduceLT, reduceCtorEq, j5, j6, j7, j14, j15, j16, j121, j122, g123, g13, gb, gr, gc, gs]; rfl⟩
            rw [← hx]
            exact ⟨7424, _, _, _, _, .inr rfl, by simp only [go_sem, ↓reduceIte, Nat.reduceEqDiff, Nat.reduceAdd, Nat.reduceMul, Nat.reduceBEq, Option.getD_none, Int.reduceToNat, Nat.reduceSub, Nat.reduceLT, Nat.reduceLeDiff, Int.reduceLE, Int.reduceLT, reduceCtorEq, j5, j6, j7, j14, j15, j16, j121, j122, g123, g13, gb, gr, gc, gs]; try rfl, by simp only [go_sem, ↓reduceIte, Nat.reduceEqDiff, Nat.reduceAdd, Nat.reduceMul, Nat.reduceBEq, Option.getD_none, Int.reduceToNat, Nat.reduceSub, Nat.reduceLT, Nat.reduceLeDiff, Int.reduceLE, Int.reduceLT, reduceCtorEq, r1, r2, r3, j5, j6, j7, j14, j15, j16, j121, j122, g123, g13, gb, gr, gc, gs]; try rfl, by simp only [go_sem, ↓reduceIte, Nat.reduceEqDiff, Nat.reduceAdd, Nat.reduceMul, Nat.reduceBEq, Option.getD_none, Int.reduceToNat, Nat.reduceSub, Nat.reduceLT, Nat.reduceLeDiff, Int.reduceLE, Int.reduceLT, reduceCtorEq, j5, j6, j7, j14, j15, j16, j121, j122, g123, g13, gb, gr, gc, gs]; try rfl, by simp only [go_sem, ↓reduceIte, Nat.reduceEqDiff, Nat.reduceAdd, Nat.reduceMul, Nat.reduceBEq, Option.getD_none, Int.reduceToNat, Nat.reduceSub, Nat.reduceLT, Nat.reduceLeDiff, Int.reduceLE, Int.reduceLT, reduceCtorEq, j5, j6, j7, j14, j15, j16, j121, j122, g123, g13, gb, gr, gc, gs]; try rfl, by simp only [go_sem, ↓reduceIte, Nat.reduceEqDiff, Nat.reduceAdd, Nat.reduceMul, Nat.reduceBEq, Option.getD_none, Int.reduceToNat, Nat.reduceSub, Nat.reduceLT, Nat.reduceLeDiff, Int.reduceLE, Int.reduceLT, reduceCtorEq, j5, j6, j7, j14, j15, j16, j121, j122, g123, g13, gb, gr, gc, gs]; try rfl⟩
          · have hz := hi'
            simp only [go_sem, ↓reduceIte, Nat.reduceEqDiff, Nat.reduceAdd, Nat.reduceMul, Nat.reduceBEq, Option.getD_none, Int.reduceToNat, Nat.reduceSub, Nat.reduceLT, Nat.reduceLeDiff, Int.reduceLE, Int.reduceLT, reduceCtorEq, hi', ga, take_map_len, j5, j6, j7, j14, j15, j16, j121, j122, g123, g13, gb, gr, gc, gs]
            refine fcW_bd f1 (noRs_t4 noRs_Machine rfl rfl rfl) ?_
            simp only [go_sem, ↓reduceIte, Nat.reduceEqDiff, Nat.reduceAdd, Nat.reduceMul, Nat.reduceBEq, Option.getD_none, Int.reduceToNat, Nat.reduceSub, Nat.reduceLT, Nat.reduceLeDiff, Int.reduceLE, Int.reduceLT, reduceCtorEq, hw1, lst, aeq', z0, hw, j5, j6, j7, j14, j15, j16, j121, j122, g123, g13, gb, gr, gc, gs]
            refine ⟨i + 1, by dsimp only; omega, by omega, by simp only [go_sem, ↓reduceIte, Nat.reduceEqDiff, Nat.reduceAdd, Nat.reduceMul, Nat.reduceBEq, Option.getD_none, Int.reduceToNat, Nat.reduceSub, Nat.reduceLT, Nat.reduceLeDiff, Int.reduceLE, Int.reduceLT, reduceCtorEq, j5, j6, j7, j14, j15, j16, j121, j122, g123, g13, gb, gr, gc, gs], fun _ => ?_, _, _, by simp only [go_sem, ↓reduceIte, Nat.reduceEqDiff, Nat.reduceAdd, Nat.reduceMul, Nat.reduceBEq, Option.getD_none, Int.reduceToNat, Nat.reduceSub, Nat.reduceLT, Nat.reduceLeDiff, Int.reduceLE, Int.reduceLT, reduceCtorEq, j5, j6, j7, j14, j15, j16, j121, j122, g123, g13, gb, gr, gc, gs]; rfl, by simp only [go_sem, ↓reduceIte, Nat.reduceEqDiff, Nat.reduceAdd, Nat.reduceMul, Nat.reduceBEq, Option.getD_none, Int.reduceToNat, Nat.reduceSub, Nat.reduceLT, Nat.reduceLeDiff, Int.reduceLE, Int.reduceLT, reduceCtorEq, j5, j6, j7, j14, j15, j16, j121, j122, g123, g13, gb, gr, gc, gs]; rfl⟩
            rw [← hx]
            exact ⟨7424, _, _, _, _, .inr rfl, by simp only [go_sem, ↓reduceIte, Nat.reduceEqDiff, Nat.reduceAdd, Nat.reduceMul, Nat.reduceBEq, Option.getD_none, Int.reduceToNat, Nat.reduceSub, Nat.reduceLT, Nat.reduceLeDiff, Int.reduceLE, Int.reduceLT, reduceCtorEq, j5, j6, j7, j14, j15, j16, j121, j122, g123, g13, gb, gr, gc, gs]; try rfl, by simp only [go_sem, ↓reduceIte, Nat.reduceEqDiff, Nat.reduceAdd, Nat.reduceMul, Nat.reduceBEq, Option.getD_none, Int.reduceToNat, Nat.reduceSub, Nat.reduceLT, Nat.reduceLeDiff, Int.reduceLE, Int.reduceLT, reduceCtorEq, r1, r2, r3, j5, j6, j7, j14, j15, j16, j121, j122, g123, g13, gb, gr, gc, gs]; try rfl, by simp only [go_sem, ↓reduceIte, Nat.reduceEqDiff, Nat.reduceAdd, Nat.reduceMul, Nat.reduceBEq, Option.getD_none, Int.reduceToNat, Nat.reduceSub, Nat.reduceLT, Nat.reduceLeDiff, Int.reduceLE, Int.reduceLT, reduceCtorEq, j5, j6, j7, j14, j15, j16, j121, j122, g123, g13, gb, gr, gc, gs]; try rfl, by simp only [go_sem, ↓reduceIte, Nat.reduceEqDiff, Nat.reduceAdd, Nat.reduceMul, Nat.reduceBEq, Option.getD_none, Int.reduceToNat, Nat.reduceSub, Nat.reduceLT, Nat.reduceLeDiff, Int.reduceLE, Int.reduceLT, reduceCtorEq, j5, j6, j7, j14, j15, j16, j121, j122, g123, g13, gb, gr, gc, gs]; try rfl, by simp only [go_sem, ↓reduceIte, Nat.reduceEqDiff, Nat.reduceAdd, Nat.reduceMul, Nat.reduceBEq, Option.getD_none, Int.reduceToNat, Nat.reduceSub, Nat.reduceLT, Nat.reduceLeDiff, Int.reduceLE, Int.reduceLT, reduceCtorEq, j5, j6, j7, j14, j15, j16, j121, j122, g123, g13, gb, gr, gc, gs]; try rfl⟩
        · have hl : i + 1 = t.length := by omega
          have lst : ((i : Int) == (t.length : Int) - 1) = true := by simp; omega
          rcases alast hl with ⟨rfl, rfl, rfl, hr⟩ | ⟨hf, hfe, hae⟩
          · have b0 : ((0 : Int) == 0) = true := rfl
            rw [if_pos b0] at f1
            unfold doStepD at f1
            dsimp only at f1
            have r1 : x.regs.length = 6 := by
              have hk := step_keeps (prog_ok hg) hC am apc
              rw [hst] at hk
              exact hk.ok.regs
            have gx : x.regs[0]? = some r := by
              rw [hr]
              exact getD_some (by omega)
            have rr : (r != r) = false := by simp
            have z6 : (0 : Int) < ((6 : Nat) : Int) := by decide
            have z60 : (0 : Int) ≤ 0 := by decide
            have z61 : (((6 : Nat) : Int) == 0) = false := rfl
            rcases hn with rfl | rfl <;> simp only [Nat.reduceAdd] at gb gc gs
            · have hz := hi'
              simp only [go_sem, ↓reduceIte, Nat.reduceEqDiff, Nat.reduceAdd, Nat.reduceMul, Nat.reduceBEq, Option.getD_none, Int.reduceToNat, Nat.reduceSub, Nat.reduceLT, Nat.reduceLeDiff, Int.reduceLE, Int.reduceLT, reduceCtorEq, hi', ga, take_map_len, j5, j6, j7, j14, j15, j16, j121, j122, g123, g13, gb, gr, gc, gs]
              refine fcW_bd f1 (noRs_t4 noRs_Machine rfl rfl rfl) ?_
              simp only [go_sem, ↓reduceIte, Nat.reduceEqDiff, Nat.reduceAdd, Nat.reduceMul, Nat.reduceBEq, Option.getD_none, Int.reduceToNat, Nat.reduceSub, Nat.reduceLT, Nat.reduceLeDiff, Int.reduceLE, Int.reduceLT, reduceCtorEq, hw1, lst, aeq', z0, hw, r1, gx, rr, z6, z60, z61, j5, j6, j7, j14, j15, j16, j121, j122, g123, g13, gb, gr, gc, gs]
              exact ⟨i + 1, by dsimp only; omega, by omega, by simp only [go_sem, ↓reduceIte, Nat.reduceEqDiff, Nat.reduceAdd, Nat.reduceMul, Nat.reduceBEq, Option.getD_none, Int.reduceToNat, Nat.reduceSub, Nat.reduceLT, Nat.reduceLeDiff, Int.reduceLE, Int.reduceLT, reduceCtorEq, j5, j6, j7, j14, j15, j16, j121, j122, g123, g13, gb, gr, gc, gs], fun h => by omega, _, _, by simp only [go_sem, ↓reduceIte, Nat.reduceEqDiff, Nat.reduceAdd, Nat.reduceMul, Nat.reduceBEq, Option.getD_none, Int.reduceToNat, Nat.reduceSub, Nat.reduceLT, Nat.reduceLeDiff, Int.reduceLE, Int.reduceLT, reduceCtorEq, j5, j6, j7, j14, j15, j16, j121, j122, g123, g13, gb, gr, gc, gs]; rfl, by simp only [go_sem, ↓reduceIte, Nat.reduceEqDiff, Nat.reduceAdd, Nat.reduceMul, Nat.reduceBEq, Option.getD_none, Int.reduceToNat, Nat.reduceSub, Nat.reduceLT, Nat.reduceLeDiff, Int.reduceLE, Int.reduceLT, reduceCtorEq, j5, j6, j7, j14, j15, j16, j121, j122, g123, g13, gb, gr, gc, gs]; rfl⟩
            · have hz := hi'
              simp only [go_sem, ↓reduceIte, Nat.reduceEqDiff, Nat.reduceAdd, Nat.reduceMul, Nat.reduceBEq, Option.getD_none, Int.reduceToNat, Nat.reduceSub, Nat.reduceLT, Nat.reduceLeDiff, Int.reduceLE, Int.reduceLT, reduceCtorEq, hi', ga, take_map_len, j5, j6, j7, j14, j15, j16, j121, j122, g123, g13, gb, gr, gc, gs]
              refine fcW_bd f1 (noRs_t4 noRs_Machine rfl rfl rfl) ?_
              simp only [go_sem, ↓reduceIte, Nat.reduceEqDiff, Nat.reduceAdd, Nat.reduceMul, Nat.reduceBEq, Option.getD_none, Int.reduceToNat, Nat.reduceSub, Nat.reduceLT, Nat.reduceLeDiff, Int.reduceLE, Int.reduceLT, reduceCtorEq, hw1, lst, aeq', z0, hw, r1, gx, rr, z6, z60, z61, j5, j6, j7, j14, j15, j16, j121, j122, g123, g13, gb, gr, gc, gs]
              exact ⟨i + 1, by dsimp only; omega, by omega, by simp only [go_sem, ↓reduceIte, Nat.reduceEqDiff, Nat.reduceAdd, Nat.reduceMul, Nat.reduceBEq, Option.getD_none, Int.reduceToNat, Nat.reduceSub, Nat.reduceLT, Nat.reduceLeDiff, Int.reduceLE, Int.reduceLT, reduceCtorEq, j5, j6, j7, j14, j15, j16, j121, j122, g123, g13, gb, gr, gc, gs], fun h => by omega, _, _, by simp only [go_sem, ↓reduceIte, Nat.reduceEqDiff, Nat.reduceAdd, Nat.reduceMul, Nat.reduceBEq, Option.getD_none, Int.reduceToNat, Nat.reduceSub, Nat.reduceLT, Nat.reduceLeDiff, Int.reduceLE, Int.reduceLT, reduceCtorEq, j5, j6, j7, j14, j15, j16, j121, j122, g123, g13, gb, gr, gc, gs]; rfl, by simp only [go_sem, ↓reduceIte, Nat.reduceEqDiff, Nat.reduceAdd, Nat.reduceMul, Nat.reduceBEq, Option.getD_none, Int.reduceToNat, Nat.reduceSub, Nat.reduceLT, Nat.reduceLeDiff, Int.reduceLE, Int.reduceLT, reduceCtorEq, j5, j6, j7, j14, j15, j16, j121, j122, g123, g13, gb, gr, gc, gs]; rfl⟩
          · have b0 : ¬ (fl == 0) = true := by simp; omega
            rw [if_neg b0] at f1
            unfold doStepD at f1
            dsimp only at f1
            have b1 : (f == 0) = false := by simp; omega
            have b2 : fl > 0 := hf
            have b5 : f > 0 := by omega
            have b3 : (fl != f) = false := by rw [hfe]; simp
            have b4 : (at' != t.getD i 0) = false := by rw [hae, aeq]; simp
            rcases hn with rfl | rfl <;> simp only [Nat.reduceAdd] at gb gc gs
            · have hz := hi'
              simp only [go_sem, ↓reduceIte, Nat.reduceEqDiff, Nat.reduceAdd, Nat.reduceMul, Nat.reduceBEq, Option.getD_none, Int.reduceToNat, Nat.reduceSub, Nat.reduceLT, Nat.reduceLeDiff, Int.reduceLE, Int.reduceLT, reduceCtorEq, hi', ga, take_map_len, j5, j6, j7, j14, j15, j16, j121, j122, g123, g13, gb, gr, gc, gs]
              refine fcW_bd f1 (noRs_t4 noRs_Machine rfl rfl rfl) ?_
              simp only [go_sem, ↓reduceIte, Nat.reduceEqDiff, Nat.reduceAdd, Nat.reduceMul, Nat.reduceBEq, Option.getD_none, Int.reduceToNat, Nat.reduceSub, Nat.reduceLT, Nat.reduceLeDiff, Int.reduceLE, Int.reduceLT, reduceCtorEq, hw1, lst, aeq', hw, b1, b2, b3, b4, b5, j5, j6, j7, j14, j15, j16, j121, j122, g123, g13, gb, gr, gc, gs]
              exact ⟨i + 1, by dsimp only; omega, by omega, by simp only [go_sem, ↓reduceIte, Nat.reduceEqDiff, Nat.reduceAdd, Nat.reduceMul, Nat.reduceBEq, Option.getD_none, Int.reduceToNat, Nat.reduceSub, Nat.reduceLT, Nat.reduceLeDiff, Int.reduceLE, Int.reduceLT, reduceCtorEq, j5, j6, j7, j14, j15, j16, j121, j122, g123, g13, gb, gr, gc, gs], fun h => by omega, _, _, by simp only [go_sem, ↓reduceIte, Nat.reduceEqDiff, Nat.reduceAdd, Nat.reduceMul, Nat.reduceBEq, Option.getD_none, Int.reduceToNat, Nat.reduceSub, Nat.reduceLT, Nat.reduceLeDiff, Int.reduceLE, Int.reduceLT, reduceCtorEq, j5, j6, j7, j14, j15, j16, j121, j122, g123, g13, gb, gr, gc, gs]; rfl, by simp only [go_sem, ↓reduceIte, Nat.reduceEqDiff, Nat.reduceAdd, Nat.reduceMul, Nat.reduceBEq, Option.getD_none, Int.reduceToNat, Nat.reduceSub, Nat.reduceLT, Nat.reduceLeDiff, Int.reduceLE, Int.reduceLT, reduceCtorEq, j5, j6, j7, j14, j15, j16, j121, j122, g123, g13, gb, gr, gc, gs]; rfl⟩
            · have hz := hi'
              simp only [go_sem, ↓reduceIte, Nat.reduceEqDiff, Nat.reduceAdd, Nat.reduceMul, Nat.reduceBEq, Option.getD_none, Int.reduceToNat, Nat.reduceSub, Nat.reduceLT, Nat.reduceLeDiff, Int.reduceLE, Int.reduceLT, reduceCtorEq, hi', ga, take_map_len, j5, j6, j7, j14, j15, j16, j121, j122, g123, g13, gb, gr, gc, gs]
              refine fcW_bd f1 (noRs_t4 noRs_Machine rfl rfl rfl) ?_
              simp only [go_sem, ↓reduceIte, Nat.reduceEqDiff, Nat.reduceAdd, Nat.reduceMul, Nat.reduceBEq, Option.getD_none, Int.reduceToNat, Nat.reduceSub, Nat.reduceLT, Nat.reduceLeDiff, Int.reduceLE, Int.reduceLT, reduceCtorEq, hw1, lst, aeq', hw, b1, b2, b3, b4, b5, j5, j6, j7, j14, j15, j16, j121, j122, g123, g13, gb, gr, gc, gs]
              exact ⟨i + 1, by dsimp only; omega, by omega, by simp only [go_sem, ↓reduceIte, Nat.reduceEqDiff, Nat.reduceAdd, Nat.reduceMul, Nat.reduceBEq, Option.getD_none, Int.reduceToNat, Nat.reduceSub, Nat.reduceLT, Nat.reduceLeDiff, Int.reduceLE, Int.reduceLT, reduceCtorEq, j5, j6, j7, j14, j15, j16, j121, j122, g123, g13, gb, gr, gc, gs], fun h => by omega, _, _, by simp only [go_sem, ↓reduceIte, Nat.reduceEqDiff, Nat.reduceAdd, Nat.reduceMul, Nat.reduceBEq, Option.getD_none, Int.reduceToNat, Nat.reduceSub, Nat.reduceLT, Nat.reduceLeDiff, Int.reduceLE, Int.reduceLT, reduceCtorEq, j5, j6, j7, j14, j15, j16, j121, j122, g123, g13, gb, gr, gc, gs]; rfl, by simp only [go_sem, ↓reduceIte, Nat.reduceEqDiff, Nat.reduceAdd, Nat.reduceMul, Nat.reduceBEq, Option.getD_none, Int.reduceToNat, Nat.reduceSub, Nat.reduceLT, Nat.reduceLeDiff, Int.reduceLE, Int.reduceLT, reduceCtorEq, j5, j6, j7, j14, j15, j16, j121, j122, g123, g13, gb, gr, gc, gs]; rfl⟩
      · obtain rfl : i = t.length := by omega
        simp only [go_sem, ↓reduceIte, Nat.reduceEqDiff, Nat.reduceAdd, Nat.reduceMul, Nat.reduceBEq, Option.getD_none, Int.reduceToNat, Nat.reduceSub, Nat.reduceLT, Nat.reduceLeDiff, Int.reduceLE, Int.reduceLT, reduceCtorEq, Int.lt_irrefl, j5, j6, j7, j14, j15, j16, j121, j122, g123]
  rintro e2 s' M' rfl ho
  have g1 : s' 1 = .dat none (.sl 1 (more.map Ub)) := by rw [ho 1 rfl]; simp only [go_sem, ↓reduceIte, Nat.reduceEqDiff, Nat.reduceAdd, Nat.reduceMul, Nat.reduceBEq, Option.getD_none, Int.reduceToNat, Nat.reduceSub, Nat.reduceLT, Nat.reduceLeDiff, Int.reduceLE, Int.reduceLT, reduceCtorEq]
  clear ho
  simp only [go_sem, ↓reduceIte, Nat.reduceEqDiff, Nat.reduceAdd, Nat.reduceMul, Nat.reduceBEq, Option.getD_none, Int.reduceToNat, Nat.reduceSub, Nat.reduceLT, Nat.reduceLeDiff, Int.reduceLE, Int.reduceLT, reduceCtorEq, take_map_len, g1]
  refine fcW_bd d2 (noRs_t3 noRs_steps noRs_ints rfl) ?_
  simp only [go_sem, ↓reduceIte, Nat.reduceEqDiff, Nat.reduceAdd, Nat.reduceMul, Nat.reduceBEq, Option.getD_none, Int.reduceToNat, Nat.reduceSub, Nat.reduceLT, Nat.reduceLeDiff, Int.reduceLE, Int.reduceLT, reduceCtorEq, take_map_len]
  refine fcW_bd q1 rfl ?_
  simp only [go_sem, ↓reduceIte, Nat.reduceEqDiff, Nat.reduceAdd, Nat.reduceMul, Nat.reduceBEq, Option.getD_none, Int.reduceToNat, Nat.reduceSub, Nat.reduceLT, Nat.reduceLeDiff, Int.reduceLE, Int.reduceLT, reduceCtorEq, take_map_len]
  refine fcW_bd q2 rfl ?_
  simp only [go_sem, ↓reduceIte, Nat.reduceEqDiff, Nat.reduceAdd, Nat.reduceMul, Nat.reduceBEq, Option.getD_none, Int.reduceToNat, Nat.reduceSub, Nat.reduceLT, Nat.reduceLeDiff, Int.reduceLE, Int.reduceLT, reduceCtorEq, x3, x4, x5, x6, x7]; try rfl
end Go.Vm.Ytmicgdfekpoajaa
namespace Go.Proofs.Ytmicgdfekpoajaa
open Go Go.Vm
theorem machine_own : ownKnob Try.prog.godebug = none := by kernel_rfl
theorem machine_laid : laidOutB Try.prog = true := by kernel_rfl
set_option maxRecDepth 100000 in
theorem machine_lifted (os : Os) (started : os.Started) (H : Type) (enc : TypeId × Value → H) :
    ReturnsInHanded {} Try.checked os 12 .any (Rows.fnMachineSpec.pre6 enc Try.prog Try.f12 Rows.fnMachineRow.domain false) (Rows.fnMachineSpec.post enc Try.prog Try.f12 false true false false) := by
  refine returnsInHanded_of_change_sized (C := Try.checked) machine_own started (by kernel_rfl) Try.func12
    (ChangeSpec.witness6 (enc := enc) (C := Try.checked) false ⟨#[], #[.slice none 0 0, .slice none 0 0], []⟩ 8 (by kernel_rfl) (by kernel_rfl) (by kernel_rfl) (by kernel_rfl)) ?_
  intro W base args ds gs before hval hW _ _ _
  refine law_contract (C := Try.checked) (f := 12) [.sl (.int .u8), .sl (.int .u8)] (rt := 4) rfl (by kernel_rfl) rfl (by kernel_rfl) machine_laid (fun H ds h => ?_) (fun ds h => ?_) hval hW
  · match ds, h with
    | [_, _], _ => rfl
  · simp only [HasTys] at h
    obtain ⟨d1, ds1, rfl, h1, d2, ds2, rfl, h2, rfl⟩ := h
    obtain ⟨code, rfl, wc, bc⟩ := Vm.Ytmicgdfekpoajaa.hasBytes h1
    obtain ⟨more, rfl, wm, bm⟩ := Vm.Ytmicgdfekpoajaa.hasBytes h2
    exact Vm.Ytmicgdfekpoajaa.laws_FnMachine.fc code more wc wm bc bm
theorem machine_over : Rows.fnMachineRow.holds Try.pinned (OpenSpec.ofChange Rows.fnMachineSpec) :=
  OpenClaim.holds_of_wide 12 Try.f12 rfl rfl rfl rfl rfl rfl rfl ⟨rfl, rfl, rfl, rfl, rfl⟩ rfl rfl rfl rfl rfl (by kernel_rfl) Try.func12 (by kernel_rfl)
    (of_decide_eq_true (by kernel_rfl)) (by unfold Func.isWrapper; first | (rw [if_pos (by decide +kernel)]; kernel_rfl) | (rw [if_neg (by decide +kernel)]; exact ⟨rfl, rfl⟩))
    (fun os started H enc _ => machine_lifted os started H enc)
/-- The law FnMachine holds as given. -/
theorem machine_holds : Rows.FnMachineSaid := machine_over
#print axioms machine_holds
end Go.Proofs.Ytmicgdfekpoajaa
