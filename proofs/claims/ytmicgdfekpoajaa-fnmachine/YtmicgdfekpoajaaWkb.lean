/- What the functions that the law reaches return: part 2 (the conditions stand at each). -/
import Derived.Test.YtmicgdfekpoajaaWka
/- Walks: runs with any fuel; programs that have no fault; programs and contexts out of bytes. -/
namespace Go.Vm.Ytmicgdfekpoajaa
open Go Go.Vm
set_option maxRecDepth 10000
set_option maxHeartbeats 16000000
set_option linter.unusedSimpArgs false
set_option linter.unusedVariables false

def runQV (p : List StepD) (ctx : List Int) (fuel : Int) : Int × Int × Int × Bool :=
  if goodP p && ctxB ctx && inB fuel 0 100 then ((runP p ctx fuel.toNat).1, (runP p ctx fuel.toNat).2.1, (runP p ctx fuel.toNat).2.2.1, true) else (0, 0, 0, false)
def runQD (r : Int × Int × Int × Bool) : D := .tup [Ii r.1, Ii r.2.1, Ii r.2.2.1, Bb r.2.2.2]
theorem impl_RunProgram.fcq (p : List StepD) (ctx : List Int) (fuel : Int) (hp : p.length ≤ 4194304) (hc : ctx.length ≤ 4194304) : FCt prog F_impl_RunProgram [.ro, .ro, .ro] [steps p, ints ctx, Ii fuel] (runQD (runQV p ctx fuel)) [] := by
  refine fct_run impl_RunProgram.ok rfl ?_
  have c1 := impl_GoodProgram.fc p hp
  have c2 := impl_isContext.fc ctx (by omega)
  have c3 := impl_in.fc fuel 0 100
  unfold runQD runQV
  cases h1 : goodP p with
  | false => rw [h1] at c1; repeat' (first | with_reducible rfl | refine fcW_bool (c1) ?_ | with_reducible refine cdW_dec (fun _ => ?_) (fun _ => ?_) | refine cdW_not (fun _ => ?_) (fun _ => ?_) | refine cdW_any (fun _ => ?_) (fun _ => ?_) | with_reducible refine gdW_decT (fun _ => ?_) (fun _ => ?_) | with_reducible refine gdW_decF (fun _ => ?_) (fun _ => ?_) | refine gdW_not (fun _ => ?_) (fun _ => ?_) | refine gdW_any (fun _ => ?_) (fun _ => ?_) | simp only [go_sem, ↓reduceIte, Nat.reduceEqDiff, Nat.reduceAdd, Nat.reduceMul, Nat.reduceBEq, Option.getD_none, Int.reduceToNat, Nat.reduceSub, Nat.reduceLT, Nat.reduceLeDiff, Int.reduceLE, Int.reduceLT, reduceCtorEq, bne, Int.reduceEq, Int.reduceBEq, Int.reduceBNe, Int.reduceLE, Int.reduceNeg, Int.reduceAdd, Int.reduceSub, Int.reduceMul, *] | rfl)
  | true =>
    rw [h1] at c1
    cases h2 : ctxB ctx with
    | false => rw [h2] at c2; repeat' (first | with_reducible rfl | refine fcW_bool (c1) ?_ | refine fcW_bool (c2) ?_ | with_reducible refine cdW_dec (fun _ => ?_) (fun _ => ?_) | refine cdW_not (fun _ => ?_) (fun _ => ?_) | refine cdW_any (fun _ => ?_) (fun _ => ?_) | with_reducible refine gdW_decT (fun _ => ?_) (fun _ => ?_) | with_reducible refine gdW_decF (fun _ => ?_) (fun _ => ?_) | refine gdW_not (fun _ => ?_) (fun _ => ?_) | refine gdW_any (fun _ => ?_) (fun _ => ?_) | simp only [go_sem, ↓reduceIte, Nat.reduceEqDiff, Nat.reduceAdd, Nat.reduceMul, Nat.reduceBEq, Option.getD_none, Int.reduceToNat, Nat.reduceSub, Nat.reduceLT, Nat.reduceLeDiff, Int.reduceLE, Int.reduceLT, reduceCtorEq, bne, Int.reduceEq, Int.reduceBEq, Int.reduceBNe, Int.reduceLE, Int.reduceNeg, Int.reduceAdd, Int.reduceSub, Int.reduceMul, *] | rfl)
    | true =>
      rw [h2] at c2
      cases h3 : inB fuel 0 100 with
      | false => rw [h3] at c3; repeat' (first | with_reducible rfl | refine fcW_bool (c1) ?_ | refine fcW_bool (c2) ?_ | refine fcW_bool (c3) ?_ | with_reducible refine cdW_dec (fun _ => ?_) (fun _ => ?_) | refine cdW_not (fun _ => ?_) (fun _ => ?_) | refine cdW_any (fun _ => ?_) (fun _ => ?_) | with_reducible refine gdW_decT (fun _ => ?_) (fun _ => ?_) | with_reducible refine gdW_decF (fun _ => ?_) (fun _ => ?_) | refine gdW_not (fun _ => ?_) (fun _ => ?_) | refine gdW_any (fun _ => ?_) (fun _ => ?_) | simp only [go_sem, ↓reduceIte, Nat.reduceEqDiff, Nat.reduceAdd, Nat.reduceMul, Nat.reduceBEq, Option.getD_none, Int.reduceToNat, Nat.reduceSub, Nat.reduceLT, Nat.reduceLeDiff, Int.reduceLE, Int.reduceLT, reduceCtorEq, bne, Int.reduceEq, Int.reduceBEq, Int.reduceBNe, Int.reduceLE, Int.reduceNeg, Int.reduceAdd, Int.reduceSub, Int.reduceMul, *] | rfl)
      | true =>
        rw [h3] at c3
        simp only [inB, Bool.and_eq_true, decide_eq_true_eq] at h3
        obtain ⟨N, rfl⟩ : ∃ N : Nat, fuel = N := ⟨fuel.toNat, by omega⟩
        have c4 := impl_run.fc p ctx N (by omega) (prog_ok h1) (ctx_ok h2)
        rw [show (N : Int).toNat = N from rfl]
        generalize runP p ctx N = R at c4 ⊢
        obtain ⟨R0, R1, R2, R3⟩ := R
        unfold runD at c4
        repeat' (first | with_reducible rfl | refine fcW_bool (c1) ?_ | refine fcW_bool (c2) ?_ | refine fcW_bool (c3) ?_ | refine fcW_bd (c4) (noRs_run) ?_ | with_reducible refine cdW_dec (fun _ => ?_) (fun _ => ?_) | refine cdW_not (fun _ => ?_) (fun _ => ?_) | refine cdW_any (fun _ => ?_) (fun _ => ?_) | with_reducible refine gdW_decT (fun _ => ?_) (fun _ => ?_) | with_reducible refine gdW_decF (fun _ => ?_) (fun _ => ?_) | refine gdW_not (fun _ => ?_) (fun _ => ?_) | refine gdW_any (fun _ => ?_) (fun _ => ?_) | simp only [go_sem, ↓reduceIte, Nat.reduceEqDiff, Nat.reduceAdd, Nat.reduceMul, Nat.reduceBEq, Option.getD_none, Int.reduceToNat, Nat.reduceSub, Nat.reduceLT, Nat.reduceLeDiff, Int.reduceLE, Int.reduceLT, reduceCtorEq, bne, Int.reduceEq, Int.reduceBEq, Int.reduceBNe, Int.reduceLE, Int.reduceNeg, Int.reduceAdd, Int.reduceSub, Int.reduceMul, *] | rfl)
theorem spec_RunProgram.fcq (p : List StepD) (ctx : List Int) (fuel : Int) (hp : p.length ≤ 4194304) (hc : ctx.length ≤ 4194304) : FCt prog F_spec_RunProgram [.ro, .ro, .ro] [steps p, ints ctx, Ii fuel] (runQD (runQV p ctx fuel)) [] := by
  refine fct_run spec_RunProgram.ok rfl ?_
  have c1 := spec_GoodProgram.fc p hp
  have c2 := spec_l3Ctx.fc ctx (by omega)
  have c3 := spec_l1In.fc fuel 0 100
  unfold runQD runQV
  cases h1 : goodP p with
  | false => rw [h1] at c1; repeat' (first | with_reducible rfl | refine fcW_bool (c1) ?_ | with_reducible refine cdW_dec (fun _ => ?_) (fun _ => ?_) | refine cdW_not (fun _ => ?_) (fun _ => ?_) | refine cdW_any (fun _ => ?_) (fun _ => ?_) | with_reducible refine gdW_decT (fun _ => ?_) (fun _ => ?_) | with_reducible refine gdW_decF (fun _ => ?_) (fun _ => ?_) | refine gdW_not (fun _ => ?_) (fun _ => ?_) | refine gdW_any (fun _ => ?_) (fun _ => ?_) | simp only [go_sem, ↓reduceIte, Nat.reduceEqDiff, Nat.reduceAdd, Nat.reduceMul, Nat.reduceBEq, Option.getD_none, Int.reduceToNat, Nat.reduceSub, Nat.reduceLT, Nat.reduceLeDiff, Int.reduceLE, Int.reduceLT, reduceCtorEq, bne, Int.reduceEq, Int.reduceBEq, Int.reduceBNe, Int.reduceLE, Int.reduceNeg, Int.reduceAdd, Int.reduceSub, Int.reduceMul, *] | rfl)
  | true =>
    rw [h1] at c1
    cases h2 : ctxB ctx with
    | false => rw [h2] at c2; repeat' (first | with_reducible rfl | refine fcW_bool (c1) ?_ | refine fcW_bool (c2) ?_ | with_reducible refine cdW_dec (fun _ => ?_) (fun _ => ?_) | refine cdW_not (fun _ => ?_) (fun _ => ?_) | refine cdW_any (fun _ => ?_) (fun _ => ?_) | with_reducible refine gdW_decT (fun _ => ?_) (fun _ => ?_) | with_reducible refine gdW_decF (fun _ => ?_) (fun _ => ?_) | refine gdW_not (fun _ => ?_) (fun _ => ?_) | refine gdW_any (fun _ => ?_) (fun _ => ?_) | simp only [go_sem, ↓reduceIte, Nat.reduceEqDiff, Nat.reduceAdd, Nat.reduceMul, Nat.reduceBEq, Option.getD_none, Int.reduceToNat, Nat.reduceSub, Nat.reduceLT, Nat.reduceLeDiff, Int.reduceLE, Int.reduceLT, reduceCtorEq, bne, Int.reduceEq, Int.reduceBEq, Int.reduceBNe, Int.reduceLE, Int.reduceNeg, Int.reduceAdd, Int.reduceSub, Int.reduceMul, *] | rfl)
    | true =>
      rw [h2] at c2
      cases h3 : inB fuel 0 100 with
      | false => rw [h3] at c3; repeat' (first | with_reducible rfl | refine fcW_bool (c1) ?_ | refine fcW_bool (c2) ?_ | refine fcW_bool (c3) ?_ | with_reducible refine cdW_dec (fun _ => ?_) (fun _ => ?_) | refine cdW_not (fun _ => ?_) (fun _ => ?_) | refine cdW_any (fun _ => ?_) (fun _ => ?_) | with_reducible refine gdW_decT (fun _ => ?_) (fun _ => ?_) | with_reducible refine gdW_decF (fun _ => ?_) (fun _ => ?_) | refine gdW_not (fun _ => ?_) (fun _ => ?_) | refine gdW_any (fun _ => ?_) (fun _ => ?_) | simp only [go_sem, ↓reduceIte, Nat.reduceEqDiff, Nat.reduceAdd, Nat.reduceMul, Nat.reduceBEq, Option.getD_none, Int.reduceToNat, Nat.reduceSub, Nat.reduceLT, Nat.reduceLeDiff, Int.reduceLE, Int.reduceLT, reduceCtorEq, bne, Int.reduceEq, Int.reduceBEq, Int.reduceBNe, Int.reduceLE, Int.reduceNeg, Int.reduceAdd, Int.reduceSub, Int.reduceMul, *] | rfl)
      | true =>
        rw [h3] at c3
        simp only [inB, Bool.and_eq_true, decide_eq_true_eq] at h3
        obtain ⟨N, rfl⟩ : ∃ N : Nat, fuel = N := ⟨fuel.toNat, by omega⟩
        have c4 := spec_l3Run.fc p ctx N (by omega) (prog_ok h1) (ctx_ok h2)
        rw [show (N : Int).toNat = N from rfl]
        generalize runP p ctx N = R at c4 ⊢
        obtain ⟨R0, R1, R2, R3⟩ := R
        unfold runD at c4
        repeat' (first | with_reducible rfl | refine fcW_bool (c1) ?_ | refine fcW_bool (c2) ?_ | refine fcW_bool (c3) ?_ | refine fcW_bd (c4) (noRs_run) ?_ | with_reducible refine cdW_dec (fun _ => ?_) (fun _ => ?_) | refine cdW_not (fun _ => ?_) (fun _ => ?_) | refine cdW_any (fun _ => ?_) (fun _ => ?_) | with_reducible refine gdW_decT (fun _ => ?_) (fun _ => ?_) | with_reducible refine gdW_decF (fun _ => ?_) (fun _ => ?_) | refine gdW_not (fun _ => ?_) (fun _ => ?_) | refine gdW_any (fun _ => ?_) (fun _ => ?_) | simp only [go_sem, ↓reduceIte, Nat.reduceEqDiff, Nat.reduceAdd, Nat.reduceMul, Nat.reduceBEq, Option.getD_none, Int.reduceToNat, Nat.reduceSub, Nat.reduceLT, Nat.reduceLeDiff, Int.reduceLE, Int.reduceLT, reduceCtorEq, bne, Int.reduceEq, Int.reduceBEq, Int.reduceBNe, Int.reduceLE, Int.reduceNeg, Int.reduceAdd, Int.reduceSub, Int.reduceMul, *] | rfl)
theorem impl_FaultFree.fc (p : List StepD) (ctx : List Int) (hp : p.length ≤ 4194304) (hc : ctx.length ≤ 4194304) : FCt prog F_impl_FaultFree [.ro, .ro] [steps p, ints ctx] (.tup [Bb ((traceV p ctx).2.2 && ((traceV p ctx).2.1 == 0)), Bb (traceV p ctx).2.2]) [] := by
  refine fct_run impl_FaultFree.ok rfl ?_
  have c1 := impl_TraceOf.fc p ctx hp hc
  generalize traceV p ctx = T at c1 ⊢
  obtain ⟨t, f, ok⟩ := T
  unfold traceD at c1
  simp only [go_sem, ↓reduceIte, Nat.reduceEqDiff, Nat.reduceAdd, Nat.reduceMul, Nat.reduceBEq, Option.getD_none, Int.reduceToNat, Nat.reduceSub, Nat.reduceLT, Nat.reduceLeDiff, Int.reduceLE, Int.reduceLT, reduceCtorEq]
  refine fcW_bd c1 (noRs_t3 noRs_ints rfl rfl) ?_
  cases ok
  · simp only [go_sem, ↓reduceIte, Nat.reduceEqDiff, Nat.reduceAdd, Nat.reduceMul, Nat.reduceBEq, Option.getD_none, Int.reduceToNat, Nat.reduceSub, Nat.reduceLT, Nat.reduceLeDiff, Int.reduceLE, Int.reduceLT, reduceCtorEq]; try rfl
  · simp only [go_sem, ↓reduceIte, Nat.reduceEqDiff, Nat.reduceAdd, Nat.reduceMul, Nat.reduceBEq, Option.getD_none, Int.reduceToNat, Nat.reduceSub, Nat.reduceLT, Nat.reduceLeDiff, Int.reduceLE, Int.reduceLT, reduceCtorEq]; try rfl
theorem tr_ex (code : List Int) (hl : code.length ≤ 9223372036854775807) (h8 : ∀ b ∈ code, 0 ≤ b ∧ b ≤ 255) :
    ∃ (p : List StepD) (ctx : List Int), p.length ≤ 20 ∧ ctx.length = 8 ∧ FCt prog F_spec_DrawTraceOf [.ro] [.sl 1 (code.map Ub)] (.tup [steps p, ints ctx]) [] := by
  obtain ⟨p, c1, pl, ok1, f1⟩ := prog_ex (curS code) (curS_ok hl h8 (by omega))
  have o1 : CurOk c1 40 := ok1 40 (curS_ok hl h8 (by omega))
  obtain ⟨l, c2, ll, ok2, f2⟩ := ctx_ex c1 o1
  refine ⟨p, l, pl, ll, ?_⟩
  refine fct_run spec_DrawTraceOf.ok rfl ?_
  simp only [go_sem, ↓reduceIte, Nat.reduceEqDiff, Nat.reduceAdd, Nat.reduceMul, Nat.reduceBEq, Option.getD_none, Int.reduceToNat, Nat.reduceSub, Nat.reduceLT, Nat.reduceLeDiff, Int.reduceLE, Int.reduceLT, reduceCtorEq]
  refine coW_c f1 ?_
  simp only [go_sem, ↓reduceIte, Nat.reduceEqDiff, Nat.reduceAdd, Nat.reduceMul, Nat.reduceBEq, Option.getD_none, Int.reduceToNat, Nat.reduceSub, Nat.reduceLT, Nat.reduceLeDiff, Int.reduceLE, Int.reduceLT, reduceCtorEq, take_map_len]
  refine coW_c f2 ?_
  simp only [go_sem, ↓reduceIte, Nat.reduceEqDiff, Nat.reduceAdd, Nat.reduceMul, Nat.reduceBEq, Option.getD_none, Int.reduceToNat, Nat.reduceSub, Nat.reduceLT, Nat.reduceLeDiff, Int.reduceLE, Int.reduceLT, reduceCtorEq, take_map_len]
theorem rp_ex (code : List Int) (hl : code.length ≤ 9223372036854775807) (h8 : ∀ b ∈ code, 0 ≤ b ∧ b ≤ 255) :
    ∃ (p : List StepD) (ctx : List Int) (g : Int), p.length ≤ 20 ∧ ctx.length = 8 ∧ FCt prog F_spec_DrawRunProgram [.ro] [.sl 1 (code.map Ub)] (.tup [steps p, ints ctx, Ii g]) [] := by
  obtain ⟨p, c1, pl, ok1, f1⟩ := prog_ex (curS code) (curS_ok hl h8 (by omega))
  have o1 : CurOk c1 60 := ok1 60 (curS_ok hl h8 (by omega))
  obtain ⟨l, c2, ll, ok2, f2⟩ := ctx_ex c1 (o1.mono (by omega))
  have o2 : CurOk c2 20 := ok2 20 o1
  have f3 := spec_pl1Cur_among.fc c2 [-1, 0, 1, 3, 20, 100, 100, 101] (by simp) (by simp) (m := 18) o2
  refine ⟨p, l, amongV c2 [-1, 0, 1, 3, 20, 100, 100, 101], pl, ll, ?_⟩
  refine fct_run spec_DrawRunProgram.ok rfl ?_
  simp only [go_sem, ↓reduceIte, Nat.reduceEqDiff, Nat.reduceAdd, Nat.reduceMul, Nat.reduceBEq, Option.getD_none, Int.reduceToNat, Nat.reduceSub, Nat.reduceLT, Nat.reduceLeDiff, Int.reduceLE, Int.reduceLT, reduceCtorEq]
  refine coW_c f1 ?_
  simp only [go_sem, ↓reduceIte, Nat.reduceEqDiff, Nat.reduceAdd, Nat.reduceMul, Nat.reduceBEq, Option.getD_none, Int.reduceToNat, Nat.reduceSub, Nat.reduceLT, Nat.reduceLeDiff, Int.reduceLE, Int.reduceLT, reduceCtorEq, take_map_len]
  refine coW_c f2 ?_
  simp only [go_sem, ↓reduceIte, Nat.reduceEqDiff, Nat.reduceAdd, Nat.reduceMul, Nat.reduceBEq, Option.getD_none, Int.reduceToNat, Nat.reduceSub, Nat.reduceLT, Nat.reduceLeDiff, Int.reduceLE, Int.reduceLT, reduceCtorEq, take_map_len]
  refine coW_c f3 ?_
  simp only [go_sem, ↓reduceIte, Nat.reduceEqDiff, Nat.reduceAdd, Nat.reduceMul, Nat.reduceBEq, Option.getD_none, Int.reduceToNat, Nat.reduceSub, Nat.reduceLT, Nat.reduceLeDiff, Int.reduceLE, Int.reduceLT, reduceCtorEq, take_map_len]
end Go.Vm.Ytmicgdfekpoajaa
/- Walks: what the laws call the same. -/
namespace Go.Vm.Ytmicgdfekpoajaa
open Go Go.Vm
set_option maxRecDepth 10000
set_option maxHeartbeats 16000000
set_option linter.unusedSimpArgs false
set_option linter.unusedVariables false

theorem same_end {α : Type} {a b : List α} {k : Nat} (hl : a.length = b.length) (hk : a.length ≤ k) (h : ∀ i, i < k → a[i]? = b[i]?) : a = b := by
  apply List.ext_getElem?
  intro i
  by_cases hi : i < k
  · exact h i hi
  · rw [List.getElem?_eq_none (by omega), List.getElem?_eq_none (by omega)]
theorem same_not {α : Type} {a b : List α} {i : Nat} (h1 : i < a.length) (h2 : i < b.length) (h : a[i] ≠ b[i]) : a ≠ b := fun e => by subst e; exact h rfl
theorem laws_sameInts.fc (a b : List Int) (ha : a.length ≤ 4294967296) (hb : b.length ≤ 4294967296) : FCt prog F_laws_sameInts [.ro, .ro] [ints a, ints b] (Bb (decide (a = b))) [] := by
  refine fct_run laws_sameInts.ok rfl ?_
  by_cases hl : a.length = b.length
  · have e1 : ((a.length : Int) != b.length) = false := by rw [hl]; simp
    simp only [go_sem, ↓reduceIte, Nat.reduceEqDiff, Nat.reduceAdd, Nat.reduceMul, Nat.reduceBEq, Option.getD_none, Int.reduceToNat, Nat.reduceSub, Nat.reduceLT, Nat.reduceLeDiff, Int.reduceLE, Int.reduceLT, reduceCtorEq, e1]
    refine R_loop (α := Nat) (fun k s' M' => k ≤ a.length ∧ s' 13 = aI k ∧ ∀ i, i < k → a[i]? = b[i]?) (fun k => a.length - k) 0 ⟨Nat.zero_le _, by simp only [go_sem, ↓reduceIte, Nat.reduceEqDiff, Nat.reduceAdd, Nat.reduceMul, Nat.reduceBEq, Option.getD_none, Int.reduceToNat, Nat.reduceSub, Nat.reduceLT, Nat.reduceLeDiff, Int.reduceLE, Int.reduceLT, reduceCtorEq]; try rfl, fun i hi => absurd hi (Nat.not_lt_zero i)⟩ ?_
    rintro k s' M' ⟨hk, h13, hr⟩ ho
    unfold laws_sameInts.b0
    have j0 : s' 0 = .dat none (ints a) := by rw [ho 0 rfl]; simp only [go_sem, ↓reduceIte, Nat.reduceEqDiff, Nat.reduceAdd, Nat.reduceMul, Nat.reduceBEq, Option.getD_none, Int.reduceToNat, Nat.reduceSub, Nat.reduceLT, Nat.reduceLeDiff, Int.reduceLE, Int.reduceLT, reduceCtorEq]
    have j1 : s' 1 = .dat none (ints b) := by rw [ho 1 rfl]; simp only [go_sem, ↓reduceIte, Nat.reduceEqDiff, Nat.reduceAdd, Nat.reduceMul, Nat.reduceBEq, Option.getD_none, Int.reduceToNat, Nat.reduceSub, Nat.reduceLT, Nat.reduceLeDiff, Int.reduceLE, Int.reduceLT, reduceCtorEq]
    have j12 : s' 12 = aI a.length := by rw [ho 12 rfl]; simp only [go_sem, ↓reduceIte, Nat.reduceEqDiff, Nat.reduceAdd, Nat.reduceMul, Nat.reduceBEq, Option.getD_none, Int.reduceToNat, Nat.reduceSub, Nat.reduceLT, Nat.reduceLeDiff, Int.reduceLE, Int.reduceLT, reduceCtorEq]
    clear ho
    by_cases hlt : k < a.length
    · have hi' : (k : Int) < a.length := by omega
      have ga : a[k]? = some a[k] := List.getElem?_eq_getElem hlt
      have hw : IntKind.i64.wrap (k + 1) = ((k + 1 : Nat) : Int) := wrap_k hlt (by omega)
      have gb : b[k]? = some b[k] := List.getElem?_eq_getElem (by omega)
      have hb' : (k : Int) < b.length := by omega
      by_cases hx : a[k] = b[k]
      · have hx' : (a[k] != b[k]) = false := by simp [hx]
        simp only [go_sem, ↓reduceIte, Nat.reduceEqDiff, Nat.reduceAdd, Nat.reduceMul, Nat.reduceBEq, Option.getD_none, Int.reduceToNat, Nat.reduceSub, Nat.reduceLT, Nat.reduceLeDiff, Int.reduceLE, Int.reduceLT, reduceCtorEq, hi', hb', ga, gb, hx', hw, j0, j1, j12, h13]
        refine ⟨k + 1, by dsimp only; omega, by omega, by simp only [go_sem, ↓reduceIte, Nat.reduceEqDiff, Nat.reduceAdd, Nat.reduceMul, Nat.reduceBEq, Option.getD_none, Int.reduceToNat, Nat.reduceSub, Nat.reduceLT, Nat.reduceLeDiff, Int.reduceLE, Int.reduceLT, reduceCtorEq, j0, j1, j12, h13], fun i hi => ?_⟩
        by_cases c : i < k
        · exact hr i c
        · obtain rfl : i = k := by omega
          rw [ga, gb, hx]
      · have hne := same_not hlt (by omega) hx
        have hd : decide (a = b) = false := by simp [hne]
        have hx' : (a[k] != b[k]) = true := by simp [hx]
        generalize a[k] = x at *
        simp only [go_sem, ↓reduceIte, Nat.reduceEqDiff, Nat.reduceAdd, Nat.reduceMul, Nat.reduceBEq, Option.getD_none, Int.reduceToNat, Nat.reduceSub, Nat.reduceLT, Nat.reduceLeDiff, Int.reduceLE, Int.reduceLT, reduceCtorEq, hi', hb', ga, gb, hx', hd, j0, j1, j12, h13]; try rfl
    · have hi' : ¬ (k : Int) < a.length := by omega
      obtain rfl : k = a.length := by omega
      have e := same_end hl hk hr
      have hd : decide (a = b) = true := by simp [e]
      simp only [go_sem, ↓reduceIte, Nat.reduceEqDiff, Nat.reduceAdd, Nat.reduceMul, Nat.reduceBEq, Option.getD_none, Int.reduceToNat, Nat.reduceSub, Nat.reduceLT, Nat.reduceLeDiff, Int.reduceLE, Int.reduceLT, reduceCtorEq, Int.lt_irrefl, hd, j0, j1, j12, h13]; try rfl
  · have e1 : ((a.length : Int) != b.length) = true := by simp; omega
    have hd : decide (a = b) = false := by simp; intro e; exact hl (by rw [e])
    simp only [go_sem, ↓reduceIte, Nat.reduceEqDiff, Nat.reduceAdd, Nat.reduceMul, Nat.reduceBEq, Option.getD_none, Int.reduceToNat, Nat.reduceSub, Nat.reduceLT, Nat.reduceLeDiff, Int.reduceLE, Int.reduceLT, reduceCtorEq, e1, hd]; try rfl
end Go.Vm.Ytmicgdfekpoajaa
/- Rows of bytes as the laws are handed them. -/
namespace Go.Vm.Ytmicgdfekpoajaa
open Go Go.Vm

theorem hasByte {d : D} (h : HasTy (.int .u8) d) : ∃ n : Int, d = .int .u8 n ∧ (0 ≤ n ∧ n ≤ 255) := by
  simp only [HasTy] at h
  obtain ⟨n, rfl, h⟩ := h
  refine ⟨n, rfl, ?_⟩
  simp [Lit.wf, IntKind.has, IntKind.min, IntKind.max, IntKind.signed, IntKind.bits] at h
  exact ⟨by omega, by omega⟩
theorem hasBytes {d : D} (h : HasTy (.sl (.int .u8)) d) : ∃ l : List Int, d = .sl 1 (l.map (fun n => (.int .u8 n : D))) ∧ l.length ≤ 9223372036854775807 ∧ ∀ b ∈ l, 0 ≤ b ∧ b ≤ 255 :=
  hasSl (f := fun n => (.int .u8 n : D)) (p := fun b => 0 ≤ b ∧ b ≤ 255) (fun _ h => hasByte h) h
end Go.Vm.Ytmicgdfekpoajaa
