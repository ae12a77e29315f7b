/- What the functions that the law reaches return: part 2 (the conditions stand at each). -/
import Derived.Test.YtmicgdfekpoajaaWka
/- Walks: a step, of what may be, by the reference; if all is valid. -/
namespace Go.Vm.Ytmicgdfekpoajaa
open Go Go.Vm
set_option maxRecDepth 10000
set_option maxHeartbeats 32000000
set_option linter.unusedSimpArgs false
set_option linter.unusedVariables false

theorem spec_l13Step.fc (s : StepD) (m : MayD) (hm : MayOk m) (hv : stepB s = true) :
    FCt prog F_spec_l13Step [.ro, .co] [s.d, m.d] (.tup [(mayV s m).1.d, Ii (mayV s m).2]) [] := by
  refine fct_run spec_l13Step.ok rfl ?_
  have ok := step_ok hv
  have kd := valid_kind (.inr hv)
  have ln := hm.len
  obtain ⟨l1, l2, l3, l4, gr, gb, gc⟩ := hm
  obtain ⟨k, op, dst, src, imm, to⟩ := s
  obtain ⟨_, od, os, oi, oo, ot, _, _⟩ := ok
  dsimp only at *
  have c6 : ((6 : Nat) : Int) = 6 := rfl
  have c16 : ((16 : Nat) : Int) = 16 := rfl
  have od1 := od.1
  have od2 : dst < 6 := by omega
  have os1 := os.1
  have os2 : src < 6 := by omega
  have i0 : 0 ≤ imm := oi.1
  have q1 : m.reg[dst.toNat]? = some (regS m dst) := getD_some (by omega)
  have q2 : m.reg[src.toNat]? = some (regS m src) := getD_some (by omega)
  have q3 : m.bits[dst.toNat]? = some (bitS m dst) := getD_some (by omega)
  have q4 : m.bits[src.toNat]? = some (bitS m src) := getD_some (by omega)
  have sd := gS_ok (gr _ (List.mem_of_getElem? q1))
  have ss := gS_ok (gr _ (List.mem_of_getElem? q2))
  have kd1 := gK_ok (gb _ (List.mem_of_getElem? q3))
  have ks := gK_ok (gb _ (List.mem_of_getElem? q4))
  have sc := sOk_const oi
  have kc := kOk_const oi
  have w5 : IntKind.i64.wrap ((regS m src).2 + imm) = (regS m src).2 + imm := by have := ss.hi; have := ss.lo; have := ss.le; exact wrap_in (by omega) (by omega)
  have h6 : ¬ imm ≥ 16 → m.cell[imm.toNat]? = some (m.cell.getD imm.toNat (0, 0)) := fun h => getD_some (by omega)
  have h7 : ¬ imm ≥ 16 → m.isset[imm.toNat]? = some (m.isset.getD imm.toNat false) := fun h => getD_some (by omega)
  have b6 : ¬ imm ≥ 16 → imm < 16 := fun h => by omega
  have cs := spec_l9Do.fc op (regS m dst) (regS m src) sd ss
  have ck := spec_l10Do.fc op (bitS m dst) (bitS m src) ks
  have cs2 := spec_l9Do.fc op (regS m dst) (imm, imm) sd sc
  have ck2 := spec_l10Do.fc op (bitS m dst) (imm, 0) kc
  have cp := fun s k => spec_l13Set.fc m dst s k ln od1 od2
  have cp3 := cp (imm, imm) (imm, 0)
  rw [putV_const oi] at cp3
  have cp5 := cp (0, 255) (0, 255)
  rw [putV_byte] at cp5
  have hp := fun r => putM_len (m := m) (i := dst) (r := r) ln
  have pl1 := fun r => (hp r).reg
  have pl2 := fun r => (hp r).bits
  have pl3 := fun r => (hp r).cell
  have pl4 := fun r => (hp r).isset
  clear hp gr gb gc sd ss kd1 ks sc kc
  unfold mayV
  rcases kd with rfl | rfl | rfl | rfl | rfl | rfl | rfl | rfl | rfl | rfl | rfl
  · clear h6 h7 b6
    repeat' (first | with_reducible rfl | refine fcW_bd (spec_l13Const.fc imm) rfl ?_ | refine fcW_bd (cs) rfl ?_ | refine fcW_bd (ck) rfl ?_ | refine coW_of (cp _ _) (noRs_May) (rfl) ?_ | with_reducible refine cdW_dec (fun _ => ?_) (fun _ => ?_) | refine cdW_not (fun _ => ?_) (fun _ => ?_) | refine cdW_any (fun _ => ?_) (fun _ => ?_) | with_reducible refine gdW_decT (fun _ => ?_) (fun _ => ?_) | with_reducible refine gdW_decF (fun _ => ?_) (fun _ => ?_) | refine gdW_not (fun _ => ?_) (fun _ => ?_) | refine gdW_any (fun _ => ?_) (fun _ => ?_) | simp only [go_sem, ↓reduceIte, Nat.reduceEqDiff, Nat.reduceAdd, Nat.reduceMul, Nat.reduceBEq, Option.getD_none, Int.reduceToNat, Nat.reduceSub, Nat.reduceLT, Nat.reduceLeDiff, Int.reduceLE, Int.reduceLT, reduceCtorEq, bne, Int.reduceEq, Int.reduceBEq, Int.reduceBNe, Int.reduceLE, Int.reduceNeg, Int.reduceAdd, Int.reduceSub, Int.reduceMul, setAg, setSt, setKn, setBb, tk_S, tk_K, tk_B, take_map_len, List.length_set, *] | rfl)
  · clear h6 h7 b6
    repeat' (first | with_reducible rfl | refine fcW_bd (spec_l13Const.fc imm) rfl ?_ | refine fcW_bd (cs2) rfl ?_ | refine fcW_bd (ck2) rfl ?_ | refine coW_of (cp _ _) (noRs_May) (rfl) ?_ | with_reducible refine cdW_dec (fun _ => ?_) (fun _ => ?_) | refine cdW_not (fun _ => ?_) (fun _ => ?_) | refine cdW_any (fun _ => ?_) (fun _ => ?_) | with_reducible refine gdW_decT (fun _ => ?_) (fun _ => ?_) | with_reducible refine gdW_decF (fun _ => ?_) (fun _ => ?_) | refine gdW_not (fun _ => ?_) (fun _ => ?_) | refine gdW_any (fun _ => ?_) (fun _ => ?_) | simp only [go_sem, ↓reduceIte, Nat.reduceEqDiff, Nat.reduceAdd, Nat.reduceMul, Nat.reduceBEq, Option.getD_none, Int.reduceToNat, Nat.reduceSub, Nat.reduceLT, Nat.reduceLeDiff, Int.reduceLE, Int.reduceLT, reduceCtorEq, bne, Int.reduceEq, Int.reduceBEq, Int.reduceBNe, Int.reduceLE, Int.reduceNeg, Int.reduceAdd, Int.reduceSub, Int.reduceMul, setAg, setSt, setKn, setBb, tk_S, tk_K, tk_B, take_map_len, List.length_set, *] | rfl)
  · clear h6 h7 b6
    repeat' (first | with_reducible rfl | refine fcW_bd (spec_l13Const.fc imm) rfl ?_ | refine coW_of (cp3) (noRs_May) (rfl) ?_ | with_reducible refine cdW_dec (fun _ => ?_) (fun _ => ?_) | refine cdW_not (fun _ => ?_) (fun _ => ?_) | refine cdW_any (fun _ => ?_) (fun _ => ?_) | with_reducible refine gdW_decT (fun _ => ?_) (fun _ => ?_) | with_reducible refine gdW_decF (fun _ => ?_) (fun _ => ?_) | refine gdW_not (fun _ => ?_) (fun _ => ?_) | refine gdW_any (fun _ => ?_) (fun _ => ?_) | simp only [go_sem, ↓reduceIte, Nat.reduceEqDiff, Nat.reduceAdd, Nat.reduceMul, Nat.reduceBEq, Option.getD_none, Int.reduceToNat, Nat.reduceSub, Nat.reduceLT, Nat.reduceLeDiff, Int.reduceLE, Int.reduceLT, reduceCtorEq, bne, Int.reduceEq, Int.reduceBEq, Int.reduceBNe, Int.reduceLE, Int.reduceNeg, Int.reduceAdd, Int.reduceSub, Int.reduceMul, setAg, setSt, setKn, setBb, tk_S, tk_K, tk_B, take_map_len, List.length_set, *] | rfl)
  · clear h6 h7 b6
    repeat' (first | with_reducible rfl | refine fcW_bd (spec_l13Const.fc imm) rfl ?_ | refine coW_of (cp3) (noRs_May) (rfl) ?_ | with_reducible refine cdW_dec (fun _ => ?_) (fun _ => ?_) | refine cdW_not (fun _ => ?_) (fun _ => ?_) | refine cdW_any (fun _ => ?_) (fun _ => ?_) | with_reducible refine gdW_decT (fun _ => ?_) (fun _ => ?_) | with_reducible refine gdW_decF (fun _ => ?_) (fun _ => ?_) | refine gdW_not (fun _ => ?_) (fun _ => ?_) | refine gdW_any (fun _ => ?_) (fun _ => ?_) | simp only [go_sem, ↓reduceIte, Nat.reduceEqDiff, Nat.reduceAdd, Nat.reduceMul, Nat.reduceBEq, Option.getD_none, Int.reduceToNat, Nat.reduceSub, Nat.reduceLT, Nat.reduceLeDiff, Int.reduceLE, Int.reduceLT, reduceCtorEq, bne, Int.reduceEq, Int.reduceBEq, Int.reduceBNe, Int.reduceLE, Int.reduceNeg, Int.reduceAdd, Int.reduceSub, Int.reduceMul, setAg, setSt, setKn, setBb, tk_S, tk_K, tk_B, take_map_len, List.length_set, *] | rfl)
  · clear h6 h7 b6
    by_cases h : (regS m src).2 + imm ≥ 8
    · repeat' (first | with_reducible rfl | refine fcW_bd (spec_l13Const.fc imm) rfl ?_ | with_reducible refine cdW_dec (fun _ => ?_) (fun _ => ?_) | refine cdW_not (fun _ => ?_) (fun _ => ?_) | refine cdW_any (fun _ => ?_) (fun _ => ?_) | with_reducible refine gdW_decT (fun _ => ?_) (fun _ => ?_) | with_reducible refine gdW_decF (fun _ => ?_) (fun _ => ?_) | refine gdW_not (fun _ => ?_) (fun _ => ?_) | refine gdW_any (fun _ => ?_) (fun _ => ?_) | simp only [go_sem, ↓reduceIte, Nat.reduceEqDiff, Nat.reduceAdd, Nat.reduceMul, Nat.reduceBEq, Option.getD_none, Int.reduceToNat, Nat.reduceSub, Nat.reduceLT, Nat.reduceLeDiff, Int.reduceLE, Int.reduceLT, reduceCtorEq, bne, Int.reduceEq, Int.reduceBEq, Int.reduceBNe, Int.reduceLE, Int.reduceNeg, Int.reduceAdd, Int.reduceSub, Int.reduceMul, setAg, setSt, setKn, setBb, tk_S, tk_K, tk_B, take_map_len, List.length_set, *] | rfl)
    · repeat' (first | with_reducible rfl | refine fcW_bd (spec_l13Const.fc imm) rfl ?_ | refine coW_of (cp5) (noRs_May) (rfl) ?_ | with_reducible refine cdW_dec (fun _ => ?_) (fun _ => ?_) | refine cdW_not (fun _ => ?_) (fun _ => ?_) | refine cdW_any (fun _ => ?_) (fun _ => ?_) | with_reducible refine gdW_decT (fun _ => ?_) (fun _ => ?_) | with_reducible refine gdW_decF (fun _ => ?_) (fun _ => ?_) | refine gdW_not (fun _ => ?_) (fun _ => ?_) | refine gdW_any (fun _ => ?_) (fun _ => ?_) | simp only [go_sem, ↓reduceIte, Nat.reduceEqDiff, Nat.reduceAdd, Nat.reduceMul, Nat.reduceBEq, Option.getD_none, Int.reduceToNat, Nat.reduceSub, Nat.reduceLT, Nat.reduceLeDiff, Int.reduceLE, Int.reduceLT, reduceCtorEq, bne, Int.reduceEq, Int.reduceBEq, Int.reduceBNe, Int.reduceLE, Int.reduceNeg, Int.reduceAdd, Int.reduceSub, Int.reduceMul, setAg, setSt, setKn, setBb, tk_S, tk_K, tk_B, take_map_len, List.length_set, *] | rfl)
  · by_cases h : imm ≥ 16
    · clear h6 h7 b6
      repeat' (first | with_reducible rfl | refine fcW_bd (spec_l13Const.fc imm) rfl ?_ | with_reducible refine cdW_dec (fun _ => ?_) (fun _ => ?_) | refine cdW_not (fun _ => ?_) (fun _ => ?_) | refine cdW_any (fun _ => ?_) (fun _ => ?_) | with_reducible refine gdW_decT (fun _ => ?_) (fun _ => ?_) | with_reducible refine gdW_decF (fun _ => ?_) (fun _ => ?_) | refine gdW_not (fun _ => ?_) (fun _ => ?_) | refine gdW_any (fun _ => ?_) (fun _ => ?_) | simp only [go_sem, ↓reduceIte, Nat.reduceEqDiff, Nat.reduceAdd, Nat.reduceMul, Nat.reduceBEq, Option.getD_none, Int.reduceToNat, Nat.reduceSub, Nat.reduceLT, Nat.reduceLeDiff, Int.reduceLE, Int.reduceLT, reduceCtorEq, bne, Int.reduceEq, Int.reduceBEq, Int.reduceBNe, Int.reduceLE, Int.reduceNeg, Int.reduceAdd, Int.reduceSub, Int.reduceMul, setAg, setSt, setKn, setBb, tk_S, tk_K, tk_B, take_map_len, List.length_set, *] | rfl)
    · have h6 := h6 h
      have h7 := h7 h
      have b6 := b6 h
      cases hq : m.isset.getD imm.toNat false <;> rw [hq] at h7
      · repeat' (first | with_reducible rfl | refine fcW_bd (spec_l13Const.fc imm) rfl ?_ | with_reducible refine cdW_dec (fun _ => ?_) (fun _ => ?_) | refine cdW_not (fun _ => ?_) (fun _ => ?_) | refine cdW_any (fun _ => ?_) (fun _ => ?_) | with_reducible refine gdW_decT (fun _ => ?_) (fun _ => ?_) | with_reducible refine gdW_decF (fun _ => ?_) (fun _ => ?_) | refine gdW_not (fun _ => ?_) (fun _ => ?_) | refine gdW_any (fun _ => ?_) (fun _ => ?_) | simp only [go_sem, ↓reduceIte, Nat.reduceEqDiff, Nat.reduceAdd, Nat.reduceMul, Nat.reduceBEq, Option.getD_none, Int.reduceToNat, Nat.reduceSub, Nat.reduceLT, Nat.reduceLeDiff, Int.reduceLE, Int.reduceLT, reduceCtorEq, bne, Int.reduceEq, Int.reduceBEq, Int.reduceBNe, Int.reduceLE, Int.reduceNeg, Int.reduceAdd, Int.reduceSub, Int.reduceMul, setAg, setSt, setKn, setBb, tk_S, tk_K, tk_B, take_map_len, List.length_set, *] | rfl)
      · repeat' (first | with_reducible rfl | refine fcW_bd (spec_l13Const.fc imm) rfl ?_ | refine coW_of (cp _ (0, 65535)) (noRs_May) (rfl) ?_ | with_reducible refine cdW_dec (fun _ => ?_) (fun _ => ?_) | refine cdW_not (fun _ => ?_) (fun _ => ?_) | refine cdW_any (fun _ => ?_) (fun _ => ?_) | with_reducible refine gdW_decT (fun _ => ?_) (fun _ => ?_) | with_reducible refine gdW_decF (fun _ => ?_) (fun _ => ?_) | refine gdW_not (fun _ => ?_) (fun _ => ?_) | refine gdW_any (fun _ => ?_) (fun _ => ?_) | simp only [go_sem, ↓reduceIte, Nat.reduceEqDiff, Nat.reduceAdd, Nat.reduceMul, Nat.reduceBEq, Option.getD_none, Int.reduceToNat, Nat.reduceSub, Nat.reduceLT, Nat.reduceLeDiff, Int.reduceLE, Int.reduceLT, reduceCtorEq, bne, Int.reduceEq, Int.reduceBEq, Int.reduceBNe, Int.reduceLE, Int.reduceNeg, Int.reduceAdd, Int.reduceSub, Int.reduceMul, setAg, setSt, setKn, setBb, tk_S, tk_K, tk_B, take_map_len, List.length_set, *] | rfl)
  · by_cases h : imm ≥ 16
    · clear h6 h7 b6
      repeat' (first | with_reducible rfl | refine fcW_bd (spec_l13Const.fc imm) rfl ?_ | with_reducible refine cdW_dec (fun _ => ?_) (fun _ => ?_) | refine cdW_not (fun _ => ?_) (fun _ => ?_) | refine cdW_any (fun _ => ?_) (fun _ => ?_) | with_reducible refine gdW_decT (fun _ => ?_) (fun _ => ?_) | with_reducible refine gdW_decF (fun _ => ?_) (fun _ => ?_) | refine gdW_not (fun _ => ?_) (fun _ => ?_) | refine gdW_any (fun _ => ?_) (fun _ => ?_) | simp only [go_sem, ↓reduceIte, Nat.reduceEqDiff, Nat.reduceAdd, Nat.reduceMul, Nat.reduceBEq, Option.getD_none, Int.reduceToNat, Nat.reduceSub, Nat.reduceLT, Nat.reduceLeDiff, Int.reduceLE, Int.reduceLT, reduceCtorEq, bne, Int.reduceEq, Int.reduceBEq, Int.reduceBNe, Int.reduceLE, Int.reduceNeg, Int.reduceAdd, Int.reduceSub, Int.reduceMul, setAg, setSt, setKn, setBb, tk_S, tk_K, tk_B, take_map_len, List.length_set, *] | rfl)
    · have h6 := h6 h
      have h7 := h7 h
      have b6 := b6 h
      repeat' (first | with_reducible rfl | refine fcW_bd (spec_l13Const.fc imm) rfl ?_ | with_reducible refine cdW_dec (fun _ => ?_) (fun _ => ?_) | refine cdW_not (fun _ => ?_) (fun _ => ?_) | refine cdW_any (fun _ => ?_) (fun _ => ?_) | with_reducible refine gdW_decT (fun _ => ?_) (fun _ => ?_) | with_reducible refine gdW_decF (fun _ => ?_) (fun _ => ?_) | refine gdW_not (fun _ => ?_) (fun _ => ?_) | refine gdW_any (fun _ => ?_) (fun _ => ?_) | simp only [go_sem, ↓reduceIte, Nat.reduceEqDiff, Nat.reduceAdd, Nat.reduceMul, Nat.reduceBEq, Option.getD_none, Int.reduceToNat, Nat.reduceSub, Nat.reduceLT, Nat.reduceLeDiff, Int.reduceLE, Int.reduceLT, reduceCtorEq, bne, Int.reduceEq, Int.reduceBEq, Int.reduceBNe, Int.reduceLE, Int.reduceNeg, Int.reduceAdd, Int.reduceSub, Int.reduceMul, setAg, setSt, setKn, setBb, tk_S, tk_K, tk_B, take_map_len, List.length_set, *] | rfl)
  · clear h6 h7 b6
    repeat' (first | with_reducible rfl | refine fcW_bd (spec_l13Const.fc imm) rfl ?_ | with_reducible refine cdW_dec (fun _ => ?_) (fun _ => ?_) | refine cdW_not (fun _ => ?_) (fun _ => ?_) | refine cdW_any (fun _ => ?_) (fun _ => ?_) | with_reducible refine gdW_decT (fun _ => ?_) (fun _ => ?_) | with_reducible refine gdW_decF (fun _ => ?_) (fun _ => ?_) | refine gdW_not (fun _ => ?_) (fun _ => ?_) | refine gdW_any (fun _ => ?_) (fun _ => ?_) | simp only [go_sem, ↓reduceIte, Nat.reduceEqDiff, Nat.reduceAdd, Nat.reduceMul, Nat.reduceBEq, Option.getD_none, Int.reduceToNat, Nat.reduceSub, Nat.reduceLT, Nat.reduceLeDiff, Int.reduceLE, Int.reduceLT, reduceCtorEq, bne, Int.reduceEq, Int.reduceBEq, Int.reduceBNe, Int.reduceLE, Int.reduceNeg, Int.reduceAdd, Int.reduceSub, Int.reduceMul, setAg, setSt, setKn, setBb, tk_S, tk_K, tk_B, take_map_len, List.length_set, *] | rfl)
  · clear h6 h7 b6
    repeat' (first | with_reducible rfl | refine fcW_bd (spec_l13Const.fc imm) rfl ?_ | with_reducible refine cdW_dec (fun _ => ?_) (fun _ => ?_) | refine cdW_not (fun _ => ?_) (fun _ => ?_) | refine cdW_any (fun _ => ?_) (fun _ => ?_) | with_reducible refine gdW_decT (fun _ => ?_) (fun _ => ?_) | with_reducible refine gdW_decF (fun _ => ?_) (fun _ => ?_) | refine gdW_not (fun _ => ?_) (fun _ => ?_) | refine gdW_any (fun _ => ?_) (fun _ => ?_) | simp only [go_sem, ↓reduceIte, Nat.reduceEqDiff, Nat.reduceAdd, Nat.reduceMul, Nat.reduceBEq, Option.getD_none, Int.reduceToNat, Nat.reduceSub, Nat.reduceLT, Nat.reduceLeDiff, Int.reduceLE, Int.reduceLT, reduceCtorEq, bne, Int.reduceEq, Int.reduceBEq, Int.reduceBNe, Int.reduceLE, Int.reduceNeg, Int.reduceAdd, Int.reduceSub, Int.reduceMul, setAg, setSt, setKn, setBb, tk_S, tk_K, tk_B, take_map_len, List.length_set, *] | rfl)
  · clear h6 h7 b6
    repeat' (first | with_reducible rfl | refine fcW_bd (spec_l13Const.fc imm) rfl ?_ | with_reducible refine cdW_dec (fun _ => ?_) (fun _ => ?_) | refine cdW_not (fun _ => ?_) (fun _ => ?_) | refine cdW_any (fun _ => ?_) (fun _ => ?_) | with_reducible refine gdW_decT (fun _ => ?_) (fun _ => ?_) | with_reducible refine gdW_decF (fun _ => ?_) (fun _ => ?_) | refine gdW_not (fun _ => ?_) (fun _ => ?_) | refine gdW_any (fun _ => ?_) (fun _ => ?_) | simp only [go_sem, ↓reduceIte, Nat.reduceEqDiff, Nat.reduceAdd, Nat.reduceMul, Nat.reduceBEq, Option.getD_none, Int.reduceToNat, Nat.reduceSub, Nat.reduceLT, Nat.reduceLeDiff, Int.reduceLE, Int.reduceLT, reduceCtorEq, bne, Int.reduceEq, Int.reduceBEq, Int.reduceBNe, Int.reduceLE, Int.reduceNeg, Int.reduceAdd, Int.reduceSub, Int.reduceMul, setAg, setSt, setKn, setBb, tk_S, tk_K, tk_B, take_map_len, List.length_set, *] | rfl)
  · clear h6 h7 b6
    repeat' (first | with_reducible rfl | refine fcW_bd (spec_l13Const.fc imm) rfl ?_ | with_reducible refine cdW_dec (fun _ => ?_) (fun _ => ?_) | refine cdW_not (fun _ => ?_) (fun _ => ?_) | refine cdW_any (fun _ => ?_) (fun _ => ?_) | with_reducible refine gdW_decT (fun _ => ?_) (fun _ => ?_) | with_reducible refine gdW_decF (fun _ => ?_) (fun _ => ?_) | refine gdW_not (fun _ => ?_) (fun _ => ?_) | refine gdW_any (fun _ => ?_) (fun _ => ?_) | simp only [go_sem, ↓reduceIte, Nat.reduceEqDiff, Nat.reduceAdd, Nat.reduceMul, Nat.reduceBEq, Option.getD_none, Int.reduceToNat, Nat.reduceSub, Nat.reduceLT, Nat.reduceLeDiff, Int.reduceLE, Int.reduceLT, reduceCtorEq, bne, Int.reduceEq, Int.reduceBEq, Int.reduceBNe, Int.reduceLE, Int.reduceNeg, Int.reduceAdd, Int.reduceSub, Int.reduceMul, setAg, setSt, setKn, setBb, tk_S, tk_K, tk_B, take_map_len, List.length_set, *] | rfl)
theorem mayV_fault {s : StepD} {m : MayD} : (mayV s m).2 = 0 ∨ (mayV s m).2 > 0 := by
  have key : ∀ (c : Prop) [Decidable c] (a b : MayD × Int), (a.2 = 0 ∨ a.2 > 0) → (b.2 = 0 ∨ b.2 > 0) → ((if c then a else b).2 = 0 ∨ (if c then a else b).2 > 0) := by
    intro c _ a b ha hb; split
    · exact ha
    · exact hb
  unfold mayV
  repeat' (first | exact .inl rfl | exact .inr (show (1 : Int) > 0 by decide) | exact .inr (show (2 : Int) > 0 by decide) | exact .inr (show (3 : Int) > 0 by decide) | apply key)
theorem mayV_len {s : StepD} {m : MayD} (h : MLen m) : MLen (mayV s m).1 := by
  have key : ∀ (c : Prop) [Decidable c] (a b : MayD × Int), MLen a.1 → MLen b.1 → MLen (if c then a else b).1 := by
    intro c _ a b ha hb; split
    · exact ha
    · exact hb
  have k1 : ∀ i r, MLen (putM m i r) := fun i r => putM_len h
  have k2 : ∀ i x, MLen { m with cell := m.cell.set i x, isset := m.isset.set i true } := fun i x => ⟨h.reg, h.bits, by simp [h.cell], by simp [h.isset]⟩
  unfold mayV
  repeat' (first | exact h | exact k1 _ _ | exact k2 _ _ | apply key)
def stepMayV (s : StepD) (m : MayD) : MayD × Int × Bool := if stepB s && goodMay m then (MayZ (mayV s m).1 (mayV s m).2, (mayV s m).2, true) else (zeroM, 0, false)
theorem MayZ_w {m : MayD} {f : Int} (h : MLen m) : wMay (MayZ m f) ≤ 1048576 := by
  unfold MayZ; split
  · exact wMay_len h
  · exact wMay_zero
theorem stepMay_w (s : StepD) (m : MayD) : wMay (stepMayV s m).1 ≤ 1048576 := by
  unfold stepMayV; split
  · rename_i h
    rw [Bool.and_eq_true] at h
    exact MayZ_w (mayV_len (goodMay_ok h.2).len)
  · exact wMay_zero
theorem noRs_mayT {m : MayD} {n : Int} : noRs (.tup [m.d, Ii n]) = true := by
  exact noRs_t2 noRs_May rfl
theorem impl_StepMay.fc (s : StepD) (m : MayD) (hm : wMay m ≤ 4194304) : FCt prog F_impl_StepMay [.ro, .ro] [s.d, m.d] (.tup [(stepMayV s m).1.d, Ii (stepMayV s m).2.1, Bb (stepMayV s m).2.2]) [] := by
  refine fct_run impl_StepMay.ok rfl ?_
  have c1 := impl_Step_valid.fc s
  rw [valid_step] at c1
  have c2 := impl_GoodMay.fc m hm
  unfold stepMayV zeroM
  cases h1 : stepB s with
  | false => repeat' (first | with_reducible rfl | refine fcW_bool (c1) ?_ | refine fcW_bool (c2) ?_ | with_reducible refine cdW_dec (fun _ => ?_) (fun _ => ?_) | refine cdW_not (fun _ => ?_) (fun _ => ?_) | refine cdW_any (fun _ => ?_) (fun _ => ?_) | with_reducible refine gdW_decT (fun _ => ?_) (fun _ => ?_) | with_reducible refine gdW_decF (fun _ => ?_) (fun _ => ?_) | refine gdW_not (fun _ => ?_) (fun _ => ?_) | refine gdW_any (fun _ => ?_) (fun _ => ?_) | simp only [go_sem, ↓reduceIte, Nat.reduceEqDiff, Nat.reduceAdd, Nat.reduceMul, Nat.reduceBEq, Option.getD_none, Int.reduceToNat, Nat.reduceSub, Nat.reduceLT, Nat.reduceLeDiff, Int.reduceLE, Int.reduceLT, reduceCtorEq, bne, Int.reduceEq, Int.reduceBEq, Int.reduceBNe, Int.reduceLE, Int.reduceNeg, Int.reduceAdd, Int.reduceSub, Int.reduceMul, *] | rfl)
  | true =>
    cases h2 : goodMay m with
    | false => repeat' (first | with_reducible rfl | refine fcW_bool (c1) ?_ | refine fcW_bool (c2) ?_ | with_reducible refine cdW_dec (fun _ => ?_) (fun _ => ?_) | refine cdW_not (fun _ => ?_) (fun _ => ?_) | refine cdW_any (fun _ => ?_) (fun _ => ?_) | with_reducible refine gdW_decT (fun _ => ?_) (fun _ => ?_) | with_reducible refine gdW_decF (fun _ => ?_) (fun _ => ?_) | refine gdW_not (fun _ => ?_) (fun _ => ?_) | refine gdW_any (fun _ => ?_) (fun _ => ?_) | simp only [go_sem, ↓reduceIte, Nat.reduceEqDiff, Nat.reduceAdd, Nat.reduceMul, Nat.reduceBEq, Option.getD_none, Int.reduceToNat, Nat.reduceSub, Nat.reduceLT, Nat.reduceLeDiff, Int.reduceLE, Int.reduceLT, reduceCtorEq, bne, Int.reduceEq, Int.reduceBEq, Int.reduceBNe, Int.reduceLE, Int.reduceNeg, Int.reduceAdd, Int.reduceSub, Int.reduceMul, *] | rfl)
    | true =>
      have c3 := impl_stepMay.fc s m (goodMay_ok h2) h1
      generalize MayZ (mayV s m).1 (mayV s m).2 = R0 at c3
      repeat' (first | with_reducible rfl | refine fcW_bool (c1) ?_ | refine fcW_bool (c2) ?_ | refine fcW_bd (c3) (noRs_mayT) ?_ | with_reducible refine cdW_dec (fun _ => ?_) (fun _ => ?_) | refine cdW_not (fun _ => ?_) (fun _ => ?_) | refine cdW_any (fun _ => ?_) (fun _ => ?_) | with_reducible refine gdW_decT (fun _ => ?_) (fun _ => ?_) | with_reducible refine gdW_decF (fun _ => ?_) (fun _ => ?_) | refine gdW_not (fun _ => ?_) (fun _ => ?_) | refine gdW_any (fun _ => ?_) (fun _ => ?_) | simp only [go_sem, ↓reduceIte, Nat.reduceEqDiff, Nat.reduceAdd, Nat.reduceMul, Nat.reduceBEq, Option.getD_none, Int.reduceToNat, Nat.reduceSub, Nat.reduceLT, Nat.reduceLeDiff, Int.reduceLE, Int.reduceLT, reduceCtorEq, bne, Int.reduceEq, Int.reduceBEq, Int.reduceBNe, Int.reduceLE, Int.reduceNeg, Int.reduceAdd, Int.reduceSub, Int.reduceMul, take_map_len, *] | rfl)
theorem spec_StepMay.fc (s : StepD) (m : MayD) (hm : wMay m ≤ 4194304) : FCt prog F_spec_StepMay [.ro, .ro] [s.d, m.d] (.tup [(stepMayV s m).1.d, Ii (stepMayV s m).2.1, Bb (stepMayV s m).2.2]) [] := by
  refine fct_run spec_StepMay.ok rfl ?_
  have c1 := spec_l2Step.fc s
  have c2 := spec_GoodMay.fc m hm
  unfold stepMayV zeroM MayZ
  cases h1 : stepB s with
  | false => repeat' (first | with_reducible rfl | refine fcW_bool (c1) ?_ | refine fcW_bool (c2) ?_ | with_reducible refine cdW_dec (fun _ => ?_) (fun _ => ?_) | refine cdW_not (fun _ => ?_) (fun _ => ?_) | refine cdW_any (fun _ => ?_) (fun _ => ?_) | with_reducible refine gdW_decT (fun _ => ?_) (fun _ => ?_) | with_reducible refine gdW_decF (fun _ => ?_) (fun _ => ?_) | refine gdW_not (fun _ => ?_) (fun _ => ?_) | refine gdW_any (fun _ => ?_) (fun _ => ?_) | simp only [go_sem, ↓reduceIte, Nat.reduceEqDiff, Nat.reduceAdd, Nat.reduceMul, Nat.reduceBEq, Option.getD_none, Int.reduceToNat, Nat.reduceSub, Nat.reduceLT, Nat.reduceLeDiff, Int.reduceLE, Int.reduceLT, reduceCtorEq, bne, Int.reduceEq, Int.reduceBEq, Int.reduceBNe, Int.reduceLE, Int.reduceNeg, Int.reduceAdd, Int.reduceSub, Int.reduceMul, *] | rfl)
  | true =>
    cases h2 : goodMay m with
    | false => repeat' (first | with_reducible rfl | refine fcW_bool (c1) ?_ | refine fcW_bool (c2) ?_ | with_reducible refine cdW_dec (fun _ => ?_) (fun _ => ?_) | refine cdW_not (fun _ => ?_) (fun _ => ?_) | refine cdW_any (fun _ => ?_) (fun _ => ?_) | with_reducible refine gdW_decT (fun _ => ?_) (fun _ => ?_) | with_reducible refine gdW_decF (fun _ => ?_) (fun _ => ?_) | refine gdW_not (fun _ => ?_) (fun _ => ?_) | refine gdW_any (fun _ => ?_) (fun _ => ?_) | simp only [go_sem, ↓reduceIte, Nat.reduceEqDiff, Nat.reduceAdd, Nat.reduceMul, Nat.reduceBEq, Option.getD_none, Int.reduceToNat, Nat.reduceSub, Nat.reduceLT, Nat.reduceLeDiff, Int.reduceLE, Int.reduceLT, reduceCtorEq, bne, Int.reduceEq, Int.reduceBEq, Int.reduceBNe, Int.reduceLE, Int.reduceNeg, Int.reduceAdd, Int.reduceSub, Int.reduceMul, *] | rfl)
    | true =>
      have c3 := spec_l13Step.fc s m (goodMay_ok h2) h1
      have c4 := spec_l13Own.fc m (goodMay_ok h2).len
      have sf := mayV_fault (s := s) (m := m)
      generalize mayV s m = R at c3 sf ⊢
      obtain ⟨R0, R1⟩ := R
      dsimp only at c3 sf ⊢
      rcases sf with sf | sf
      · subst sf
        repeat' (first | with_reducible rfl | refine fcW_bool (c1) ?_ | refine fcW_bool (c2) ?_ | refine fcW_bd (c4) (noRs_May) ?_ | refine coW_of (c3) (noRs_mayT) (rfl) ?_ | with_reducible refine cdW_dec (fun _ => ?_) (fun _ => ?_) | refine cdW_not (fun _ => ?_) (fun _ => ?_) | refine cdW_any (fun _ => ?_) (fun _ => ?_) | with_reducible refine gdW_decT (fun _ => ?_) (fun _ => ?_) | with_reducible refine gdW_decF (fun _ => ?_) (fun _ => ?_) | refine gdW_not (fun _ => ?_) (fun _ => ?_) | refine gdW_any (fun _ => ?_) (fun _ => ?_) | simp only [go_sem, ↓reduceIte, Nat.reduceEqDiff, Nat.reduceAdd, Nat.reduceMul, Nat.reduceBEq, Option.getD_none, Int.reduceToNat, Nat.reduceSub, Nat.reduceLT, Nat.reduceLeDiff, Int.reduceLE, Int.reduceLT, reduceCtorEq, bne, Int.reduceEq, Int.reduceBEq, Int.reduceBNe, Int.reduceLE, Int.reduceNeg, Int.reduceAdd, Int.reduceSub, Int.reduceMul, take_map_len, gt_iff_lt, Int.lt_irrefl, *] | rfl)
      · have s1 : (R1 == 0) = false := by rw [beq_eq_false_iff_ne]; omega
        repeat' (first | with_reducible rfl | refine fcW_bool (c1) ?_ | refine fcW_bool (c2) ?_ | refine fcW_bd (c4) (noRs_May) ?_ | refine coW_of (c3) (noRs_mayT) (rfl) ?_ | with_reducible refine cdW_dec (fun _ => ?_) (fun _ => ?_) | refine cdW_not (fun _ => ?_) (fun _ => ?_) | refine cdW_any (fun _ => ?_) (fun _ => ?_) | with_reducible refine gdW_decT (fun _ => ?_) (fun _ => ?_) | with_reducible refine gdW_decF (fun _ => ?_) (fun _ => ?_) | refine gdW_not (fun _ => ?_) (fun _ => ?_) | refine gdW_any (fun _ => ?_) (fun _ => ?_) | simp only [go_sem, ↓reduceIte, Nat.reduceEqDiff, Nat.reduceAdd, Nat.reduceMul, Nat.reduceBEq, Option.getD_none, Int.reduceToNat, Nat.reduceSub, Nat.reduceLT, Nat.reduceLeDiff, Int.reduceLE, Int.reduceLT, reduceCtorEq, bne, Int.reduceEq, Int.reduceBEq, Int.reduceBNe, Int.reduceLE, Int.reduceNeg, Int.reduceAdd, Int.reduceSub, Int.reduceMul, take_map_len, zeroM, *] | rfl)
end Go.Vm.Ytmicgdfekpoajaa
