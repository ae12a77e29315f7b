/- What the functions that the law reaches return: part 3 (the conditions stand at each). -/
import Derived.Test.YtmbhjcgikblpiaaGreatWkb
open Nat renaming reduceEqDiff → nE, reduceAdd → nA, reduceMul → nM, reduceBEq → nB, reduceSub → nS, reduceLT → nL, reduceLeDiff → nD
open Int renaming reduceToNat → iT, reduceLE → iE, reduceLT → iL
open Option renaming getD_none → oN
namespace Go.Vm.YtmbhjcgikblpiaaGreat
open Go Go.Vm
set_option maxRecDepth 10000
set_option maxHeartbeats 32000000
set_option linter.unusedSimpArgs false
set_option linter.unusedVariables false
theorem spec_l13Analyse.fc (p : List StepD) (op : ProgOk p) : FCt prog F_spec_l13Analyse [.ro] [steps p] (anaN p p.length).d [] := by
  refine fct_run spec_l13Analyse.ok rfl ?_
  have l1 := op.len.1
  have l2 := op.len.2
  have q1 : (p.length : Int) * (1 : Nat) ≤ 70368744177664 := by omega
  have q2 : (p.length : Int) * (96 : Nat) ≤ 70368744177664 := by omega
  have q3 : (0 : Int) < p.length := by omega
  have q4 : 0 < p.length := by omega
  have st := startM_ok.len
  have s1 := st.reg
  have s2 := st.bits
  have s3 := st.cell
  have s4 := st.isset
  have z0 : (D.agg [D.sl 2 [], D.sl 2 [], D.sl 2 [], D.sl 1 []]) = zeroM.d := rfl
  have e1 : ((List.replicate p.length (D.bool false)).set 0 (.bool true)) = ((List.replicate p.length false).set 0 true).map Bb := by simp
  have e2 : ((List.replicate p.length zeroM.d).set 0 startM.d) = ((List.replicate p.length zeroM).set 0 startM).map MayD.d := by simp
  have g0 : ∀ d : D, (List.replicate p.length d)[0]? = some d := fun d => by rw [List.getElem?_replicate, if_pos q4]
  simp only [go_sem, ↓reduceIte, nE, nA, nM, nB, oN, iT, nS, nL, nD, iE, iL, reduceCtorEq, q1, q2, q3, g0, Int.le_refl]
  refine fcW_bd spec_StartMay.fc noRs_May ?_
  simp only [go_sem, ↓reduceIte, nE, nA, nM, nB, oN, iT, nS, nL, nD, iE, iL, reduceCtorEq, q3, s1, s2, s3, s4, tk_S, tk_K, tk_B, g0, take_map_len]
  refine R_loop (α := Nat) (fun i s' M' => i ≤ p.length ∧ s' 28 = aI i ∧ M'.m 64 = some (.box 0 (.agg [.nil 1, .nil 4, .nil 1])) ∧ M'.m 256 = some (.arr 192 true 1 ((anaN p i).met.map Bb)) ∧ M'.m 448 = some (.arr 384 true 4 ((anaN p i).mays.map MayD.d)) ∧
      (∃ bx o, M'.m 576 = some (.box 512 (.agg [.sl 256 192 0 p.length 1, .sl 448 384 0 p.length 4, bx])) ∧ M'.m 3584 = o ∧ BadX 3584 bx o (anaN p i).bad)) (fun i => p.length - i) 0
    ⟨by omega, by simp only [go_sem, ↓reduceIte, nE, nA, nM, nB, oN, iT, nS, nL, nD, iE, iL, reduceCtorEq]; rfl, by simp only [go_sem, ↓reduceIte, nE, nA, nM, nB, oN, iT, nS, nL, nD, iE, iL, reduceCtorEq], by simp only [go_sem, ↓reduceIte, nE, nA, nM, nB, oN, iT, nS, nL, nD, iE, iL, reduceCtorEq, e1]; try rfl, by simp only [go_sem, ↓reduceIte, nE, nA, nM, nB, oN, iT, nS, nL, nD, iE, iL, reduceCtorEq]; rw [z0]; exact congrArg (fun z => some (Obj.arr 384 true 4 z)) e2, _, _, by simp only [go_sem, ↓reduceIte, nE, nA, nM, nB, oN, iT, nS, nL, nD, iE, iL, reduceCtorEq]; try rfl, rfl, .inl ⟨rfl, rfl⟩⟩ ?_
  rintro i s' M' ⟨hi, h28, m0, m1, m2, bx, o, m3, m4, hbx⟩ ho
  unfold spec_l13Analyse.b1
  have j0 : s' 0 = .dat none (steps p) := by rw [ho 0 rfl]; simp only [go_sem, ↓reduceIte, nE, nA, nM, nB, oN, iT, nS, nL, nD, iE, iL, reduceCtorEq]
  have j2 : s' 2 = .ptr 64 0 0 none := by rw [ho 2 rfl]; simp only [go_sem, ↓reduceIte, nE, nA, nM, nB, oN, iT, nS, nL, nD, iE, iL, reduceCtorEq]
  have j3 : s' 3 = .ptr 576 512 0 none := by rw [ho 3 rfl]; simp only [go_sem, ↓reduceIte, nE, nA, nM, nB, oN, iT, nS, nL, nD, iE, iL, reduceCtorEq]
  have j26 : s' 26 = .dat none (steps p) := by rw [ho 26 rfl]; simp only [go_sem, ↓reduceIte, nE, nA, nM, nB, oN, iT, nS, nL, nD, iE, iL, reduceCtorEq]
  have j27 : s' 27 = aI p.length := by rw [ho 27 rfl]; simp only [go_sem, ↓reduceIte, nE, nA, nM, nB, oN, iT, nS, nL, nD, iE, iL, reduceCtorEq]
  clear ho
  have ok := anaN_ok op i
  have hbl := anaN_bad (p := p) i
  by_cases hlt : i < p.length
  · have hi' : (i : Int) < p.length := by omega
    have ga : p[i]? = some p[i] := List.getElem?_eq_getElem hlt
    have hw : IntKind.i64.wrap (i + 1) = ((i + 1 : Nat) : Int) := wrap_k hlt (by omega)
    have hst : anaN p (i + 1) = anaS p i (anaN p i) := rfl
    have hv := (op.all i hlt).1
    unfold anaS at hst
    rw [ga] at hst
    dsimp only at hst
    generalize p[i] = s at ga hv hst
    generalize anaN p i = r at hst ok hbl m1 m2 hbx
    have gm : r.met[i]? = some (metB r i) := getD_some (by rw [ok.lm]; exact hlt)
    have gy : r.mays[i]? = some (getM r i) := getD_some (by rw [ok.ly]; exact hlt)
    cases hm : metB r i with
    | false =>
      rw [hm] at hst gm
      simp only [Bool.false_eq_true, if_false] at hst
      simp only [go_sem, ↓reduceIte, nE, nA, nM, nB, oN, iT, nS, nL, nD, iE, iL, reduceCtorEq, gm, j0, j2, j3, j26, j27, h28, m0, m1, m2, m3, m4, hi', ga, hw]
      exact ⟨i + 1, by dsimp only; omega, by omega, by simp only [go_sem, ↓reduceIte, nE, nA, nM, nB, oN, iT, nS, nL, nD, iE, iL, reduceCtorEq, j0, j2, j3, j26, j27, h28, m0, m1, m2, m3, m4, hi', ga, hw], by simp only [go_sem, ↓reduceIte, nE, nA, nM, nB, oN, iT, nS, nL, nD, iE, iL, reduceCtorEq, j0, j2, j3, j26, j27, h28, m0, m1, m2, m3, m4, hi', ga, hw], by simp only [go_sem, ↓reduceIte, nE, nA, nM, nB, oN, iT, nS, nL, nD, iE, iL, reduceCtorEq, hst, j0, j2, j3, j26, j27, h28, m0, m1, m2, m3, m4, hi', ga, hw], by simp only [go_sem, ↓reduceIte, nE, nA, nM, nB, oN, iT, nS, nL, nD, iE, iL, reduceCtorEq, hst, j0, j2, j3, j26, j27, h28, m0, m1, m2, m3, m4, hi', ga, hw], _, _, by simp only [go_sem, ↓reduceIte, nE, nA, nM, nB, oN, iT, nS, nL, nD, iE, iL, reduceCtorEq, j0, j2, j3, j26, j27, h28, m0, m1, m2, m3, m4, hi', ga, hw]; rfl, rfl, by simp only [go_sem, ↓reduceIte, nE, nA, nM, nB, oN, iT, nS, nL, nD, iE, iL, reduceCtorEq, j0, j2, j3, j26, j27, h28, m0, m1, m2, m3, m4, hi', ga, hw]; rw [hst]; exact hbx⟩
    | true =>
      rw [hm] at hst gm
      simp only [if_true] at hst
      have om := ok.ok i hm
      have cs := spec_l13Step.fc s (getM r i) om hv
      have oa := mayV_ok om hv
      generalize getM r i = m at gy om cs oa hst
      simp only [go_sem, ↓reduceIte, nE, nA, nM, nB, oN, iT, nS, nL, nD, iE, iL, reduceCtorEq, gm, gy, j0, j2, j3, j26, j27, h28, m0, m1, m2, m3, m4, hi', ga, hw]
      refine fcW_bd (spec_l13Own.fc m om.len) noRs_May ?_
      have M1 := tk_S om.reg
      have M2 := tk_K om.bits
      have M3 := tk_S om.cell
      have M4 := tk_B om.isset
      have M5 := om.reg
      have M6 := om.bits
      have M7 := om.cell
      have M8 := om.isset
      have hfz := mayV_fault (s := s) (m := m)
      generalize mayV s m = A at cs oa hst hfz
      obtain ⟨a, f⟩ := A
      dsimp only at cs oa hst hfz
      simp only [go_sem, ↓reduceIte, nE, nA, nM, nB, oN, iT, nS, nL, nD, iE, iL, reduceCtorEq, M1, M2, M3, M4, M5, M6, M7, M8, Nat.le_refl, j0, j2, j3, j26, j27, h28, m0, m1, m2, m3, m4, hi', ga, hw]
      refine coW_of cs noRs_mayI rfl ?_
      cases hf : (f == 0) with
      | false =>
        have hf2 : f > 0 := by rcases hfz with q | q; rw [q] at hf; cases hf; exact q
        rw [hf] at hst
        simp only [Bool.false_eq_true, if_false] at hst
        have hbb : (r.bad.length + 1) * 8 ≤ 70368744177664 := by omega
        have sn : r.bad.map Ii ++ [Ii i] = (r.bad ++ [(i : Int)]).map Ii := by simp
        have el : (r.bad ++ [(i : Int)]).length = r.bad.length + 1 := by simp
        have el2 : ([(i : Int)] : List Int).length = 1 := rfl
        have tk : (r.bad.map Ii).take r.bad.length = r.bad.map Ii := List.take_of_length_le (by simp)
        rcases hbx with ⟨b1, b2⟩ | ⟨v, b1, b2⟩
        · subst b2
          simp only [go_sem, ↓reduceIte, nE, nA, nM, nB, oN, iT, nS, nL, nD, iE, iL, reduceCtorEq, hf2, j0, j2, j3, j26, j27, h28, m0, m1, m2, m3, m4, hi', ga, hw]
          exact ⟨i + 1, by dsimp only; omega, by omega, by simp only [go_sem, ↓reduceIte, nE, nA, nM, nB, oN, iT, nS, nL, nD, iE, iL, reduceCtorEq, j0, j2, j3, j26, j27, h28, m0, m1, m2, m3, m4, hi', ga, hw], by simp only [go_sem, ↓reduceIte, nE, nA, nM, nB, oN, iT, nS, nL, nD, iE, iL, reduceCtorEq, j0, j2, j3, j26, j27, h28, m0, m1, m2, m3, m4, hi', ga, hw], by simp only [go_sem, ↓reduceIte, nE, nA, nM, nB, oN, iT, nS, nL, nD, iE, iL, reduceCtorEq, hst, j0, j2, j3, j26, j27, h28, m0, m1, m2, m3, m4, hi', ga, hw], by simp only [go_sem, ↓reduceIte, nE, nA, nM, nB, oN, iT, nS, nL, nD, iE, iL, reduceCtorEq, hst, j0, j2, j3, j26, j27, h28, m0, m1, m2, m3, m4, hi', ga, hw], _, _, by simp only [go_sem, ↓reduceIte, nE, nA, nM, nB, oN, iT, nS, nL, nD, iE, iL, reduceCtorEq, j0, j2, j3, j26, j27, h28, m0, m1, m2, m3, m4, hi', ga, hw]; try rfl, rfl, .inr ⟨_, by rw [hst]; dsimp only; rw [b1]; rfl, by simp only [go_sem, ↓reduceIte, nE, nA, nM, nB, oN, iT, nS, nL, nD, iE, iL, reduceCtorEq, hst, b1, j0, j2, j3, j26, j27, h28, m0, m1, m2, m3, m4, hi', ga, hw]; try rfl⟩⟩
        · subst b1
          rw [b2] at m4
          simp only [go_sem, ↓reduceIte, nE, nA, nM, nB, oN, iT, nS, nL, nD, iE, iL, reduceCtorEq, hf2, m4, hbb, sn, tk, j0, j2, j3, j26, j27, h28, m0, m1, m2, m3, m4, hi', ga, hw]
          exact ⟨i + 1, by dsimp only; omega, by omega, by simp only [go_sem, ↓reduceIte, nE, nA, nM, nB, oN, iT, nS, nL, nD, iE, iL, reduceCtorEq, j0, j2, j3, j26, j27, h28, m0, m1, m2, m3, m4, hi', ga, hw], by simp only [go_sem, ↓reduceIte, nE, nA, nM, nB, oN, iT, nS, nL, nD, iE, iL, reduceCtorEq, j0, j2, j3, j26, j27, h28, m0, m1, m2, m3, m4, hi', ga, hw], by simp only [go_sem, ↓reduceIte, nE, nA, nM, nB, oN, iT, nS, nL, nD, iE, iL, reduceCtorEq, hst, j0, j2, j3, j26, j27, h28, m0, m1, m2, m3, m4, hi', ga, hw], by simp only [go_sem, ↓reduceIte, nE, nA, nM, nB, oN, iT, nS, nL, nD, iE, iL, reduceCtorEq, hst, j0, j2, j3, j26, j27, h28, m0, m1, m2, m3, m4, hi', ga, hw], _, _, by simp only [go_sem, ↓reduceIte, nE, nA, nM, nB, oN, iT, nS, nL, nD, iE, iL, reduceCtorEq, j0, j2, j3, j26, j27, h28, m0, m1, m2, m3, m4, hi', ga, hw]; try rfl, rfl, .inr ⟨_, by rw [hst]; dsimp only; rw [el]; try rfl, by simp only [go_sem, ↓reduceIte, nE, nA, nM, nB, oN, iT, nS, nL, nD, iE, iL, reduceCtorEq, hst, j0, j2, j3, j26, j27, h28, m0, m1, m2, m3, m4, hi', ga, hw]; try rfl⟩⟩
      | true =>
        have hf2 : ¬ f > 0 := by have : f = 0 := (by simpa using hf); omega
        rw [hf] at hst
        simp only [if_true] at hst
        simp only [go_sem, ↓reduceIte, nE, nA, nM, nB, oN, iT, nS, nL, nD, iE, iL, reduceCtorEq, hf2, j0, j2, j3, j26, j27, h28, m0, m1, m2, m3, m4, hi', ga, hw]
        have cn := spec_l2Nexts.fc p i s (by omega) hi' op.len.2 (by rw [Int.toNat_natCast]; exact ga) hv
        have hnx : ∀ x ∈ nextsL s i, 0 ≤ x ∧ x < p.length := fun x hx => next_in (b := x) op (by omega) (by rw [Int.toNat_natCast]; exact ga) (List.any_eq_true.2 ⟨x, hx, by simp⟩)
        have hbr : brB s = true → s.kind = 9 ∨ s.kind = 10 := fun h => by simpa [brB] using h
        have co := spec_l13Own.fc a oa.len
        have hlen : (nextsL s i).length ≤ 2 := by
          unfold nextsL
          repeat' split
          all_goals simp
        generalize nextsL s i = N at cn hnx hst hlen
        refine fcW_bd cn noRs_ints ?_
        obtain ⟨a1, a2, a3, a4, _, _, _⟩ := oa.len.reg, oa.len.bits, oa.len.cell, oa.len.isset, trivial, trivial, trivial
        simp only [go_sem, ↓reduceIte, nE, nA, nM, nB, oN, iT, nS, nL, nD, iE, iL, reduceCtorEq, j0, j2, j3, j26, j27, h28, m0, m1, m2, m3, m4, hi', ga, hw]
        generalize hR : foldN s a 0 N r = R at hst
        refine R_loop (α := Nat × RepD) (fun b s' M' => b.1 ≤ N.length ∧ s' 62 = aI b.1 ∧ foldN s a b.1 (N.drop b.1) b.2 = R ∧ RepOk p b.2 ∧ b.2.bad = r.bad ∧ M'.m 64 = some (.box 0 (.agg [.nil 1, .nil 4, .nil 1])) ∧ M'.m 256 = some (.arr 192 true 1 (b.2.met.map Bb)) ∧ M'.m 448 = some (.arr 384 true 4 (b.2.mays.map MayD.d)) ∧
            M'.m 576 = some (.box 512 (.agg [.sl 256 192 0 p.length 1, .sl 448 384 0 p.length 4, bx])) ∧ M'.m 3584 = o ∧
            (∃ v, M'.m 1728 = some (.box v (.dat none s.d)) ∧ s' 5 = .ptr 1728 v 0 none) ∧ (∃ v, M'.m 3904 = some (.arr v true 1 (N.map Ii)) ∧ s' 60 = .sl 3904 v 0 N.length 1) ∧
            (∃ v v1 v2 v3 v4, M'.m 3008 = some (.box v (.agg [.sl 2752 v1 0 6 2, .sl 2753 v2 0 6 2, .sl 2754 v3 0 16 2, .sl 2755 v4 0 16 1])) ∧ s' 6 = .ptr 3008 v 0 none ∧ M'.m 2752 = some (.arr v1 true 2 (a.reg.map strD)) ∧ M'.m 2753 = some (.arr v2 true 2 (a.bits.map knownD)) ∧ M'.m 2754 = some (.arr v3 true 2 (a.cell.map strD)) ∧ M'.m 2755 = some (.arr v4 true 1 (a.isset.map Bb))))
          (fun b => N.length - b.1) (0, r)
          ⟨Nat.zero_le _, by simp only [go_sem, ↓reduceIte, nE, nA, nM, nB, oN, iT, nS, nL, nD, iE, iL, reduceCtorEq, j0, j2, j3, j26, j27, h28, m0, m1, m2, m3, m4, hi', ga, hw]; rfl, hR, ok, rfl, by simp only [go_sem, ↓reduceIte, nE, nA, nM, nB, oN, iT, nS, nL, nD, iE, iL, reduceCtorEq, j0, j2, j3, j26, j27, h28, m0, m1, m2, m3, m4, hi', ga, hw], by simp only [go_sem, ↓reduceIte, nE, nA, nM, nB, oN, iT, nS, nL, nD, iE, iL, reduceCtorEq, j0, j2, j3, j26, j27, h28, m0, m1, m2, m3, m4, hi', ga, hw], by simp only [go_sem, ↓reduceIte, nE, nA, nM, nB, oN, iT, nS, nL, nD, iE, iL, reduceCtorEq, j0, j2, j3, j26, j27, h28, m0, m1, m2, m3, m4, hi', ga, hw], by simp only [go_sem, ↓reduceIte, nE, nA, nM, nB, oN, iT, nS, nL, nD, iE, iL, reduceCtorEq, j0, j2, j3, j26, j27, h28, m0, m1, m2, m3, m4, hi', ga, hw], by simp only [go_sem, ↓reduceIte, nE, nA, nM, nB, oN, iT, nS, nL, nD, iE, iL, reduceCtorEq, j0, j2, j3, j26, j27, h28, m0, m1, m2, m3, m4, hi', ga, hw]; try simp, ⟨_, by simp only [go_sem, ↓reduceIte, nE, nA, nM, nB, oN, iT, nS, nL, nD, iE, iL, reduceCtorEq, j0, j2, j3, j26, j27, h28, m0, m1, m2, m3, m4, hi', ga, hw]; try rfl, by simp only [go_sem, ↓reduceIte, nE, nA, nM, nB, oN, iT, nS, nL, nD, iE, iL, reduceCtorEq, j0, j2, j3, j26, j27, h28, m0, m1, m2, m3, m4, hi', ga, hw]; try rfl⟩, ⟨_, by simp only [go_sem, ↓reduceIte, nE, nA, nM, nB, oN, iT, nS, nL, nD, iE, iL, reduceCtorEq, j0, j2, j3, j26, j27, h28, m0, m1, m2, m3, m4, hi', ga, hw]; try rfl, by simp only [go_sem, ↓reduceIte, nE, nA, nM, nB, oN, iT, nS, nL, nD, iE, iL, reduceCtorEq, j0, j2, j3, j26, j27, h28, m0, m1, m2, m3, m4, hi', ga, hw]; try rfl⟩, ⟨_, _, _, _, _, by simp only [go_sem, ↓reduceIte, nE, nA, nM, nB, oN, iT, nS, nL, nD, iE, iL, reduceCtorEq, a1, a2, a3, a4, j0, j2, j3, j26, j27, h28, m0, m1, m2, m3, m4, hi', ga, hw]; try rfl, by simp only [go_sem, ↓reduceIte, nE, nA, nM, nB, oN, iT, nS, nL, nD, iE, iL, reduceCtorEq, j0, j2, j3, j26, j27, h28, m0, m1, m2, m3, m4, hi', ga, hw]; try rfl, by simp only [go_sem, ↓reduceIte, nE, nA, nM, nB, oN, iT, nS, nL, nD, iE, iL, reduceCtorEq, j0, j2, j3, j26, j27, h28, m0, m1, m2, m3, m4, hi', ga, hw]; try rfl, by simp only [go_sem, ↓reduceIte, nE, nA, nM, nB, oN, iT, nS, nL, nD, iE, iL, reduceCtorEq, j0, j2, j3, j26, j27, h28, m0, m1, m2, m3, m4, hi', ga, hw]; try rfl, by simp only [go_sem, ↓reduceIte, nE, nA, nM, nB, oN, iT, nS, nL, nD, iE, iL, reduceCtorEq, j0, j2, j3, j26, j27, h28, m0, m1, m2, m3, m4, hi', ga, hw]; try rfl, by simp only [go_sem, ↓reduceIte, nE, nA, nM, nB, oN, iT, nS, nL, nD, iE, iL, reduceCtorEq, j0, j2, j3, j26, j27, h28, m0, m1, m2, m3, m4, hi', ga, hw]; try rfl⟩⟩ ?_
        rintro ⟨n, q⟩ s2 M2 ⟨hn, h62, hfo, oq, hqb, m0, m1, m2, m3, m4, ⟨v6, m6, h6⟩, ⟨vN, mN, hN⟩, ⟨v7, w1, w2, w3, w4, m7, h7, y1, y2, y3, y4⟩⟩ ho
        dsimp only at hn h62 hfo oq hqb m1 m2
        unfold spec_l13Analyse.b0
        have g0 : s2 0 = .dat none (steps p) := by rw [ho 0 rfl]; simp only [go_sem, ↓reduceIte, nE, nA, nM, nB, oN, iT, nS, nL, nD, iE, iL, reduceCtorEq, j0, j2, j3, j26, j27, h28, m0, m1, m2, m3, m4, hi', ga, hw]
        have g2 : s2 2 = .ptr 64 0 0 none := by rw [ho 2 rfl]; simp only [go_sem, ↓reduceIte, nE, nA, nM, nB, oN, iT, nS, nL, nD, iE, iL, reduceCtorEq, j0, j2, j3, j26, j27, h28, m0, m1, m2, m3, m4, hi', ga, hw]
        have g3 : s2 3 = .ptr 576 512 0 none := by rw [ho 3 rfl]; simp only [go_sem, ↓reduceIte, nE, nA, nM, nB, oN, iT, nS, nL, nD, iE, iL, reduceCtorEq, j0, j2, j3, j26, j27, h28, m0, m1, m2, m3, m4, hi', ga, hw]
        have g26 : s2 26 = .dat none (steps p) := by rw [ho 26 rfl]; simp only [go_sem, ↓reduceIte, nE, nA, nM, nB, oN, iT, nS, nL, nD, iE, iL, reduceCtorEq, j0, j2, j3, j26, j27, h28, m0, m1, m2, m3, m4, hi', ga, hw]
        have g27 : s2 27 = aI p.length := by rw [ho 27 rfl]; simp only [go_sem, ↓reduceIte, nE, nA, nM, nB, oN, iT, nS, nL, nD, iE, iL, reduceCtorEq, j0, j2, j3, j26, j27, h28, m0, m1, m2, m3, m4, hi', ga, hw]
        have g61 : s2 61 = aI N.length := by rw [ho 61 rfl]; simp only [go_sem, ↓reduceIte, nE, nA, nM, nB, oN, iT, nS, nL, nD, iE, iL, reduceCtorEq, j0, j2, j3, j26, j27, h28, m0, m1, m2, m3, m4, hi', ga, hw]
        have g28 : s2 28 = aI i := by rw [ho 28 rfl]; simp only [go_sem, ↓reduceIte, nE, nA, nM, nB, oN, iT, nS, nL, nD, iE, iL, reduceCtorEq, j0, j2, j3, j26, j27, h28, m0, m1, m2, m3, m4, hi', ga, hw]
        clear ho
        by_cases hltn : n < N.length
        · have hn' : (n : Int) < N.length := by omega
          have gn : N[n]? = some N[n] := List.getElem?_eq_getElem hltn
          have hwn : IntKind.i64.wrap (n + 1) = ((n + 1 : Nat) : Int) := wrap_k hltn (by omega)
          have hd : N.drop n = N[n] :: N.drop (n + 1) := List.drop_eq_getElem_cons hltn
          have hx := hnx N[n] (List.getElem_mem hltn)
          rw [hd, foldN_cons] at hfo
          generalize N[n] = x at gn hx hfo
          have T1 := tk_S a1
          have T2 := tk_K a2
          have T3 := tk_S a3
          have T4 := tk_B a4
          have x0 := hx.1
          have x1 := hx.2
          have gk : q.met[x.toNat]? = some (metB q x.toNat) := getD_some (by rw [oq.lm]; omega)
          have gy : q.mays[x.toNat]? = some (getM q x.toNat) := getD_some (by rw [oq.ly]; omega)
          have hxl : x.toNat < p.length := by omega
          simp only [go_sem, ↓reduceIte, nE, nA, nM, nB, oN, iT, nS, nL, nD, iE, iL, reduceCtorEq, a1, a2, a3, a4, T1, T2, T3, T4, Nat.le_refl, j0, j2, j3, j26, j27, h28, m0, m1, m2, m3, m4, hi', ga, hw, g0, g2, g3, g26, g27, g61, g28, h62, m0, m1, m2, m3, m4, m6, h6, mN, hN, m7, h7, y1, y2, y3, y4, hn', gn, hwn, x0, x1, gk, gy]
          refine fcW_bd co noRs_May ?_
          cases hbb : brB s with
          | true =>
            have ch := spec_l13Heed.fc s a ((n : Int) == 1) oa hv (hbr hbb)
            have oh := heedV_ok (t := ((n : Int) == 1)) oa hv
            have hfs : flowS s a n x q = if (heedV s a ((n : Int) == 1)).2 then landM q x.toNat (heedV s a ((n : Int) == 1)).1 else q := by unfold flowS; rw [hbb]; rfl
            rw [hfs] at hfo
            generalize heedV s a ((n : Int) == 1) = H at ch oh hfo
            obtain ⟨h, t⟩ := H
            dsimp only at ch oh hfo
            rcases hbr hbb with k9 | k9 <;>
            · simp only [go_sem, ↓reduceIte, nE, nA, nM, nB, oN, iT, nS, nL, nD, iE, iL, reduceCtorEq, a1, a2, a3, a4, T1, T2, T3, T4, Nat.le_refl, k9, Int.reduceBEq, j0, j2, j3, j26, j27, h28, m0, m1, m2, m3, m4, hi', ga, hw, g0, g2, g3, g26, g27, g61, g28, h62, m0, m1, m2, m3, m4, m6, h6, mN, hN, m7, h7, y1, y2, y3, y4, hn', gn, hwn, x0, x1, gk, gy]
              refine coW_of ch noRs_mayB rfl ?_
              cases t with
              | false =>
                simp only [Bool.false_eq_true, if_false] at hfo
                simp only [go_sem, ↓reduceIte, nE, nA, nM, nB, oN, iT, nS, nL, nD, iE, iL, reduceCtorEq, j0, j2, j3, j26, j27, h28, m0, m1, m2, m3, m4, hi', ga, hw, g0, g2, g3, g26, g27, g61, g28, h62, m0, m1, m2, m3, m4, m6, h6, mN, hN, m7, h7, y1, y2, y3, y4, hn', gn, hwn, x0, x1, gk, gy]
                exact ⟨(n + 1, q), by dsimp only; omega, by dsimp only; omega, by simp only [go_sem, ↓reduceIte, nE, nA, nM, nB, oN, iT, nS, nL, nD, iE, iL, reduceCtorEq, j0, j2, j3, j26, j27, h28, m0, m1, m2, m3, m4, hi', ga, hw, g0, g2, g3, g26, g27, g61, g28, h62, m0, m1, m2, m3, m4, m6, h6, mN, hN, m7, h7, y1, y2, y3, y4, hn', gn, hwn, x0, x1, gk, gy], hfo, oq, hqb, by simp only [go_sem, ↓reduceIte, nE, nA, nM, nB, oN, iT, nS, nL, nD, iE, iL, reduceCtorEq, j0, j2, j3, j26, j27, h28, m0, m1, m2, m3, m4, hi', ga, hw, g0, g2, g3, g26, g27, g61, g28, h62, m0, m1, m2, m3, m4, m6, h6, mN, hN, m7, h7, y1, y2, y3, y4, hn', gn, hwn, x0, x1, gk, gy], by simp only [go_sem, ↓reduceIte, nE, nA, nM, nB, oN, iT, nS, nL, nD, iE, iL, reduceCtorEq, j0, j2, j3, j26, j27, h28, m0, m1, m2, m3, m4, hi', ga, hw, g0, g2, g3, g26, g27, g61, g28, h62, m0, m1, m2, m3, m4, m6, h6, mN, hN, m7, h7, y1, y2, y3, y4, hn', gn, hwn, x0, x1, gk, gy], by simp only [go_sem, ↓reduceIte, nE, nA, nM, nB, oN, iT, nS, nL, nD, iE, iL, reduceCtorEq, j0, j2, j3, j26, j27, h28, m0, m1, m2, m3, m4, hi', ga, hw, g0, g2, g3, g26, g27, g61, g28, h62, m0, m1, m2, m3, m4, m6, h6, mN, hN, m7, h7, y1, y2, y3, y4, hn', gn, hwn, x0, x1, gk, gy], by simp only [go_sem, ↓reduceIte, nE, nA, nM, nB, oN, iT, nS, nL, nD, iE, iL, reduceCtorEq, j0, j2, j3, j26, j27, h28, m0, m1, m2, m3, m4, hi', ga, hw, g0, g2, g3, g26, g27, g61, g28, h62, m0, m1, m2, m3, m4, m6, h6, mN, hN, m7, h7, y1, y2, y3, y4, hn', gn, hwn, x0, x1, gk, gy], by simp only [go_sem, ↓reduceIte, nE, nA, nM, nB, oN, iT, nS, nL, nD, iE, iL, reduceCtorEq, j0, j2, j3, j26, j27, h28, m0, m1, m2, m3, m4, hi', ga, hw, g0, g2, g3, g26, g27, g61, g28, h62, m0, m1, m2, m3, m4, m6, h6, mN, hN, m7, h7, y1, y2, y3, y4, hn', gn, hwn, x0, x1, gk, gy], ⟨_, by simp only [go_sem, ↓reduceIte, nE, nA, nM, nB, oN, iT, nS, nL, nD, iE, iL, reduceCtorEq, j0, j2, j3, j26, j27, h28, m0, m1, m2, m3, m4, hi', ga, hw, g0, g2, g3, g26, g27, g61, g28, h62, m0, m1, m2, m3, m4, m6, h6, mN, hN, m7, h7, y1, y2, y3, y4, hn', gn, hwn, x0, x1, gk, gy]; try rfl, by simp only [go_sem, ↓reduceIte, nE, nA, nM, nB, oN, iT, nS, nL, nD, iE, iL, reduceCtorEq, j0, j2, j3, j26, j27, h28, m0, m1, m2, m3, m4, hi', ga, hw, g0, g2, g3, g26, g27, g61, g28, h62, m0, m1, m2, m3, m4, m6, h6, mN, hN, m7, h7, y1, y2, y3, y4, hn', gn, hwn, x0, x1, gk, gy]; try rfl⟩, ⟨_, by simp only [go_sem, ↓reduceIte, nE, nA, nM, nB, oN, iT, nS, nL, nD, iE, iL, reduceCtorEq, j0, j2, j3, j26, j27, h28, m0, m1, m2, m3, m4, hi', ga, hw, g0, g2, g3, g26, g27, g61, g28, h62, m0, m1, m2, m3, m4, m6, h6, mN, hN, m7, h7, y1, y2, y3, y4, hn', gn, hwn, x0, x1, gk, gy]; try rfl, by simp only [go_sem, ↓reduceIte, nE, nA, nM, nB, oN, iT, nS, nL, nD, iE, iL, reduceCtorEq, j0, j2, j3, j26, j27, h28, m0, m1, m2, m3, m4, hi', ga, hw, g0, g2, g3, g26, g27, g61, g28, h62, m0, m1, m2, m3, m4, m6, h6, mN, hN, m7, h7, y1, y2, y3, y4, hn', gn, hwn, x0, x1, gk, gy]; try rfl⟩, ⟨_, _, _, _, _, by simp only [go_sem, ↓reduceIte, nE, nA, nM, nB, oN, iT, nS, nL, nD, iE, iL, reduceCtorEq, j0, j2, j3, j26, j27, h28, m0, m1, m2, m3, m4, hi', ga, hw, g0, g2, g3, g26, g27, g61, g28, h62, m0, m1, m2, m3, m4, m6, h6, mN, hN, m7, h7, y1, y2, y3, y4, hn', gn, hwn, x0, x1, gk, gy]; try rfl, by simp only [go_sem, ↓reduceIte, nE, nA, nM, nB, oN, iT, nS, nL, nD, iE, iL, reduceCtorEq, j0, j2, j3, j26, j27, h28, m0, m1, m2, m3, m4, hi', ga, hw, g0, g2, g3, g26, g27, g61, g28, h62, m0, m1, m2, m3, m4, m6, h6, mN, hN, m7, h7, y1, y2, y3, y4, hn', gn, hwn, x0, x1, gk, gy]; try rfl, by simp only [go_sem, ↓reduceIte, nE, nA, nM, nB, oN, iT, nS, nL, nD, iE, iL, reduceCtorEq, j0, j2, j3, j26, j27, h28, m0, m1, m2, m3, m4, hi', ga, hw, g0, g2, g3, g26, g27, g61, g28, h62, m0, m1, m2, m3, m4, m6, h6, mN, hN, m7, h7, y1, y2, y3, y4, hn', gn, hwn, x0, x1, gk, gy]; try rfl, by simp only [go_sem, ↓reduceIte, nE, nA, nM, nB, oN, iT, nS, nL, nD, iE, iL, reduceCtorEq, j0, j2, j3, j26, j27, h28, m0, m1, m2, m3, m4, hi', ga, hw, g0, g2, g3, g26, g27, g61, g28, h62, m0, m1, m2, m3, m4, m6, h6, mN, hN, m7, h7, y1, y2, y3, y4, hn', gn, hwn, x0, x1, gk, gy]; try rfl, by simp only [go_sem, ↓reduceIte, nE, nA, nM, nB, oN, iT, nS, nL, nD, iE, iL, reduceCtorEq, j0, j2, j3, j26, j27, h28, m0, m1, m2, m3, m4, hi', ga, hw, g0, g2, g3, g26, g27, g61, g28, h62, m0, m1, m2, m3, m4, m6, h6, mN, hN, m7, h7, y1, y2, y3, y4, hn', gn, hwn, x0, x1, gk, gy]; try rfl, by simp only [go_sem, ↓reduceIte, nE, nA, nM, nB, oN, iT, nS, nL, nD, iE, iL, reduceCtorEq, j0, j2, j3, j26, j27, h28, m0, m1, m2, m3, m4, hi', ga, hw, g0, g2, g3, g26, g27, g61, g28, h62, m0, m1, m2, m3, m4, m6, h6, mN, hN, m7, h7, y1, y2, y3, y4, hn', gn, hwn, x0, x1, gk, gy]; try rfl⟩⟩
              | true =>
                simp only [if_true] at hfo
                have oh := oh rfl
                obtain ⟨b1, b2, b3, b4⟩ := oh.len
                have U1 := tk_S b1
                have U2 := tk_K b2
                have U3 := tk_S b3
                have U4 := tk_B b4
                simp only [go_sem, ↓reduceIte, nE, nA, nM, nB, oN, iT, nS, nL, nD, iE, iL, reduceCtorEq, j0, j2, j3, j26, j27, h28, m0, m1, m2, m3, m4, hi', ga, hw, g0, g2, g3, g26, g27, g61, g28, h62, m0, m1, m2, m3, m4, m6, h6, mN, hN, m7, h7, y1, y2, y3, y4, hn', gn, hwn, x0, x1, gk, gy]
                have ol := landM_ok (k := x.toNat) oq oh
                have hlb : (landM q x.toNat h).bad = q.bad := landM_bad
                cases hk : metB q x.toNat with
                | true =>
                  have cj := spec_l13Join.fc (getM q x.toNat) h (oq.ok _ hk).len oh.len
                  have hl : landM q x.toNat h = { q with mays := q.mays.set x.toNat (joinM (getM q x.toNat) h) } := by unfold landM; rw [hk]; rfl
                  obtain ⟨c1, c2, c3, c4⟩ := joinM_len (oq.ok _ hk).len oh.len
                  generalize joinM (getM q x.toNat) h = J at cj hl c1 c2 c3 c4
                  rw [hl] at ol hlb hfo
                  have V1 := tk_S c1
                  have V2 := tk_K c2
                  have V3 := tk_S c3
                  have V4 := tk_B c4
                  simp only [go_sem, ↓reduceIte, nE, nA, nM, nB, oN, iT, nS, nL, nD, iE, iL, reduceCtorEq, b1, b2, b3, b4, U1, U2, U3, U4, Nat.le_refl, j0, j2, j3, j26, j27, h28, m0, m1, m2, m3, m4, hi', ga, hw, g0, g2, g3, g26, g27, g61, g28, h62, m0, m1, m2, m3, m4, m6, h6, mN, hN, m7, h7, y1, y2, y3, y4, hn', gn, hwn, x0, x1, gk, gy]
                  refine fcW_bd cj noRs_May ?_
                  simp only [go_sem, ↓reduceIte, nE, nA, nM, nB, oN, iT, nS, nL, nD, iE, iL, reduceCtorEq, c1, c2, c3, c4, V1, V2, V3, V4, Nat.le_refl, hxl, my_set, j0, j2, j3, j26, j27, h28, m0, m1, m2, m3, m4, hi', ga, hw, g0, g2, g3, g26, g27, g61, g28, h62, m0, m1, m2, m3, m4, m6, h6, mN, hN, m7, h7, y1, y2, y3, y4, hn', gn, hwn, x0, x1, gk, gy]
                  exact ⟨(n + 1, _), by dsimp only; omega, by dsimp only; omega, by simp only [go_sem, ↓reduceIte, nE, nA, nM, nB, oN, iT, nS, nL, nD, iE, iL, reduceCtorEq, j0, j2, j3, j26, j27, h28, m0, m1, m2, m3, m4, hi', ga, hw, g0, g2, g3, g26, g27, g61, g28, h62, m0, m1, m2, m3, m4, m6, h6, mN, hN, m7, h7, y1, y2, y3, y4, hn', gn, hwn, x0, x1, gk, gy], hfo, ol, hlb.trans hqb, by simp only [go_sem, ↓reduceIte, nE, nA, nM, nB, oN, iT, nS, nL, nD, iE, iL, reduceCtorEq, j0, j2, j3, j26, j27, h28, m0, m1, m2, m3, m4, hi', ga, hw, g0, g2, g3, g26, g27, g61, g28, h62, m0, m1, m2, m3, m4, m6, h6, mN, hN, m7, h7, y1, y2, y3, y4, hn', gn, hwn, x0, x1, gk, gy], by simp only [go_sem, ↓reduceIte, nE, nA, nM, nB, oN, iT, nS, nL, nD, iE, iL, reduceCtorEq, j0, j2, j3, j26, j27, h28, m0, m1, m2, m3, m4, hi', ga, hw, g0, g2, g3, g26, g27, g61, g28, h62, m0, m1, m2, m3, m4, m6, h6, mN, hN, m7, h7, y1, y2, y3, y4, hn', gn, hwn, x0, x1, gk, gy], by simp only [go_sem, ↓reduceIte, nE, nA, nM, nB, oN, iT, nS, nL, nD, iE, iL, reduceCtorEq, j0, j2, j3, j26, j27, h28, m0, m1, m2, m3, m4, hi', ga, hw, g0, g2, g3, g26, g27, g61, g28, h62, m0, m1, m2, m3, m4, m6, h6, mN, hN, m7, h7, y1, y2, y3, y4, hn', gn, hwn, x0, x1, gk, gy], by simp only [go_sem, ↓reduceIte, nE, nA, nM, nB, oN, iT, nS, nL, nD, iE, iL, reduceCtorEq, j0, j2, j3, j26, j27, h28, m0, m1, m2, m3, m4, hi', ga, hw, g0, g2, g3, g26, g27, g61, g28, h62, m0, m1, m2, m3, m4, m6, h6, mN, hN, m7, h7, y1, y2, y3, y4, hn', gn, hwn, x0, x1, gk, gy], by simp only [go_sem, ↓reduceIte, nE, nA, nM, nB, oN, iT, nS, nL, nD, iE, iL, reduceCtorEq, j0, j2, j3, j26, j27, h28, m0, m1, m2, m3, m4, hi', ga, hw, g0, g2, g3, g26, g27, g61, g28, h62, m0, m1, m2, m3, m4, m6, h6, mN, hN, m7, h7, y1, y2, y3, y4, hn', gn, hwn, x0, x1, gk, gy], ⟨_, by simp only [go_sem, ↓reduceIte, nE, nA, nM, nB, oN, iT, nS, nL, nD, iE, iL, reduceCtorEq, j0, j2, j3, j26, j27, h28, m0, m1, m2, m3, m4, hi', ga, hw, g0, g2, g3, g26, g27, g61, g28, h62, m0, m1, m2, m3, m4, m6, h6, mN, hN, m7, h7, y1, y2, y3, y4, hn', gn, hwn, x0, x1, gk, gy]; try rfl, by simp only [go_sem, ↓reduceIte, nE, nA, nM, nB, oN, iT, nS, nL, nD, iE, iL, reduceCtorEq, j0, j2, j3, j26, j27, h28, m0, m1, m2, m3, m4, hi', ga, hw, g0, g2, g3, g26, g27, g61, g28, h62, m0, m1, m2, m3, m4, m6, h6, mN, hN, m7, h7, y1, y2, y3, y4, hn', gn, hwn, x0, x1, gk, gy]; try rfl⟩, ⟨_, by simp only [go_sem, ↓reduceIte, nE, nA, nM, nB, oN, iT, nS, nL, nD, iE, iL, reduceCtorEq, j0, j2, j3, j26, j27, h28, m0, m1, m2, m3, m4, hi', ga, hw, g0, g2, g3, g26, g27, g61, g28, h62, m0, m1, m2, m3, m4, m6, h6, mN, hN, m7, h7, y1, y2, y3, y4, hn', gn, hwn, x0, x1, gk, gy]; try rfl, by simp only [go_sem, ↓reduceIte, nE, nA, nM, nB, oN, iT, nS, nL, nD, iE, iL, reduceCtorEq, j0, j2, j3, j26, j27, h28, m0, m1, m2, m3, m4, hi', ga, hw, g0, g2, g3, g26, g27, g61, g28, h62, m0, m1, m2, m3, m4, m6, h6, mN, hN, m7, h7, y1, y2, y3, y4, hn', gn, hwn, x0, x1, gk, gy]; try rfl⟩, ⟨_, _, _, _, _, by simp only [go_sem, ↓reduceIte, nE, nA, nM, nB, oN, iT, nS, nL, nD, iE, iL, reduceCtorEq, j0, j2, j3, j26, j27, h28, m0, m1, m2, m3, m4, hi', ga, hw, g0, g2, g3, g26, g27, g61, g28, h62, m0, m1, m2, m3, m4, m6, h6, mN, hN, m7, h7, y1, y2, y3, y4, hn', gn, hwn, x0, x1, gk, gy]; try rfl, by simp only [go_sem, ↓reduceIte, nE, nA, nM, nB, oN, iT, nS, nL, nD, iE, iL, reduceCtorEq, j0, j2, j3, j26, j27, h28, m0, m1, m2, m3, m4, hi', ga, hw, g0, g2, g3, g26, g27, g61, g28, h62, m0, m1, m2, m3, m4, m6, h6, mN, hN, m7, h7, y1, y2, y3, y4, hn', gn, hwn, x0, x1, gk, gy]; try rfl, by simp only [go_sem, ↓reduceIte, nE, nA, nM, nB, oN, iT, nS, nL, nD, iE, iL, reduceCtorEq, j0, j2, j3, j26, j27, h28, m0, m1, m2, m3, m4, hi', ga, hw, g0, g2, g3, g26, g27, g61, g28, h62, m0, m1, m2, m3, m4, m6, h6, mN, hN, m7, h7, y1, y2, y3, y4, hn', gn, hwn, x0, x1, gk, gy]; try rfl, by simp only [go_sem, ↓reduceIte, nE, nA, nM, nB, oN, iT, nS, nL, nD, iE, iL, reduceCtorEq, j0, j2, j3, j26, j27, h28, m0, m1, m2, m3, m4, hi', ga, hw, g0, g2, g3, g26, g27, g61, g28, h62, m0, m1, m2, m3, m4, m6, h6, mN, hN, m7, h7, y1, y2, y3, y4, hn', gn, hwn, x0, x1, gk, gy]; try rfl, by simp only [go_sem, ↓reduceIte, nE, nA, nM, nB, oN, iT, nS, nL, nD, iE, iL, reduceCtorEq, j0, j2, j3, j26, j27, h28, m0, m1, m2, m3, m4, hi', ga, hw, g0, g2, g3, g26, g27, g61, g28, h62, m0, m1, m2, m3, m4, m6, h6, mN, hN, m7, h7, y1, y2, y3, y4, hn', gn, hwn, x0, x1, gk, gy]; try rfl, by simp only [go_sem, ↓reduceIte, nE, nA, nM, nB, oN, iT, nS, nL, nD, iE, iL, reduceCtorEq, j0, j2, j3, j26, j27, h28, m0, m1, m2, m3, m4, hi', ga, hw, g0, g2, g3, g26, g27, g61, g28, h62, m0, m1, m2, m3, m4, m6, h6, mN, hN, m7, h7, y1, y2, y3, y4, hn', gn, hwn, x0, x1, gk, gy]; try rfl⟩⟩
                | false =>
                  have hl : landM q x.toNat h = { q with met := q.met.set x.toNat true, mays := q.mays.set x.toNat h } := by unfold landM; rw [hk]; rfl
                  rw [hl] at ol hlb hfo
                  simp only [go_sem, ↓reduceIte, nE, nA, nM, nB, oN, iT, nS, nL, nD, iE, iL, reduceCtorEq, b1, b2, b3, b4, U1, U2, U3, U4, Nat.le_refl, hxl, my_set, setBb, j0, j2, j3, j26, j27, h28, m0, m1, m2, m3, m4, hi', ga, hw, g0, g2, g3, g26, g27, g61, g28, h62, m0, m1, m2, m3, m4, m6, h6, mN, hN, m7, h7, y1, y2, y3, y4, hn', gn, hwn, x0, x1, gk, gy]
                  exact ⟨(n + 1, _), by dsimp only; omega, by dsimp only; omega, by simp only [go_sem, ↓reduceIte, nE, nA, nM, nB, oN, iT, nS, nL, nD, iE, iL, reduceCtorEq, j0, j2, j3, j26, j27, h28, m0, m1, m2, m3, m4, hi', ga, hw, g0, g2, g3, g26, g27, g61, g28, h62, m0, m1, m2, m3, m4, m6, h6, mN, hN, m7, h7, y1, y2, y3, y4, hn', gn, hwn, x0, x1, gk, gy], hfo, ol, hlb.trans hqb, by simp only [go_sem, ↓reduceIte, nE, nA, nM, nB, oN, iT, nS, nL, nD, iE, iL, reduceCtorEq, j0, j2, j3, j26, j27, h28, m0, m1, m2, m3, m4, hi', ga, hw, g0, g2, g3, g26, g27, g61, g28, h62, m0, m1, m2, m3, m4, m6, h6, mN, hN, m7, h7, y1, y2, y3, y4, hn', gn, hwn, x0, x1, gk, gy], by simp only [go_sem, ↓reduceIte, nE, nA, nM, nB, oN, iT, nS, nL, nD, iE, iL, reduceCtorEq, j0, j2, j3, j26, j27, h28, m0, m1, m2, m3, m4, hi', ga, hw, g0, g2, g3, g26, g27, g61, g28, h62, m0, m1, m2, m3, m4, m6, h6, mN, hN, m7, h7, y1, y2, y3, y4, hn', gn, hwn, x0, x1, gk, gy], by simp only [go_sem, ↓reduceIte, nE, nA, nM, nB, oN, iT, nS, nL, nD, iE, iL, reduceCtorEq, j0, j2, j3, j26, j27, h28, m0, m1, m2, m3, m4, hi', ga, hw, g0, g2, g3, g26, g27, g61, g28, h62, m0, m1, m2, m3, m4, m6, h6, mN, hN, m7, h7, y1, y2, y3, y4, hn', gn, hwn, x0, x1, gk, gy], by simp only [go_sem, ↓reduceIte, nE, nA, nM, nB, oN, iT, nS, nL, nD, iE, iL, reduceCtorEq, j0, j2, j3, j26, j27, h28, m0, m1, m2, m3, m4, hi', ga, hw, g0, g2, g3, g26, g27, g61, g28, h62, m0, m1, m2, m3, m4, m6, h6, mN, hN, m7, h7, y1, y2, y3, y4, hn', gn, hwn, x0, x1, gk, gy], by simp only [go_sem, ↓reduceIte, nE, nA, nM, nB, oN, iT, nS, nL, nD, iE, iL, reduceCtorEq, j0, j2, j3, j26, j27, h28, m0, m1, m2, m3, m4, hi', ga, hw, g0, g2, g3, g26, g27, g61, g28, h62, m0, m1, m2, m3, m4, m6, h6, mN, hN, m7, h7, y1, y2, y3, y4, hn', gn, hwn, x0, x1, gk, gy], ⟨_, by simp only [go_sem, ↓reduceIte, nE, nA, nM, nB, oN, iT, nS, nL, nD, iE, iL, reduceCtorEq, j0, j2, j3, j26, j27, h28, m0, m1, m2, m3, m4, hi', ga, hw, g0, g2, g3, g26, g27, g61, g28, h62, m0, m1, m2, m3, m4, m6, h6, mN, hN, m7, h7, y1, y2, y3, y4, hn', gn, hwn, x0, x1, gk, gy]; try rfl, by simp only [go_sem, ↓reduceIte, nE, nA, nM, nB, oN, iT, nS, nL, nD, iE, iL, reduceCtorEq, j0, j2, j3, j26, j27, h28, m0, m1, m2, m3, m4, hi', ga, hw, g0, g2, g3, g26, g27, g61, g28, h62, m0, m1, m2, m3, m4, m6, h6, mN, hN, m7, h7, y1, y2, y3, y4, hn', gn, hwn, x0, x1, gk, gy]; try rfl⟩, ⟨_, by simp only [go_sem, ↓reduceIte, nE, nA, nM, nB, oN, iT, nS, nL, nD, iE, iL, reduceCtorEq, j0, j2, j3, j26, j27, h28, m0, m1, m2, m3, m4, hi', ga, hw, g0, g2, g3, g26, g27, g61, g28, h62, m0, m1, m2, m3, m4, m6, h6, mN, hN, m7, h7, y1, y2, y3, y4, hn', gn, hwn, x0, x1, gk, gy]; try rfl, by simp only [go_sem, ↓reduceIte, nE, nA, nM, nB, oN, iT, nS, nL, nD, iE, iL, reduceCtorEq, j0, j2, j3, j26, j27, h28, m0, m1, m2, m3, m4, hi', ga, hw, g0, g2, g3, g26, g27, g61, g28, h62, m0, m1, m2, m3, m4, m6, h6, mN, hN, m7, h7, y1, y2, y3, y4, hn', gn, hwn, x0, x1, gk, gy]; try rfl⟩, ⟨_, _, _, _, _, by simp only [go_sem, ↓reduceIte, nE, nA, nM, nB, oN, iT, nS, nL, nD, iE, iL, reduceCtorEq, j0, j2, j3, j26, j27, h28, m0, m1, m2, m3, m4, hi', ga, hw, g0, g2, g3, g26, g27, g61, g28, h62, m0, m1, m2, m3, m4, m6, h6, mN, hN, m7, h7, y1, y2, y3, y4, hn', gn, hwn, x0, x1, gk, gy]; try rfl, by simp only [go_sem, ↓reduceIte, nE, nA, nM, nB, oN, iT, nS, nL, nD, iE, iL, reduceCtorEq, j0, j2, j3, j26, j27, h28, m0, m1, m2, m3, m4, hi', ga, hw, g0, g2, g3, g26, g27, g61, g28, h62, m0, m1, m2, m3, m4, m6, h6, mN, hN, m7, h7, y1, y2, y3, y4, hn', gn, hwn, x0, x1, gk, gy]; try rfl, by simp only [go_sem, ↓reduceIte, nE, nA, nM, nB, oN, iT, nS, nL, nD, iE, iL, reduceCtorEq, j0, j2, j3, j26, j27, h28, m0, m1, m2, m3, m4, hi', ga, hw, g0, g2, g3, g26, g27, g61, g28, h62, m0, m1, m2, m3, m4, m6, h6, mN, hN, m7, h7, y1, y2, y3, y4, hn', gn, hwn, x0, x1, gk, gy]; try rfl, by simp only [go_sem, ↓reduceIte, nE, nA, nM, nB, oN, iT, nS, nL, nD, iE, iL, reduceCtorEq, j0, j2, j3, j26, j27, h28, m0, m1, m2, m3, m4, hi', ga, hw, g0, g2, g3, g26, g27, g61, g28, h62, m0, m1, m2, m3, m4, m6, h6, mN, hN, m7, h7, y1, y2, y3, y4, hn', gn, hwn, x0, x1, gk, gy]; try rfl, by simp only [go_sem, ↓reduceIte, nE, nA, nM, nB, oN, iT, nS, nL, nD, iE, iL, reduceCtorEq, j0, j2, j3, j26, j27, h28, m0, m1, m2, m3, m4, hi', ga, hw, g0, g2, g3, g26, g27, g61, g28, h62, m0, m1, m2, m3, m4, m6, h6, mN, hN, m7, h7, y1, y2, y3, y4, hn', gn, hwn, x0, x1, gk, gy]; try rfl, by simp only [go_sem, ↓reduceIte, nE, nA, nM, nB, oN, iT, nS, nL, nD, iE, iL, reduceCtorEq, j0, j2, j3, j26, j27, h28, m0, m1, m2, m3, m4, hi', ga, hw, g0, g2, g3, g26, g27, g61, g28, h62, m0, m1, m2, m3, m4, m6, h6, mN, hN, m7, h7, y1, y2, y3, y4, hn', gn, hwn, x0, x1, gk, gy]; try rfl⟩⟩
          | false =>
            have hfs : flowS s a n x q = landM q x.toNat a := by unfold flowS; rw [hbb]; rfl
            rw [hfs] at hfo
            have k9 : (s.kind == 9) = false ∧ (s.kind == 10) = false := by unfold brB at hbb; rwa [Bool.or_eq_false_iff] at hbb
            simp only [go_sem, ↓reduceIte, nE, nA, nM, nB, oN, iT, nS, nL, nD, iE, iL, reduceCtorEq, k9.1, k9.2, a1, a2, a3, a4, T1, T2, T3, T4, Nat.le_refl, j0, j2, j3, j26, j27, h28, m0, m1, m2, m3, m4, hi', ga, hw, g0, g2, g3, g26, g27, g61, g28, h62, m0, m1, m2, m3, m4, m6, h6, mN, hN, m7, h7, y1, y2, y3, y4, hn', gn, hwn, x0, x1, gk, gy]
            have ol := landM_ok (k := x.toNat) oq oa
            have hlb : (landM q x.toNat a).bad = q.bad := landM_bad
            cases hk : metB q x.toNat with
            | true =>
              have cj := spec_l13Join.fc (getM q x.toNat) a (oq.ok _ hk).len oa.len
              have hl : landM q x.toNat a = { q with mays := q.mays.set x.toNat (joinM (getM q x.toNat) a) } := by unfold landM; rw [hk]; rfl
              obtain ⟨c1, c2, c3, c4⟩ := joinM_len (oq.ok _ hk).len oa.len
              generalize joinM (getM q x.toNat) a = J at cj hl c1 c2 c3 c4
              rw [hl] at ol hlb hfo
              have V1 := tk_S c1
              have V2 := tk_K c2
              have V3 := tk_S c3
              have V4 := tk_B c4
              simp only [go_sem, ↓reduceIte, nE, nA, nM, nB, oN, iT, nS, nL, nD, iE, iL, reduceCtorEq, a1, a2, a3, a4, T1, T2, T3, T4, Nat.le_refl, j0, j2, j3, j26, j27, h28, m0, m1, m2, m3, m4, hi', ga, hw, g0, g2, g3, g26, g27, g61, g28, h62, m0, m1, m2, m3, m4, m6, h6, mN, hN, m7, h7, y1, y2, y3, y4, hn', gn, hwn, x0, x1, gk, gy]
              refine fcW_bd cj noRs_May ?_
              simp only [go_sem, ↓reduceIte, nE, nA, nM, nB, oN, iT, nS, nL, nD, iE, iL, reduceCtorEq, c1, c2, c3, c4, V1, V2, V3, V4, Nat.le_refl, hxl, my_set, j0, j2, j3, j26, j27, h28, m0, m1, m2, m3, m4, hi', ga, hw, g0, g2, g3, g26, g27, g61, g28, h62, m0, m1, m2, m3, m4, m6, h6, mN, hN, m7, h7, y1, y2, y3, y4, hn', gn, hwn, x0, x1, gk, gy]
              exact ⟨(n + 1, _), by dsimp only; omega, by dsimp only; omega, by simp only [go_sem, ↓reduceIte, nE, nA, nM, nB, oN, iT, nS, nL, nD, iE, iL, reduceCtorEq, j0, j2, j3, j26, j27, h28, m0, m1, m2, m3, m4, hi', ga, hw, g0, g2, g3, g26, g27, g61, g28, h62, m0, m1, m2, m3, m4, m6, h6, mN, hN, m7, h7, y1, y2, y3, y4, hn', gn, hwn, x0, x1, gk, gy], hfo, ol, hlb.trans hqb, by simp only [go_sem, ↓reduceIte, nE, nA, nM, nB, oN, iT, nS, nL, nD, iE, iL, reduceCtorEq, j0, j2, j3, j26, j27, h28, m0, m1, m2, m3, m4, hi', ga, hw, g0, g2, g3, g26, g27, g61, g28, h62, m0, m1, m2, m3, m4, m6, h6, mN, hN, m7, h7, y1, y2, y3, y4, hn', gn, hwn, x0, x1, gk, gy], by simp only [go_sem, ↓reduceIte, nE, nA, nM, nB, oN, iT, nS, nL, nD, iE, iL, reduceCtorEq, j0, j2, j3, j26, j27, h28, m0, m1, m2, m3, m4, hi', ga, hw, g0, g2, g3, g26, g27, g61, g28, h62, m0, m1, m2, m3, m4, m6, h6, mN, hN, m7, h7, y1, y2, y3, y4, hn', gn, hwn, x0, x1, gk, gy], by simp only [go_sem, ↓reduceIte, nE, nA, nM, nB, oN, iT, nS, nL, nD, iE, iL, reduceCtorEq, j0, j2, j3, j26, j27, h28, m0, m1, m2, m3, m4, hi', ga, hw, g0, g2, g3, g26, g27, g61, g28, h62, m0, m1, m2, m3, m4, m6, h6, mN, hN, m7, h7, y1, y2, y3, y4, hn', gn, hwn, x0, x1, gk, gy], by simp only [go_sem, ↓reduceIte, nE, nA, nM, nB, oN, iT, nS, nL, nD, iE, iL, reduceCtorEq, j0, j2, j3, j26, j27, h28, m0, m1, m2, m3, m4, hi', ga, hw, g0, g2, g3, g26, g27, g61, g28, h62, m0, m1, m2, m3, m4, m6, h6, mN, hN, m7, h7, y1, y2, y3, y4, hn', gn, hwn, x0, x1, gk, gy], by simp only [go_sem, ↓reduceIte, nE, nA, nM, nB, oN, iT, nS, nL, nD, iE, iL, reduceCtorEq, j0, j2, j3, j26, j27, h28, m0, m1, m2, m3, m4, hi', ga, hw, g0, g2, g3, g26, g27, g61, g28, h62, m0, m1, m2, m3, m4, m6, h6, mN, hN, m7, h7, y1, y2, y3, y4, hn', gn, hwn, x0, x1, gk, gy], ⟨_, by simp only [go_sem, ↓reduceIte, nE, nA, nM, nB, oN, iT, nS, nL, nD, iE, iL, reduceCtorEq, j0, j2, j3, j26, j27, h28, m0, m1, m2, m3, m4, hi', ga, hw, g0, g2, g3, g26, g27, g61, g28, h62, m0, m1, m2, m3, m4, m6, h6, mN, hN, m7, h7, y1, y2, y3, y4, hn', gn, hwn, x0, x1, gk, gy]; try rfl, by simp only [go_sem, ↓reduceIte, nE, nA, nM, nB, oN, iT, nS, nL, nD, iE, iL, reduceCtorEq, j0, j2, j3, j26, j27, h28, m0, m1, m2, m3, m4, hi', ga, hw, g0, g2, g3, g26, g27, g61, g28, h62, m0, m1, m2, m3, m4, m6, h6, mN, hN, m7, h7, y1, y2, y3, y4, hn', gn, hwn, x0, x1, gk, gy]; try rfl⟩, ⟨_, by simp only [go_sem, ↓reduceIte, nE, nA, nM, nB, oN, iT, nS, nL, nD, iE, iL, reduceCtorEq, j0, j2, j3, j26, j27, h28, m0, m1, m2, m3, m4, hi', ga, hw, g0, g2, g3, g26, g27, g61, g28, h62, m0, m1, m2, m3, m4, m6, h6, mN, hN, m7, h7, y1, y2, y3, y4, hn', gn, hwn, x0, x1, gk, gy]; try rfl, by simp only [go_sem, ↓reduceIte, nE, nA, nM, nB, oN, iT, nS, nL, nD, iE, iL, reduceCtorEq, j0, j2, j3, j26, j27, h28, m0, m1, m2, m3, m4, hi', ga, hw, g0, g2, g3, g26, g27, g61, g28, h62, m0, m1, m2, m3, m4, m6, h6, mN, hN, m7, h7, y1, y2, y3, y4, hn', gn, hwn, x0, x1, gk, gy]; try rfl⟩, ⟨_, _, _, _, _, by simp only [go_sem, ↓reduceIte, nE, nA, nM, nB, oN, iT, nS, nL, nD, iE, iL, reduceCtorEq, j0, j2, j3, j26, j27, h28, m0, m1, m2, m3, m4, hi', ga, hw, g0, g2, g3, g26, g27, g61, g28, h62, m0, m1, m2, m3, m4, m6, h6, mN, hN, m7, h7, y1, y2, y3, y4, hn', gn, hwn, x0, x1, gk, gy]; try rfl, by simp only [go_sem, ↓reduceIte, nE, nA, nM, nB, oN, iT, nS, nL, nD, iE, iL, reduceCtorEq, j0, j2, j3, j26, j27, h28, m0, m1, m2, m3, m4, hi', ga, hw, g0, g2, g3, g26, g27, g61, g28, h62, m0, m1, m2, m3, m4, m6, h6, mN, hN, m7, h7, y1, y2, y3, y4, hn', gn, hwn, x0, x1, gk, gy]; try rfl, by simp only [go_sem, ↓reduceIte, nE, nA, nM, nB, oN, iT, nS, nL, nD, iE, iL, reduceCtorEq, j0, j2, j3, j26, j27, h28, m0, m1, m2, m3, m4, hi', ga, hw, g0, g2, g3, g26, g27, g61, g28, h62, m0, m1, m2, m3, m4, m6, h6, mN, hN, m7, h7, y1, y2, y3, y4, hn', gn, hwn, x0, x1, gk, gy]; try rfl, by simp only [go_sem, ↓reduceIte, nE, nA, nM, nB, oN, iT, nS, nL, nD, iE, iL, reduceCtorEq, j0, j2, j3, j26, j27, h28, m0, m1, m2, m3, m4, hi', ga, hw, g0, g2, g3, g26, g27, g61, g28, h62, m0, m1, m2, m3, m4, m6, h6, mN, hN, m7, h7, y1, y2, y3, y4, hn', gn, hwn, x0, x1, gk, gy]; try rfl, by simp only [go_sem, ↓reduceIte, nE, nA, nM, nB, oN, iT, nS, nL, nD, iE, iL, reduceCtorEq, j0, j2, j3, j26, j27, h28, m0, m1, m2, m3, m4, hi', ga, hw, g0, g2, g3, g26, g27, g61, g28, h62, m0, m1, m2, m3, m4, m6, h6, mN, hN, m7, h7, y1, y2, y3, y4, hn', gn, hwn, x0, x1, gk, gy]; try rfl, by simp only [go_sem, ↓reduceIte, nE, nA, nM, nB, oN, iT, nS, nL, nD, iE, iL, reduceCtorEq, j0, j2, j3, j26, j27, h28, m0, m1, m2, m3, m4, hi', ga, hw, g0, g2, g3, g26, g27, g61, g28, h62, m0, m1, m2, m3, m4, m6, h6, mN, hN, m7, h7, y1, y2, y3, y4, hn', gn, hwn, x0, x1, gk, gy]; try rfl⟩⟩
            | false =>
              have hl : landM q x.toNat a = { q with met := q.met.set x.toNat true, mays := q.mays.set x.toNat a } := by unfold landM; rw [hk]; rfl
              rw [hl] at ol hlb hfo
              simp only [go_sem, ↓reduceIte, nE, nA, nM, nB, oN, iT, nS, nL, nD, iE, iL, reduceCtorEq, a1, a2, a3, a4, T1, T2, T3, T4, Nat.le_refl, hxl, my_set, setBb, j0, j2, j3, j26, j27, h28, m0, m1, m2, m3, m4, hi', ga, hw, g0, g2, g3, g26, g27, g61, g28, h62, m0, m1, m2, m3, m4, m6, h6, mN, hN, m7, h7, y1, y2, y3, y4, hn', gn, hwn, x0, x1, gk, gy]
              exact ⟨(n + 1, _), by dsimp only; omega, by dsimp only; omega, by simp only [go_sem, ↓reduceIte, nE, nA, nM, nB, oN, iT, nS, nL, nD, iE, iL, reduceCtorEq, j0, j2, j3, j26, j27, h28, m0, m1, m2, m3, m4, hi', ga, hw, g0, g2, g3, g26, g27, g61, g28, h62, m0, m1, m2, m3, m4, m6, h6, mN, hN, m7, h7, y1, y2, y3, y4, hn', gn, hwn, x0, x1, gk, gy], hfo, ol, hlb.trans hqb, by simp only [go_sem, ↓reduceIte, nE, nA, nM, nB, oN, iT, nS, nL, nD, iE, iL, reduceCtorEq, j0, j2, j3, j26, j27, h28, m0, m1, m2, m3, m4, hi', ga, hw, g0, g2, g3, g26, g27, g61, g28, h62, m0, m1, m2, m3, m4, m6, h6, mN, hN, m7, h7, y1, y2, y3, y4, hn', gn, hwn, x0, x1, gk, gy], by simp only [go_sem, ↓reduceIte, nE, nA, nM, nB, oN, iT, nS, nL, nD, iE, iL, reduceCtorEq, j0, j2, j3, j26, j27, h28, m0, m1, m2, m3, m4, hi', ga, hw, g0, g2, g3, g26, g27, g61, g28, h62, m0, m1, m2, m3, m4, m6, h6, mN, hN, m7, h7, y1, y2, y3, y4, hn', gn, hwn, x0, x1, gk, gy], by simp only [go_sem, ↓reduceIte, nE, nA, nM, nB, oN, iT, nS, nL, nD, iE, iL, reduceCtorEq, j0, j2, j3, j26, j27, h28, m0, m1, m2, m3, m4, hi', ga, hw, g0, g2, g3, g26, g27, g61, g28, h62, m0, m1, m2, m3, m4, m6, h6, mN, hN, m7, h7, y1, y2, y3, y4, hn', gn, hwn, x0, x1, gk, gy], by simp only [go_sem, ↓reduceIte, nE, nA, nM, nB, oN, iT, nS, nL, nD, iE, iL, reduceCtorEq, j0, j2, j3, j26, j27, h28, m0, m1, m2, m3, m4, hi', ga, hw, g0, g2, g3, g26, g27, g61, g28, h62, m0, m1, m2, m3, m4, m6, h6, mN, hN, m7, h7, y1, y2, y3, y4, hn', gn, hwn, x0, x1, gk, gy], by simp only [go_sem, ↓reduceIte, nE, nA, nM, nB, oN, iT, nS, nL, nD, iE, iL, reduceCtorEq, j0, j2, j3, j26, j27, h28, m0, m1, m2, m3, m4, hi', ga, hw, g0, g2, g3, g26, g27, g61, g28, h62, m0, m1, m2, m3, m4, m6, h6, mN, hN, m7, h7, y1, y2, y3, y4, hn', gn, hwn, x0, x1, gk, gy], ⟨_, by simp only [go_sem, ↓reduceIte, nE, nA, nM, nB, oN, iT, nS, nL, nD, iE, iL, reduceCtorEq, j0, j2, j3, j26, j27, h28, m0, m1, m2, m3, m4, hi', ga, hw, g0, g2, g3, g26, g27, g61, g28, h62, m0, m1, m2, m3, m4, m6, h6, mN, hN, m7, h7, y1, y2, y3, y4, hn', gn, hwn, x0, x1, gk, gy]; try rfl, by simp only [go_sem, ↓reduceIte, nE, nA, nM, nB, oN, iT, nS, nL, nD, iE, iL, reduceCtorEq, j0, j2, j3, j26, j27, h28, m0, m1, m2, m3, m4, hi', ga, hw, g0, g2, g3, g26, g27, g61, g28, h62, m0, m1, m2, m3, m4, m6, h6, mN, hN, m7, h7, y1, y2, y3, y4, hn', gn, hwn, x0, x1, gk, gy]; try rfl⟩, ⟨_, by simp only [go_sem, ↓reduceIte, nE, nA, nM, nB, oN, iT, nS, nL, nD, iE, iL, reduceCtorEq, j0, j2, j3, j26, j27, h28, m0, m1, m2, m3, m4, hi', ga, hw, g0, g2, g3, g26, g27, g61, g28, h62, m0, m1, m2, m3, m4, m6, h6, mN, hN, m7, h7, y1, y2, y3, y4, hn', gn, hwn, x0, x1, gk, gy]; try rfl, by simp only [go_sem, ↓reduceIte, nE, nA, nM, nB, oN, iT, nS, nL, nD, iE, iL, reduceCtorEq, j0, j2, j3, j26, j27, h28, m0, m1, m2, m3, m4, hi', ga, hw, g0, g2, g3, g26, g27, g61, g28, h62, m0, m1, m2, m3, m4, m6, h6, mN, hN, m7, h7, y1, y2, y3, y4, hn', gn, hwn, x0, x1, gk, gy]; try rfl⟩, ⟨_, _, _, _, _, by simp only [go_sem, ↓reduceIte, nE, nA, nM, nB, oN, iT, nS, nL, nD, iE, iL, reduceCtorEq, j0, j2, j3, j26, j27, h28, m0, m1, m2, m3, m4, hi', ga, hw, g0, g2, g3, g26, g27, g61, g28, h62, m0, m1, m2, m3, m4, m6, h6, mN, hN, m7, h7, y1, y2, y3, y4, hn', gn, hwn, x0, x1, gk, gy]; try rfl, by simp only [go_sem, ↓reduceIte, nE, nA, nM, nB, oN, iT, nS, nL, nD, iE, iL, reduceCtorEq, j0, j2, j3, j26, j27, h28, m0, m1, m2, m3, m4, hi', ga, hw, g0, g2, g3, g26, g27, g61, g28, h62, m0, m1, m2, m3, m4, m6, h6, mN, hN, m7, h7, y1, y2, y3, y4, hn', gn, hwn, x0, x1, gk, gy]; try rfl, by simp only [go_sem, ↓reduceIte, nE, nA, nM, nB, oN, iT, nS, nL, nD, iE, iL, reduceCtorEq, j0, j2, j3, j26, j27, h28, m0, m1, m2, m3, m4, hi', ga, hw, g0, g2, g3, g26, g27, g61, g28, h62, m0, m1, m2, m3, m4, m6, h6, mN, hN, m7, h7, y1, y2, y3, y4, hn', gn, hwn, x0, x1, gk, gy]; try rfl, by simp only [go_sem, ↓reduceIte, nE, nA, nM, nB, oN, iT, nS, nL, nD, iE, iL, reduceCtorEq, j0, j2, j3, j26, j27, h28, m0, m1, m2, m3, m4, hi', ga, hw, g0, g2, g3, g26, g27, g61, g28, h62, m0, m1, m2, m3, m4, m6, h6, mN, hN, m7, h7, y1, y2, y3, y4, hn', gn, hwn, x0, x1, gk, gy]; try rfl, by simp only [go_sem, ↓reduceIte, nE, nA, nM, nB, oN, iT, nS, nL, nD, iE, iL, reduceCtorEq, j0, j2, j3, j26, j27, h28, m0, m1, m2, m3, m4, hi', ga, hw, g0, g2, g3, g26, g27, g61, g28, h62, m0, m1, m2, m3, m4, m6, h6, mN, hN, m7, h7, y1, y2, y3, y4, hn', gn, hwn, x0, x1, gk, gy]; try rfl, by simp only [go_sem, ↓reduceIte, nE, nA, nM, nB, oN, iT, nS, nL, nD, iE, iL, reduceCtorEq, j0, j2, j3, j26, j27, h28, m0, m1, m2, m3, m4, hi', ga, hw, g0, g2, g3, g26, g27, g61, g28, h62, m0, m1, m2, m3, m4, m6, h6, mN, hN, m7, h7, y1, y2, y3, y4, hn', gn, hwn, x0, x1, gk, gy]; try rfl⟩⟩
        · have hi' : ¬ (n : Int) < N.length := by omega
          obtain rfl : n = N.length := by omega
          rw [List.drop_length] at hfo
          have hfo : q = R := hfo
          simp only [go_sem, ↓reduceIte, nE, nA, nM, nB, oN, iT, nS, nL, nD, iE, iL, reduceCtorEq, Int.lt_irrefl, hw, j0, j2, j3, j26, j27, h28, m0, m1, m2, m3, m4, hi', ga, hw, g0, g2, g3, g26, g27, g61, g28, h62, m0, m1, m2, m3, m4, m6, h6, mN, hN, m7, h7, y1, y2, y3, y4]
          subst hfo
          exact ⟨i + 1, by dsimp only; omega, by omega, by simp only [go_sem, ↓reduceIte, nE, nA, nM, nB, oN, iT, nS, nL, nD, iE, iL, reduceCtorEq, j0, j2, j3, j26, j27, h28, m0, m1, m2, m3, m4, hi', ga, hw, g0, g2, g3, g26, g27, g61, g28, h62, m0, m1, m2, m3, m4, m6, h6, mN, hN, m7, h7, y1, y2, y3, y4], by simp only [go_sem, ↓reduceIte, nE, nA, nM, nB, oN, iT, nS, nL, nD, iE, iL, reduceCtorEq, j0, j2, j3, j26, j27, h28, m0, m1, m2, m3, m4, hi', ga, hw, g0, g2, g3, g26, g27, g61, g28, h62, m0, m1, m2, m3, m4, m6, h6, mN, hN, m7, h7, y1, y2, y3, y4], by simp only [go_sem, ↓reduceIte, nE, nA, nM, nB, oN, iT, nS, nL, nD, iE, iL, reduceCtorEq, hst, j0, j2, j3, j26, j27, h28, m0, m1, m2, m3, m4, hi', ga, hw, g0, g2, g3, g26, g27, g61, g28, h62, m0, m1, m2, m3, m4, m6, h6, mN, hN, m7, h7, y1, y2, y3, y4], by simp only [go_sem, ↓reduceIte, nE, nA, nM, nB, oN, iT, nS, nL, nD, iE, iL, reduceCtorEq, hst, j0, j2, j3, j26, j27, h28, m0, m1, m2, m3, m4, hi', ga, hw, g0, g2, g3, g26, g27, g61, g28, h62, m0, m1, m2, m3, m4, m6, h6, mN, hN, m7, h7, y1, y2, y3, y4], _, _, by simp only [go_sem, ↓reduceIte, nE, nA, nM, nB, oN, iT, nS, nL, nD, iE, iL, reduceCtorEq, j0, j2, j3, j26, j27, h28, m0, m1, m2, m3, m4, hi', ga, hw, g0, g2, g3, g26, g27, g61, g28, h62, m0, m1, m2, m3, m4, m6, h6, mN, hN, m7, h7, y1, y2, y3, y4]; try rfl, rfl, by simp only [go_sem, ↓reduceIte, nE, nA, nM, nB, oN, iT, nS, nL, nD, iE, iL, reduceCtorEq, j0, j2, j3, j26, j27, h28, m0, m1, m2, m3, m4, hi', ga, hw, g0, g2, g3, g26, g27, g61, g28, h62, m0, m1, m2, m3, m4, m6, h6, mN, hN, m7, h7, y1, y2, y3, y4]; rw [hst, hqb]; exact hbx⟩
  · have hi' : ¬ (i : Int) < p.length := by omega
    obtain rfl : i = p.length := by omega
    have tb : ∀ (b : List Bool), b.length = p.length → (b.map Bb).take p.length = b.map Bb := fun b h => List.take_of_length_le (by simp [h])
    have ty : ∀ (b : List MayD), b.length = p.length → (b.map MayD.d).take p.length = b.map MayD.d := fun b h => List.take_of_length_le (by simp [h])
    have k1 := ok.lm
    have k2 := ok.ly
    generalize anaN p p.length = r at m1 m2 hbx hbl k1 k2 ⊢
    have t1 := tb _ k1
    have t2 := ty _ k2
    rcases hbx with ⟨b1, b2⟩ | ⟨v, b1, b2⟩
    · subst b2
      simp only [go_sem, ↓reduceIte, nE, nA, nM, nB, oN, iT, nS, nL, nD, iE, iL, reduceCtorEq, Int.lt_irrefl, k1, k2, t1, t2, Nat.le_refl, j0, j2, j3, j26, j27, h28, m0, m1, m2, m3, m4]
      obtain ⟨rm, ry, rb⟩ := r
      dsimp only at b1
      subst b1
      rfl
    · subst b1
      rw [b2] at m4
      have tk : (r.bad.map Ii).take r.bad.length = r.bad.map Ii := List.take_of_length_le (by simp)
      simp only [go_sem, ↓reduceIte, nE, nA, nM, nB, oN, iT, nS, nL, nD, iE, iL, reduceCtorEq, Int.lt_irrefl, k1, k2, t1, t2, m4, tk, Nat.le_refl, j0, j2, j3, j26, j27, h28, m0, m1, m2, m3, m4]
theorem spec_AnalyseProgram.fc (p : List StepD) (hp : p.length ≤ 4194304) : FCt prog F_spec_AnalyseProgram [.ro] [steps p] (.tup [(anaV p).d, Bb (goodP p)]) [] := by
  refine fct_run spec_AnalyseProgram.ok rfl ?_
  unfold anaV
  simp only [go_sem, ↓reduceIte, nE, nA, nM, nB, oN, iT, nS, nL, nD, iE, iL, reduceCtorEq]
  refine fcW_bool (spec_GoodProgram.fc p hp) ?_
  cases hg : goodP p with
  | false => simp only [go_sem, ↓reduceIte, nE, nA, nM, nB, oN, iT, nS, nL, nD, iE, iL, reduceCtorEq]; rfl
  | true =>
    have op := prog_ok hg
    have c := spec_l13Analyse.fc p op
    have hk := anaN_ok op p.length
    generalize anaN p p.length = r at c hk ⊢
    obtain ⟨r0, r1, r2⟩ := r
    have k1 : (r0.map Bb).take r0.length = r0.map Bb := List.take_of_length_le (by simp)
    have k2 : (r1.map MayD.d).take r1.length = r1.map MayD.d := List.take_of_length_le (by simp)
    have k3 : (r2.map Ii).take r2.length = r2.map Ii := List.take_of_length_le (by simp)
    simp only [go_sem, ↓reduceIte, nE, nA, nM, nB, oN, iT, nS, nL, nD, iE, iL, reduceCtorEq]
    refine fcW_bd c noRs_Report ?_
    simp only [go_sem, ↓reduceIte, nE, nA, nM, nB, oN, iT, nS, nL, nD, iE, iL, reduceCtorEq, take_map_len, k1, k2, k3]
end Go.Vm.YtmbhjcgikblpiaaGreat
namespace Go.Vm.YtmbhjcgikblpiaaGreat
open Go Go.Vm
set_option maxRecDepth 10000
set_option maxHeartbeats 16000000
set_option linter.unusedSimpArgs false
set_option linter.unusedVariables false
theorem laws_eqMayS.fcu (x : List MayD) (h : wMayS x ≤ 1048576) :
    FCt prog F_laws_eqMayS [.ro, .ro] [mayss x, mayss x] (Bb true) [] := by
  refine fct_run laws_eqMayS.ok rfl ?_
  have h0 : x.length ≤ 1048576 := by unfold wMayS at h; omega
  have he : ∀ y ∈ x, wMay y ≤ 1048576 := fun y hy => by have := accC_mem (c := fun x => wMay x) hy; (try dsimp only at this); unfold wMayS at h; omega
  simp only [go_sem, ↓reduceIte, nE, nA, nM, nB, oN, iT, nS, nL, nD, iE, iL, reduceCtorEq]
  refine R_loop (α := Nat) (fun k s' M' => k ≤ x.length ∧ s' 5 = aI k) (fun k => x.length - k) 0 ⟨by omega, by simp only [go_sem, ↓reduceIte, nE, nA, nM, nB, oN, iT, nS, nL, nD, iE, iL, reduceCtorEq]; rfl⟩ ?_
  rintro k s' M' ⟨hk, h5⟩ ho
  unfold laws_eqMayS.b0
  have k0 : s' 0 = .dat none (mayss x) := by rw [ho 0 rfl]; simp only [go_sem, ↓reduceIte, nE, nA, nM, nB, oN, iT, nS, nL, nD, iE, iL, reduceCtorEq]
  have k1 : s' 1 = .dat none (mayss x) := by rw [ho 1 rfl]; simp only [go_sem, ↓reduceIte, nE, nA, nM, nB, oN, iT, nS, nL, nD, iE, iL, reduceCtorEq]
  clear ho
  by_cases hlt : k < x.length
  · have hi' : (k : Int) < x.length := by omega
    have ga : x[k]? = some x[k] := List.getElem?_eq_getElem hlt
    have hw : IntKind.i64.wrap (k + 1) = ((k + 1 : Nat) : Int) := wrap_k hlt (by omega)
    simp only [go_sem, ↓reduceIte, nE, nA, nM, nB, oN, iT, nS, nL, nD, iE, iL, reduceCtorEq, h5, hi', ga, hw, k0, k1]
    refine fcW_bool (laws_eqMay.fcu _ (he _ (List.getElem_mem hlt))) ?_
    simp only [go_sem, ↓reduceIte, nE, nA, nM, nB, oN, iT, nS, nL, nD, iE, iL, reduceCtorEq, h5, hw, k0, k1]
    exact ⟨k + 1, by dsimp only; omega, by omega, by simp only [go_sem, ↓reduceIte, nE, nA, nM, nB, oN, iT, nS, nL, nD, iE, iL, reduceCtorEq, k0, k1]⟩
  · have hi' : ¬ (k : Int) < x.length := by omega
    obtain rfl : k = x.length := by omega
    simp only [go_sem, ↓reduceIte, nE, nA, nM, nB, oN, iT, nS, nL, nD, iE, iL, reduceCtorEq, h5, hi', k0, k1]
theorem laws_markMayS.fcu (x : List MayD) (n : Int) (h : wMayS x ≤ 1048576) (hc : cMayS x ≤ 16777216) (hn : 0 ≤ n ∧ n + (cMayS x : Nat) ≤ 576460752303423488) :
    FCt prog F_laws_markMayS [.io, .ro] [mayss x, Ii n] (Ii (n + (cMayS x : Nat))) [mayss (mkMayS n x)] := by
  refine fct_run laws_markMayS.ok rfl ?_
  have hL : ((mkMayS n x).map MayD.d).length = (x.map MayD.d).length := by simp [mkMayS_len]
  have h0 : x.length ≤ 1048576 := by unfold wMayS at h; omega
  have he : ∀ y ∈ x, wMay y ≤ 1048576 := fun y hy => by have := accC_mem (c := fun x => wMay x) hy; (try dsimp only at this); unfold wMayS at h; omega
  unfold cMayS at hc hn ⊢
  simp only [go_sem, ↓reduceIte, nE, nA, nM, nB, oN, iT, nS, nL, nD, iE, iL, reduceCtorEq]
  refine R_loop (α := Nat) (fun k s' M' => k ≤ x.length ∧ s' 5 = aI k ∧ s' 1 = aI (n + (accC (fun x => (2 * x.reg.length) + (2 * x.bits.length) + (2 * x.cell.length) + x.isset.length) (x.take k) : Nat)) ∧ (M'.r != 0) = true ∧ M'.m 0 = some (.arr 0 true 4 (ovr ((mkMayS n x).map MayD.d) (x.map MayD.d) k))) (fun k => x.length - k) 0
    ⟨by omega, by simp only [go_sem, ↓reduceIte, nE, nA, nM, nB, oN, iT, nS, nL, nD, iE, iL, reduceCtorEq]; rfl, by simp only [go_sem, ↓reduceIte, nE, nA, nM, nB, oN, iT, nS, nL, nD, iE, iL, reduceCtorEq]; simp [accC], by simp only [go_sem, ↓reduceIte, nE, nA, nM, nB, oN, iT, nS, nL, nD, iE, iL, reduceCtorEq]; rfl, by simp only [go_sem, ↓reduceIte, nE, nA, nM, nB, oN, iT, nS, nL, nD, iE, iL, reduceCtorEq]; simp [ovr_zero]⟩ ?_
  rintro k s' M' ⟨hk, h5, h1, hr, hm⟩ ho
  unfold laws_markMayS.b0
  have k0 : s' 0 = .sl 0 0 0 x.length 4 := by rw [ho 0 rfl]; simp only [go_sem, ↓reduceIte, nE, nA, nM, nB, oN, iT, nS, nL, nD, iE, iL, reduceCtorEq]
  clear ho
  by_cases hlt : k < x.length
  · have hi' : (k : Int) < x.length := by omega
    have ga : x[k]? = some x[k] := List.getElem?_eq_getElem hlt
    have hw : IntKind.i64.wrap (k + 1) = ((k + 1 : Nat) : Int) := wrap_k hlt (by omega)
    have hmk : (mkMayS n x)[k]? = some (mkEMay (n + (accC (fun x => (2 * x.reg.length) + (2 * x.bits.length) + (2 * x.cell.length) + x.isset.length) (x.take k) : Nat)) x[k]) := accM_get hlt
    have hg : (ovr ((mkMayS n x).map MayD.d) (x.map MayD.d) k)[k]? = some (MayD.d x[k]) := by rw [ovr_get hL (by simpa using hlt)]; simp [hlt]
    have hkl : k < (ovr ((mkMayS n x).map MayD.d) (x.map MayD.d) k).length := by rw [ovr_len hL (by simp; omega)]; simpa using hlt
    have hg2 : ∀ d, ((ovr ((mkMayS n x).map MayD.d) (x.map MayD.d) k).set k d)[k]? = some d := fun d => by rw [List.getElem?_set, if_pos rfl, if_pos hkl]
    have hs : (ovr ((mkMayS n x).map MayD.d) (x.map MayD.d) k).set k (MayD.d (mkEMay (n + (accC (fun x => (2 * x.reg.length) + (2 * x.bits.length) + (2 * x.cell.length) + x.isset.length) (x.take k) : Nat)) x[k])) = ovr ((mkMayS n x).map MayD.d) (x.map MayD.d) (k + 1) := ovr_set hL (by simpa using hlt) (by rw [List.getElem?_map, hmk]; rfl)
    have hr' : M'.r ≠ 0 := by simpa using hr
    have hr2 : (M'.r + 1 + 1 != 0) = true := by rw [bne_iff_ne]; omega
    have hr3 : (M'.r + 1 + 1 + 1 + 1 != 0) = true := by rw [bne_iff_ne]; omega
    have hr4 : (M'.r + 1 + 1 + 1 + 1 + 1 + 1 != 0) = true := by rw [bne_iff_ne]; omega
    have hcl := accC_le (c := fun x => (2 * x.reg.length) + (2 * x.bits.length) + (2 * x.cell.length) + x.isset.length) (l := x) (k := k + 1)
    have hst := accC_step (c := fun x => (2 * x.reg.length) + (2 * x.bits.length) + (2 * x.cell.length) + x.isset.length) hlt
    have hwE := he _ (List.getElem_mem hlt)
    try dsimp only at hst hwE
    unfold wMay at hwE
    simp only [go_sem, ↓reduceIte, nE, nA, nM, nB, oN, iT, nS, nL, nD, iE, iL, reduceCtorEq, k0, h1, h5, hr, hm, hr', hr2, hr3, hr4, hg, hg2, hi', hw]
    refine coW_of (laws_markStretchS.fcu x[k].reg (n + (accC (fun x => (2 * x.reg.length) + (2 * x.bits.length) + (2 * x.cell.length) + x.isset.length) (x.take k) : Nat)) (by omega) (by omega) (by omega)) rfl (by simp only [noRsL, noRs_strs, Bool.and_self]) ?_
    simp only [go_sem, ↓reduceIte, nE, nA, nM, nB, oN, iT, nS, nL, nD, iE, iL, reduceCtorEq, mkStretchS_len, List.set_set, k0, h1, h5, hr, hm, hr', hr2, hr3, hr4, hg, hg2, hi', hw]
    refine coW_of (laws_markKnownS.fcu x[k].bits (n + (accC (fun x => (2 * x.reg.length) + (2 * x.bits.length) + (2 * x.cell.length) + x.isset.length) (x.take k) : Nat) + ((2 * x[k].reg.length) : Nat)) (by omega) (by omega) (by omega)) rfl (by simp only [noRsL, noRs_knowns, Bool.and_self]) ?_
    simp only [go_sem, ↓reduceIte, nE, nA, nM, nB, oN, iT, nS, nL, nD, iE, iL, reduceCtorEq, mkKnownS_len, List.set_set, k0, h1, h5, hr, hm, hr', hr2, hr3, hr4, hg, hg2, hi', hw]
    refine coW_of (laws_markStretchS.fcu x[k].cell (n + (accC (fun x => (2 * x.reg.length) + (2 * x.bits.length) + (2 * x.cell.length) + x.isset.length) (x.take k) : Nat) + ((2 * x[k].reg.length) : Nat) + ((2 * x[k].bits.length) : Nat)) (by omega) (by omega) (by omega)) rfl (by simp only [noRsL, noRs_strs, Bool.and_self]) ?_
    simp only [go_sem, ↓reduceIte, nE, nA, nM, nB, oN, iT, nS, nL, nD, iE, iL, reduceCtorEq, mkStretchS_len, List.set_set, k0, h1, h5, hr, hm, hr', hr2, hr3, hr4, hg, hg2, hi', hw]
    refine coW_of (laws_markBoolS.fcu x[k].isset (n + (accC (fun x => (2 * x.reg.length) + (2 * x.bits.length) + (2 * x.cell.length) + x.isset.length) (x.take k) : Nat) + ((2 * x[k].reg.length) : Nat) + ((2 * x[k].bits.length) : Nat) + ((2 * x[k].cell.length) : Nat)) (by omega) (by omega) (by omega)) rfl (by simp only [noRsL, noRs_bools, Bool.and_self]) ?_
    simp only [go_sem, ↓reduceIte, nE, nA, nM, nB, oN, iT, nS, nL, nD, iE, iL, reduceCtorEq, mkBoolS_len, List.set_set, k0, h1, h5, hr, hm, hr', hr2, hr3, hr4, hg, hg2, hi', hw]
    refine ⟨k + 1, by dsimp only; omega, by omega, by simp only [go_sem, ↓reduceIte, nE, nA, nM, nB, oN, iT, nS, nL, nD, iE, iL, reduceCtorEq, k0, h1, h5, hr, hm, hr', hr2, hr3, hr4, hg, hg2, hi', hw], by simp only [go_sem, ↓reduceIte, nE, nA, nM, nB, oN, iT, nS, nL, nD, iE, iL, reduceCtorEq, k0, h1, h5, hr, hm, hr', hr2, hr3, hr4, hg, hg2, hi', hw]; rw [hst]; congr 2; omega, by simp only [go_sem, ↓reduceIte, nE, nA, nM, nB, oN, iT, nS, nL, nD, iE, iL, reduceCtorEq, k0, h1, h5, hr, hm, hr', hr2, hr3, hr4, hg, hg2, hi', hw]; try simp, by simp only [go_sem, ↓reduceIte, nE, nA, nM, nB, oN, iT, nS, nL, nD, iE, iL, reduceCtorEq, k0, h1, h5, hr, hm, hr', hr2, hr3, hr4, hg, hg2, hi', hw]; exact congrArg (fun z => some (Obj.arr 0 true 4 z)) hs⟩
  · have hi' : ¬ (k : Int) < x.length := by omega
    obtain rfl : k = x.length := by omega
    have hall : ovr ((mkMayS n x).map MayD.d) (x.map MayD.d) x.length = (mkMayS n x).map MayD.d := by have := ovr_all hL; simpa using this
    have htk : ((mkMayS n x).map MayD.d).take x.length = (mkMayS n x).map MayD.d := List.take_of_length_le (by simp [mkMayS_len])
    simp only [go_sem, ↓reduceIte, nE, nA, nM, nB, oN, iT, nS, nL, nD, iE, iL, reduceCtorEq, hi', hall, mkMayS_len, htk, List.take_length, k0, h1, h5, hr, hm]
theorem laws_heldMayS.fcu (x : List MayD) (n : Int) (h : wMayS x ≤ 1048576) (hc : cMayS x ≤ 16777216) (hn : 0 ≤ n ∧ n + (cMayS x : Nat) ≤ 576460752303423488) :
    FCt prog F_laws_heldMayS [.ro, .ro] [mayss (mkMayS n x), Ii n] (Ii (n + (cMayS x : Nat))) [] := by
  refine fct_run laws_heldMayS.ok rfl ?_
  have h0 : x.length ≤ 1048576 := by unfold wMayS at h; omega
  have he : ∀ y ∈ x, wMay y ≤ 1048576 := fun y hy => by have := accC_mem (c := fun x => wMay x) hy; (try dsimp only at this); unfold wMayS at h; omega
  unfold cMayS at hc hn ⊢
  simp only [go_sem, ↓reduceIte, nE, nA, nM, nB, oN, iT, nS, nL, nD, iE, iL, reduceCtorEq]
  refine R_loop (α := Nat) (fun k s' M' => k ≤ x.length ∧ s' 5 = aI k ∧ s' 1 = aI (n + (accC (fun x => (2 * x.reg.length) + (2 * x.bits.length) + (2 * x.cell.length) + x.isset.length) (x.take k) : Nat))) (fun k => x.length - k) 0 ⟨by omega, by simp only [go_sem, ↓reduceIte, nE, nA, nM, nB, oN, iT, nS, nL, nD, iE, iL, reduceCtorEq]; rfl, by simp only [go_sem, ↓reduceIte, nE, nA, nM, nB, oN, iT, nS, nL, nD, iE, iL, reduceCtorEq]; simp [accC]⟩ ?_
  rintro k s' M' ⟨hk, h5, h1⟩ ho
  unfold laws_heldMayS.b0
  have k0 : s' 0 = .dat none (mayss (mkMayS n x)) := by rw [ho 0 rfl]; simp only [go_sem, ↓reduceIte, nE, nA, nM, nB, oN, iT, nS, nL, nD, iE, iL, reduceCtorEq]
  clear ho
  by_cases hlt : k < x.length
  · have hi' : (k : Int) < x.length := by omega
    have hw : IntKind.i64.wrap (k + 1) = ((k + 1 : Nat) : Int) := wrap_k hlt (by omega)
    have hmk : (mkMayS n x)[k]? = some (mkEMay (n + (accC (fun x => (2 * x.reg.length) + (2 * x.bits.length) + (2 * x.cell.length) + x.isset.length) (x.take k) : Nat)) x[k]) := accM_get hlt
    have hcl := accC_le (c := fun x => (2 * x.reg.length) + (2 * x.bits.length) + (2 * x.cell.length) + x.isset.length) (l := x) (k := k + 1)
    have hst := accC_step (c := fun x => (2 * x.reg.length) + (2 * x.bits.length) + (2 * x.cell.length) + x.isset.length) hlt
    have hwE := he _ (List.getElem_mem hlt)
    try dsimp only at hst hwE
    unfold wMay at hwE
    unfold mkEMay at hmk
    simp only [go_sem, ↓reduceIte, nE, nA, nM, nB, oN, iT, nS, nL, nD, iE, iL, reduceCtorEq, k0, h1, h5, mkMayS_len, hi', hw, hmk]
    refine fcW_int (laws_heldStretchS.fcu x[k].reg (n + (accC (fun x => (2 * x.reg.length) + (2 * x.bits.length) + (2 * x.cell.length) + x.isset.length) (x.take k) : Nat)) (by omega) (by omega) (by omega)) ?_
    have hng : ¬ (n + (accC (fun x => (2 * x.reg.length) + (2 * x.bits.length) + (2 * x.cell.length) + x.isset.length) (x.take k) : Nat) + ((2 * x[k].reg.length) : Nat) < 0) := by omega
    simp only [go_sem, ↓reduceIte, nE, nA, nM, nB, oN, iT, nS, nL, nD, iE, iL, reduceCtorEq, hng, k0, h1, h5, mkMayS_len, hi', hw, hmk]
    refine fcW_int (laws_heldKnownS.fcu x[k].bits (n + (accC (fun x => (2 * x.reg.length) + (2 * x.bits.length) + (2 * x.cell.length) + x.isset.length) (x.take k) : Nat) + ((2 * x[k].reg.length) : Nat)) (by omega) (by omega) (by omega)) ?_
    have hng : ¬ (n + (accC (fun x => (2 * x.reg.length) + (2 * x.bits.length) + (2 * x.cell.length) + x.isset.length) (x.take k) : Nat) + ((2 * x[k].reg.length) : Nat) + ((2 * x[k].bits.length) : Nat) < 0) := by omega
    simp only [go_sem, ↓reduceIte, nE, nA, nM, nB, oN, iT, nS, nL, nD, iE, iL, reduceCtorEq, hng, k0, h1, h5, mkMayS_len, hi', hw, hmk]
    refine fcW_int (laws_heldStretchS.fcu x[k].cell (n + (accC (fun x => (2 * x.reg.length) + (2 * x.bits.length) + (2 * x.cell.length) + x.isset.length) (x.take k) : Nat) + ((2 * x[k].reg.length) : Nat) + ((2 * x[k].bits.length) : Nat)) (by omega) (by omega) (by omega)) ?_
    have hng : ¬ (n + (accC (fun x => (2 * x.reg.length) + (2 * x.bits.length) + (2 * x.cell.length) + x.isset.length) (x.take k) : Nat) + ((2 * x[k].reg.length) : Nat) + ((2 * x[k].bits.length) : Nat) + ((2 * x[k].cell.length) : Nat) < 0) := by omega
    simp only [go_sem, ↓reduceIte, nE, nA, nM, nB, oN, iT, nS, nL, nD, iE, iL, reduceCtorEq, hng, k0, h1, h5, mkMayS_len, hi', hw, hmk]
    refine fcW_int (laws_heldBoolS.fcu x[k].isset (n + (accC (fun x => (2 * x.reg.length) + (2 * x.bits.length) + (2 * x.cell.length) + x.isset.length) (x.take k) : Nat) + ((2 * x[k].reg.length) : Nat) + ((2 * x[k].bits.length) : Nat) + ((2 * x[k].cell.length) : Nat)) (by omega) (by omega) (by omega)) ?_
    have hng : ¬ (n + (accC (fun x => (2 * x.reg.length) + (2 * x.bits.length) + (2 * x.cell.length) + x.isset.length) (x.take k) : Nat) + ((2 * x[k].reg.length) : Nat) + ((2 * x[k].bits.length) : Nat) + ((2 * x[k].cell.length) : Nat) + (x[k].isset.length : Nat) < 0) := by omega
    simp only [go_sem, ↓reduceIte, nE, nA, nM, nB, oN, iT, nS, nL, nD, iE, iL, reduceCtorEq, hng, k0, h1, h5, mkMayS_len, hi', hw, hmk]
    exact ⟨k + 1, by dsimp only; omega, by omega, by simp only [go_sem, ↓reduceIte, nE, nA, nM, nB, oN, iT, nS, nL, nD, iE, iL, reduceCtorEq, k0, h1, h5, mkMayS_len, hi', hw, hmk], by simp only [go_sem, ↓reduceIte, nE, nA, nM, nB, oN, iT, nS, nL, nD, iE, iL, reduceCtorEq, k0, h1, h5, mkMayS_len, hi', hw, hmk]; rw [hst]; congr 2; omega⟩
  · have hi' : ¬ (k : Int) < x.length := by omega
    obtain rfl : k = x.length := by omega
    simp only [go_sem, ↓reduceIte, nE, nA, nM, nB, oN, iT, nS, nL, nD, iE, iL, reduceCtorEq, hi', List.take_length, k0, h1, h5, mkMayS_len]
theorem laws_eqReport.fcu (x : RepD) (h : wReport x ≤ 1048576) :
    FCt prog F_laws_eqReport [.ro, .ro] [RepD.d x, RepD.d x] (Bb true) [] := by
  refine fct_run laws_eqReport.ok rfl ?_
  unfold wReport at h
  simp only [go_sem, ↓reduceIte, nE, nA, nM, nB, oN, iT, nS, nL, nD, iE, iL, reduceCtorEq]
  refine fcW_bool (laws_eqBoolS.fcu x.met (by omega)) ?_
  simp only [go_sem, ↓reduceIte, nE, nA, nM, nB, oN, iT, nS, nL, nD, iE, iL, reduceCtorEq]
  refine fcW_bool (laws_eqMayS.fcu x.mays (by omega)) ?_
  simp only [go_sem, ↓reduceIte, nE, nA, nM, nB, oN, iT, nS, nL, nD, iE, iL, reduceCtorEq]
  refine fcW_bool (laws_eqIntS.fcu x.bad (by omega)) ?_
  simp only [go_sem, ↓reduceIte, nE, nA, nM, nB, oN, iT, nS, nL, nD, iE, iL, reduceCtorEq]
theorem laws_markReport.fcu (x : RepD) (n : Int) (h : wReport x ≤ 1048576) (hc : cReport x ≤ 16777216) (hn : 0 ≤ n ∧ n + (cReport x : Nat) ≤ 576460752303423488) :
    FCt prog F_laws_markReport [.io, .ro] [RepD.d x, Ii n] (Ii (n + (cReport x : Nat))) [RepD.d (mkReport n x)] := by
  refine fct_run laws_markReport.ok rfl ?_
  unfold wReport at h
  unfold cReport at hc hn ⊢
  unfold mkReport
  simp only [go_sem, ↓reduceIte, nE, nA, nM, nB, oN, iT, nS, nL, nD, iE, iL, reduceCtorEq, take_map_len]
  refine coW_of (laws_markBoolS.fcu x.met (n) (by omega) (by omega) (by omega)) rfl (by simp only [noRsL, noRs_bools, Bool.and_self]) ?_
  simp only [go_sem, ↓reduceIte, nE, nA, nM, nB, oN, iT, nS, nL, nD, iE, iL, reduceCtorEq, mkBoolS_len, mkBoolS_take, mkIntS_len, mkIntS_take, mkMayS_len, mkMayS_take, take_map_len]
  refine coW_of (laws_markMayS.fcu x.mays (n + (x.met.length : Nat)) (by omega) (by omega) (by omega)) rfl (by simp only [noRsL, noRs_mayss, Bool.and_self]) ?_
  simp only [go_sem, ↓reduceIte, nE, nA, nM, nB, oN, iT, nS, nL, nD, iE, iL, reduceCtorEq, mkBoolS_len, mkBoolS_take, mkIntS_len, mkIntS_take, mkMayS_len, mkMayS_take, take_map_len]
  refine coW_of (laws_markIntS.fcu x.bad (n + (x.met.length : Nat) + (cMayS x.mays : Nat)) (by omega) (by omega) (by omega)) rfl (by simp only [noRsL, noRs_ints, Bool.and_self]) ?_
  simp only [go_sem, ↓reduceIte, nE, nA, nM, nB, oN, iT, nS, nL, nD, iE, iL, reduceCtorEq, mkBoolS_len, mkBoolS_take, mkIntS_len, mkIntS_take, mkMayS_len, mkMayS_take, take_map_len]
  try simp [Int.add_assoc, List.take_of_length_le, mkBoolS_len, mkIntS_len, mkMayS_len]
theorem laws_heldReport.fcu (x : RepD) (n : Int) (h : wReport x ≤ 1048576) (hc : cReport x ≤ 16777216) (hn : 0 ≤ n ∧ n + (cReport x : Nat) ≤ 576460752303423488) :
    FCt prog F_laws_heldReport [.ro, .ro] [RepD.d (mkReport n x), Ii n] (Ii (n + (cReport x : Nat))) [] := by
  refine fct_run laws_heldReport.ok rfl ?_
  unfold wReport at h
  unfold cReport at hc hn ⊢
  unfold mkReport
  simp only [go_sem, ↓reduceIte, nE, nA, nM, nB, oN, iT, nS, nL, nD, iE, iL, reduceCtorEq]
  refine fcW_int (laws_heldBoolS.fcu x.met (n) (by omega) (by omega) (by omega)) ?_
  have hng : ¬ (n + (x.met.length : Nat) < 0) := by omega
  simp only [go_sem, ↓reduceIte, nE, nA, nM, nB, oN, iT, nS, nL, nD, iE, iL, reduceCtorEq, hng]
  refine fcW_int (laws_heldMayS.fcu x.mays (n + (x.met.length : Nat)) (by omega) (by omega) (by omega)) ?_
  have hng : ¬ (n + (x.met.length : Nat) + (cMayS x.mays : Nat) < 0) := by omega
  simp only [go_sem, ↓reduceIte, nE, nA, nM, nB, oN, iT, nS, nL, nD, iE, iL, reduceCtorEq, hng]
  refine fcW_int (laws_heldIntS.fcu x.bad (n + (x.met.length : Nat) + (cMayS x.mays : Nat)) (by omega) (by omega) (by omega)) ?_
  have hng : ¬ (n + (x.met.length : Nat) + (cMayS x.mays : Nat) + (x.bad.length : Nat) < 0) := by omega
  simp only [go_sem, ↓reduceIte, nE, nA, nM, nB, oN, iT, nS, nL, nD, iE, iL, reduceCtorEq, hng]
  try simp [Int.add_assoc]
end Go.Vm.YtmbhjcgikblpiaaGreat
