/- What the functions that the law reaches return: part 2 (the conditions stand at each). -/
import Derived.Test.YtdebllkmblakkaaWka
/- Walks: 2-SAT: loops, by the reference. -/
namespace Go.Vm.Ytdebllkmblakkaa
open Go Go.Vm
set_option maxRecDepth 10000
set_option maxHeartbeats 16000000
set_option linter.unusedSimpArgs false
set_option linter.unusedVariables false

theorem Reach.trans {l : List (List Int)} {x y z : Int} (h1 : Reach l x y) (h2 : Reach l y z) : Reach l x z := by
  induction h2 with
  | refl => exact h1
  | step _ ha ih => exact .step ih ha
theorem any_eq {o : List Int} {x : Int} : o.any (· == x) = true ↔ x ∈ o := by
  rw [List.any_eq_true]
  constructor
  · rintro ⟨y, hy, e⟩
    have : y = x := by simpa using e
    subst this; exact hy
  · intro h; exact ⟨x, h, by simp⟩
theorem compL_mem {v : Nat} {l : List (List Int)} {x y : Int} (h : TwoOk v l) (hx : Lit v x) : y ∈ compL v l x ↔ Reach l x y ∧ Reach l y x := by
  unfold compL
  rw [List.mem_filter, reachL_mem (fun y => reach_lit h.lits hx), any_eq]
  constructor
  · rintro ⟨h1, h2⟩
    exact ⟨h1, (reachL_mem fun z => reach_lit h.lits (reach_lit h.lits hx h1)).1 h2⟩
  · rintro ⟨h1, h2⟩
    exact ⟨h1, (reachL_mem fun z => reach_lit h.lits (reach_lit h.lits hx h1)).2 h2⟩
theorem compL_inc (v : Nat) (l : List (List Int)) (x : Int) : Inc (compL v l x) := (reachL_inc v l x).filter _
/-- what has been done -/
def Done (v : Nat) (l : List (List Int)) (x : Int) (dn : List Int) : Prop := ∀ y, y ∈ dn ↔ ∃ z, Lit v z ∧ z < x ∧ y ∈ compL v l z
theorem done_head {v : Nat} {l : List (List Int)} {x : Int} {dn : List Int} (h : TwoOk v l) (hx : Lit v x) (hd : Done v l x dn) : headB v l x = !dn.any (· == x) := by
  have hx0 : (x != 0) = true := by rw [bne_iff_ne]; exact hx.1
  unfold headB
  rw [hx0, Bool.true_and]
  have hself := compL_self h hx
  have hinc := compL_inc v l x
  have hmem := fun y => compL_mem (y := y) h hx
  generalize compL v l x = C at hself hinc hmem
  cases C with
  | nil => cases hself
  | cons c C =>
    have hg0 : (c :: C).getD 0 0 = c := rfl
    rw [hg0]
    obtain ⟨h1, h2⟩ := List.pairwise_cons.1 hinc
    cases hq : dn.any (· == x) with
    | true =>
      obtain ⟨z, hz, hzx, hzc⟩ := (hd x).1 (any_eq.1 hq)
      obtain ⟨r1, r2⟩ := (compL_mem h hz).1 hzc
      have hzC : z ∈ c :: C := (hmem z).2 ⟨r2, r1⟩
      have : c ≠ x := by
        rcases List.mem_cons.1 hzC with e | e
        · omega
        · have := h1 z e; omega
      simpa using this
    | false =>
      have : c = x := by
        rcases List.mem_cons.1 hself with e | e
        · exact e.symm
        · exfalso
          have hcx := h1 x e
          obtain ⟨r1, r2⟩ := (hmem c).1 List.mem_cons_self
          have : x ∈ dn := (hd x).2 ⟨c, reach_lit h.lits hx r1, hcx, (compL_mem h (reach_lit h.lits hx r1)).2 ⟨r2, r1⟩⟩
          rw [any_eq.2 this] at hq; cases hq
      subst this
      simp
theorem done_skip {v : Nat} {l : List (List Int)} {x : Int} {dn : List Int} (h : TwoOk v l) (hd : Done v l x dn) (hs : x = 0 ∨ x ∈ dn) : Done v l (x + 1) dn := by
  intro y
  rw [hd y]
  constructor
  · rintro ⟨z, hz, hzx, hy⟩; exact ⟨z, hz, by omega, hy⟩
  · rintro ⟨z, hz, hzx, hy⟩
    by_cases hzz : z = x
    · subst hzz
      rcases hs with e | e
      · exact absurd e hz.1
      · obtain ⟨w, hw, hwx, hc⟩ := (hd z).1 e
        obtain ⟨r1, r2⟩ := (compL_mem h hz).1 hy
        obtain ⟨r3, r4⟩ := (compL_mem h hw).1 hc
        exact ⟨w, hw, hwx, (compL_mem h hw).2 ⟨r3.trans r1, r2.trans r4⟩⟩
    · exact ⟨z, hz, by omega, hy⟩
theorem done_step {v : Nat} {l : List (List Int)} {x : Int} {dn : List Int} (hx : Lit v x) (hd : Done v l x dn) : Done v l (x + 1) (dn ++ compL v l x) := by
  intro y
  rw [List.mem_append, hd y]
  constructor
  · rintro (⟨z, hz, hzx, hy⟩ | hy)
    · exact ⟨z, hz, by omega, hy⟩
    · exact ⟨x, hx, by omega, hy⟩
  · rintro ⟨z, hz, hzx, hy⟩
    by_cases hzz : z = x
    · subst hzz; exact .inr hy
    · exact .inl ⟨z, hz, by omega, hy⟩
theorem done_zero (v : Nat) (l : List (List Int)) : Done v l (((0 : Nat) : Int) - v) [] := by
  intro y
  constructor
  · intro h; cases h
  · rintro ⟨z, hz, hzx, _⟩
    unfold Lit at hz
    omega
theorem spec_LoopsOf.fc (v : Int) (l : List (List Int)) (hl : l.length ≤ 4294967296) (hr : ∀ c ∈ l, c.length ≤ 4294967296) :
    FCt prog F_spec_LoopsOf [.ro, .ro] [Ii v, intss l] (.tup [intss (loopsD v l).1, Bb (loopsD v l).2]) [] := by
  refine fct_run spec_LoopsOf.ok rfl ?_
  unfold loopsD
  simp only [go_sem, ↓reduceIte, Nat.reduceEqDiff, Nat.reduceAdd, Nat.reduceMul, Nat.reduceBEq, Option.getD_none, Int.reduceToNat, Nat.reduceSub, Nat.reduceLT, Nat.reduceLeDiff, Int.reduceLE, Int.reduceLT, reduceCtorEq]
  refine fcW_bool (spec_IsTwo.fc v l hl hr) ?_
  cases h : isTwoB v l with
  | false => simp only [go_sem, ↓reduceIte, Nat.reduceEqDiff, Nat.reduceAdd, Nat.reduceMul, Nat.reduceBEq, Option.getD_none, Int.reduceToNat, Nat.reduceSub, Nat.reduceLT, Nat.reduceLeDiff, Int.reduceLE, Int.reduceLT, reduceCtorEq]; try rfl
  | true =>
    obtain ⟨h0, h1, h2⟩ := two_ok h
    have hv := h2.hv
    generalize v.toNat = v at h1 h2 hv
    subst h1
    have hnv := neg_in (n := (v : Int)) (by omega)
    simp only [go_sem, ↓reduceIte, Nat.reduceEqDiff, Nat.reduceAdd, Nat.reduceMul, Nat.reduceBEq, Option.getD_none, Int.reduceToNat, Nat.reduceSub, Nat.reduceLT, Nat.reduceLeDiff, Int.reduceLE, Int.reduceLT, reduceCtorEq, hnv]
    refine R_loop (α := Nat × List Int) (fun a s' M' => a.1 ≤ 2 * v + 1 ∧ s' 8 = aI ((a.1 : Int) - v) ∧ Done v l ((a.1 : Int) - v) a.2 ∧ a.2.length ≤ 25 * a.1 ∧ (∃ w, s' 6 = .sl 3008 w 0 a.2.length 1 ∧ M'.m 3008 = some (.arr w true 1 (a.2.map Ii))) ∧ ∃ w, s' 7 = .sl 3456 w 0 (loopsK v l a.1).length 1 ∧ M'.m 3456 = some (.arr w true 1 ((loopsK v l a.1).map ints))) (fun a => 2 * v + 1 - a.1) (0, [])
      ⟨by simp, by simp only [go_sem, ↓reduceIte, Nat.reduceEqDiff, Nat.reduceAdd, Nat.reduceMul, Nat.reduceBEq, Option.getD_none, Int.reduceToNat, Nat.reduceSub, Nat.reduceLT, Nat.reduceLeDiff, Int.reduceLE, Int.reduceLT, reduceCtorEq, show ((0 : Nat) : Int) - v = -v by omega]; try rfl, done_zero v l, by simp, ⟨_, by simp only [go_sem, ↓reduceIte, Nat.reduceEqDiff, Nat.reduceAdd, Nat.reduceMul, Nat.reduceBEq, Option.getD_none, Int.reduceToNat, Nat.reduceSub, Nat.reduceLT, Nat.reduceLeDiff, Int.reduceLE, Int.reduceLT, reduceCtorEq]; rfl, by simp only [go_sem, ↓reduceIte, Nat.reduceEqDiff, Nat.reduceAdd, Nat.reduceMul, Nat.reduceBEq, Option.getD_none, Int.reduceToNat, Nat.reduceSub, Nat.reduceLT, Nat.reduceLeDiff, Int.reduceLE, Int.reduceLT, reduceCtorEq]; try rfl⟩, _, by simp only [go_sem, ↓reduceIte, Nat.reduceEqDiff, Nat.reduceAdd, Nat.reduceMul, Nat.reduceBEq, Option.getD_none, Int.reduceToNat, Nat.reduceSub, Nat.reduceLT, Nat.reduceLeDiff, Int.reduceLE, Int.reduceLT, reduceCtorEq]; rfl, by simp only [go_sem, ↓reduceIte, Nat.reduceEqDiff, Nat.reduceAdd, Nat.reduceMul, Nat.reduceBEq, Option.getD_none, Int.reduceToNat, Nat.reduceSub, Nat.reduceLT, Nat.reduceLeDiff, Int.reduceLE, Int.reduceLT, reduceCtorEq]; try rfl⟩ ?_
    rintro ⟨k, dn⟩ s' M' ⟨hk, h8, hd, hdl, ⟨w, h6, hm⟩, w2, h7, hm2⟩ ho'
    dsimp only at hk h8 hd hdl h6 hm h7 hm2
    unfold spec_LoopsOf.b1
    have q0 : s' 0 = .dat none (Ii v) := by rw [ho' 0 rfl]; simp only [go_sem, ↓reduceIte, Nat.reduceEqDiff, Nat.reduceAdd, Nat.reduceMul, Nat.reduceBEq, Option.getD_none, Int.reduceToNat, Nat.reduceSub, Nat.reduceLT, Nat.reduceLeDiff, Int.reduceLE, Int.reduceLT, reduceCtorEq]
    have q1 : s' 1 = .dat none (intss l) := by rw [ho' 1 rfl]; simp only [go_sem, ↓reduceIte, Nat.reduceEqDiff, Nat.reduceAdd, Nat.reduceMul, Nat.reduceBEq, Option.getD_none, Int.reduceToNat, Nat.reduceSub, Nat.reduceLT, Nat.reduceLeDiff, Int.reduceLE, Int.reduceLT, reduceCtorEq]
    clear ho'
    by_cases hlt : k < 2 * v + 1
    · have hi' : (k : Int) - v ≤ v := by omega
      have hfl := loopsK_len v l k
      have hbb : ((loopsK v l k).length + 1) * 24 ≤ 70368744177664 := by omega
      have hw : IntKind.i64.wrap ((k : Int) - v + 1) = ((k + 1 : Nat) : Int) - v := by rw [wrap_in (by omega) (by omega)]; omega
      have hst := fun x hx => loopsK_step (v := v) (l := l) (k := k) (x := x) hlt hx
      have hxr : -(v : Int) ≤ (k : Int) - v ∧ (k : Int) - v ≤ v := by omega
      have hx1 : ((k + 1 : Nat) : Int) - v = (k : Int) - v + 1 := by omega
      generalize hx : (k : Int) - v = x at h8 hi' hw hd hxr hx1
      replace hst := hst x hx
      cases hq : (x == 0) with
      | true =>
        have hq2 : (x != 0) = false := by rw [bne, hq]; rfl
        have hx0 : x = 0 := by simpa using hq
        simp only [headB, hq2, Bool.false_and, Bool.false_eq_true, if_false, List.append_nil] at hst
        simp only [go_sem, ↓reduceIte, Nat.reduceEqDiff, Nat.reduceAdd, Nat.reduceMul, Nat.reduceBEq, Option.getD_none, Int.reduceToNat, Nat.reduceSub, Nat.reduceLT, Nat.reduceLeDiff, Int.reduceLE, Int.reduceLT, reduceCtorEq, hi', hq, hw, q0, q1, h8, h7, h6, hm, hm2]
        exact ⟨(k + 1, dn), by dsimp only; omega, by dsimp only; omega, by simp only [go_sem, ↓reduceIte, Nat.reduceEqDiff, Nat.reduceAdd, Nat.reduceMul, Nat.reduceBEq, Option.getD_none, Int.reduceToNat, Nat.reduceSub, Nat.reduceLT, Nat.reduceLeDiff, Int.reduceLE, Int.reduceLT, reduceCtorEq, q0, q1, h8, h7, h6, hm, hm2], by dsimp only; rw [hx1]; exact done_skip h2 hd (.inl hx0), by dsimp only; omega, ⟨w, by simp only [go_sem, ↓reduceIte, Nat.reduceEqDiff, Nat.reduceAdd, Nat.reduceMul, Nat.reduceBEq, Option.getD_none, Int.reduceToNat, Nat.reduceSub, Nat.reduceLT, Nat.reduceLeDiff, Int.reduceLE, Int.reduceLT, reduceCtorEq, q0, q1, h8, h7, h6, hm, hm2], by simp only [go_sem, ↓reduceIte, Nat.reduceEqDiff, Nat.reduceAdd, Nat.reduceMul, Nat.reduceBEq, Option.getD_none, Int.reduceToNat, Nat.reduceSub, Nat.reduceLT, Nat.reduceLeDiff, Int.reduceLE, Int.reduceLT, reduceCtorEq, q0, q1, h8, h7, h6, hm, hm2]⟩, w2, by dsimp only; rw [hst]; simp only [go_sem, ↓reduceIte, Nat.reduceEqDiff, Nat.reduceAdd, Nat.reduceMul, Nat.reduceBEq, Option.getD_none, Int.reduceToNat, Nat.reduceSub, Nat.reduceLT, Nat.reduceLeDiff, Int.reduceLE, Int.reduceLT, reduceCtorEq, q0, q1, h8, h7, h6, hm, hm2]; try rfl, by dsimp only; rw [hst]; simp only [go_sem, ↓reduceIte, Nat.reduceEqDiff, Nat.reduceAdd, Nat.reduceMul, Nat.reduceBEq, Option.getD_none, Int.reduceToNat, Nat.reduceSub, Nat.reduceLT, Nat.reduceLeDiff, Int.reduceLE, Int.reduceLT, reduceCtorEq, q0, q1, h8, h7, h6, hm, hm2]; try rfl⟩
      | false =>
        have hxl : Lit v x := by
          have : x ≠ 0 := by simpa using hq
          unfold Lit; omega
        have hh := done_head h2 hxl hd
        simp only [go_sem, ↓reduceIte, Nat.reduceEqDiff, Nat.reduceAdd, Nat.reduceMul, Nat.reduceBEq, Option.getD_none, Int.reduceToNat, Nat.reduceSub, Nat.reduceLT, Nat.reduceLeDiff, Int.reduceLE, Int.reduceLT, reduceCtorEq, hi', hq, take_map_len, q0, q1, h8, h7, h6, hm, hm2]
        refine fcW_bool (spec_l1Has.fc dn x (by omega)) ?_
        cases hq3 : dn.any (· == x) with
        | true =>
          simp only [hh, hq3, Bool.not_true, Bool.false_eq_true, if_false, List.append_nil] at hst
          simp only [go_sem, ↓reduceIte, Nat.reduceEqDiff, Nat.reduceAdd, Nat.reduceMul, Nat.reduceBEq, Option.getD_none, Int.reduceToNat, Nat.reduceSub, Nat.reduceLT, Nat.reduceLeDiff, Int.reduceLE, Int.reduceLT, reduceCtorEq, hq3, hw, q0, q1, h8, h7, h6, hm, hm2]
          exact ⟨(k + 1, dn), by dsimp only; omega, by dsimp only; omega, by simp only [go_sem, ↓reduceIte, Nat.reduceEqDiff, Nat.reduceAdd, Nat.reduceMul, Nat.reduceBEq, Option.getD_none, Int.reduceToNat, Nat.reduceSub, Nat.reduceLT, Nat.reduceLeDiff, Int.reduceLE, Int.reduceLT, reduceCtorEq, q0, q1, h8, h7, h6, hm, hm2], by dsimp only; rw [hx1]; exact done_skip h2 hd (.inr (any_eq.1 hq3)), by dsimp only; omega, ⟨w, by simp only [go_sem, ↓reduceIte, Nat.reduceEqDiff, Nat.reduceAdd, Nat.reduceMul, Nat.reduceBEq, Option.getD_none, Int.reduceToNat, Nat.reduceSub, Nat.reduceLT, Nat.reduceLeDiff, Int.reduceLE, Int.reduceLT, reduceCtorEq, q0, q1, h8, h7, h6, hm, hm2], by simp only [go_sem, ↓reduceIte, Nat.reduceEqDiff, Nat.reduceAdd, Nat.reduceMul, Nat.reduceBEq, Option.getD_none, Int.reduceToNat, Nat.reduceSub, Nat.reduceLT, Nat.reduceLeDiff, Int.reduceLE, Int.reduceLT, reduceCtorEq, q0, q1, h8, h7, h6, hm, hm2]⟩, w2, by dsimp only; rw [hst]; simp only [go_sem, ↓reduceIte, Nat.reduceEqDiff, Nat.reduceAdd, Nat.reduceMul, Nat.reduceBEq, Option.getD_none, Int.reduceToNat, Nat.reduceSub, Nat.reduceLT, Nat.reduceLeDiff, Int.reduceLE, Int.reduceLT, reduceCtorEq, q0, q1, h8, h7, h6, hm, hm2]; try rfl, by dsimp only; rw [hst]; simp only [go_sem, ↓reduceIte, Nat.reduceEqDiff, Nat.reduceAdd, Nat.reduceMul, Nat.reduceBEq, Option.getD_none, Int.reduceToNat, Nat.reduceSub, Nat.reduceLT, Nat.reduceLeDiff, Int.reduceLE, Int.reduceLT, reduceCtorEq, q0, q1, h8, h7, h6, hm, hm2]; try rfl⟩
        | false =>
          simp only [hh, hq3, Bool.not_false, if_true] at hst
          have hrl := reachL_len v l x
          simp only [go_sem, ↓reduceIte, Nat.reduceEqDiff, Nat.reduceAdd, Nat.reduceMul, Nat.reduceBEq, Option.getD_none, Int.reduceToNat, Nat.reduceSub, Nat.reduceLT, Nat.reduceLeDiff, Int.reduceLE, Int.reduceLT, reduceCtorEq, hq3, q0, q1, h8, h7, h6, hm, hm2]
          refine fcW_bd (spec_l15Leads.fc v l x h2.hv h2.lits h2.two h2.dist hxl h2.len) noRs_ints ?_
          have hmem := fun y => reachL_mem (y := y) (l := l) fun y => reach_lit h2.lits hxl
          have hself := compL_self h2 hxl
          have hcl := compL_len v l x
          unfold compL at hself hcl
          have hfin : ∀ dn', dn' = dn ++ compL v l x → Done v l (x + 1) dn' := fun dn' e => by rw [e]; exact done_step hxl hd
          unfold compL at hst hfin
          generalize reachL v l x = R at hst hfin hrl hmem hself hcl ⊢
          generalize hp : (fun y => (reachL v l y).any (· == x)) = p at hst hfin hself hcl
          simp only [go_sem, ↓reduceIte, Nat.reduceEqDiff, Nat.reduceAdd, Nat.reduceMul, Nat.reduceBEq, Option.getD_none, Int.reduceToNat, Nat.reduceSub, Nat.reduceLT, Nat.reduceLeDiff, Int.reduceLE, Int.reduceLT, reduceCtorEq, q0, q1, h8, h7, h6, hm, hm2]
          refine R_loop (α := Nat) (fun j s' M' => j ≤ R.length ∧ s' 34 = aI j ∧ (s' 7 = .sl 3456 w2 0 (loopsK v l k).length 1 ∧ M'.m 3456 = some (.arr w2 true 1 ((loopsK v l k).map ints))) ∧ (∃ u, s' 32 = .sl 1728 u 0 R.length 1 ∧ M'.m 1728 = some (.arr u true 1 (R.map Ii))) ∧ (∃ w, s' 6 = .sl 3008 w 0 (dn ++ (R.take j).filter p).length 1 ∧ M'.m 3008 = some (.arr w true 1 ((dn ++ (R.take j).filter p).map Ii))) ∧ RowX (s' 9) M' [2688] (((R.take j).filter p).map Ii)) (fun j => R.length - j) 0
            ⟨by omega, by simp only [go_sem, ↓reduceIte, Nat.reduceEqDiff, Nat.reduceAdd, Nat.reduceMul, Nat.reduceBEq, Option.getD_none, Int.reduceToNat, Nat.reduceSub, Nat.reduceLT, Nat.reduceLeDiff, Int.reduceLE, Int.reduceLT, reduceCtorEq, q0, q1, h8, h7, h6, hm, hm2]; rfl, ⟨by simp only [go_sem, ↓reduceIte, Nat.reduceEqDiff, Nat.reduceAdd, Nat.reduceMul, Nat.reduceBEq, Option.getD_none, Int.reduceToNat, Nat.reduceSub, Nat.reduceLT, Nat.reduceLeDiff, Int.reduceLE, Int.reduceLT, reduceCtorEq, q0, q1, h8, h7, h6, hm, hm2], by simp only [go_sem, ↓reduceIte, Nat.reduceEqDiff, Nat.reduceAdd, Nat.reduceMul, Nat.reduceBEq, Option.getD_none, Int.reduceToNat, Nat.reduceSub, Nat.reduceLT, Nat.reduceLeDiff, Int.reduceLE, Int.reduceLT, reduceCtorEq, q0, q1, h8, h7, h6, hm, hm2]⟩, ⟨_, by simp only [go_sem, ↓reduceIte, Nat.reduceEqDiff, Nat.reduceAdd, Nat.reduceMul, Nat.reduceBEq, Option.getD_none, Int.reduceToNat, Nat.reduceSub, Nat.reduceLT, Nat.reduceLeDiff, Int.reduceLE, Int.reduceLT, reduceCtorEq, q0, q1, h8, h7, h6, hm, hm2]; try rfl, by simp only [go_sem, ↓reduceIte, Nat.reduceEqDiff, Nat.reduceAdd, Nat.reduceMul, Nat.reduceBEq, Option.getD_none, Int.reduceToNat, Nat.reduceSub, Nat.reduceLT, Nat.reduceLeDiff, Int.reduceLE, Int.reduceLT, reduceCtorEq, q0, q1, h8, h7, h6, hm, hm2]; try rfl⟩, ⟨w, by simp only [go_sem, ↓reduceIte, Nat.reduceEqDiff, Nat.reduceAdd, Nat.reduceMul, Nat.reduceBEq, Option.getD_none, Int.reduceToNat, Nat.reduceSub, Nat.reduceLT, Nat.reduceLeDiff, Int.reduceLE, Int.reduceLT, reduceCtorEq, List.filter_nil, List.append_nil, q0, q1, h8, h7, h6, hm, hm2], by simp only [go_sem, ↓reduceIte, Nat.reduceEqDiff, Nat.reduceAdd, Nat.reduceMul, Nat.reduceBEq, Option.getD_none, Int.reduceToNat, Nat.reduceSub, Nat.reduceLT, Nat.reduceLeDiff, Int.reduceLE, Int.reduceLT, reduceCtorEq, List.filter_nil, List.append_nil, q0, q1, h8, h7, h6, hm, hm2]⟩, .inl ⟨rfl, by simp only [go_sem, ↓reduceIte, Nat.reduceEqDiff, Nat.reduceAdd, Nat.reduceMul, Nat.reduceBEq, Option.getD_none, Int.reduceToNat, Nat.reduceSub, Nat.reduceLT, Nat.reduceLeDiff, Int.reduceLE, Int.reduceLT, reduceCtorEq, q0, q1, h8, h7, h6, hm, hm2]⟩⟩ ?_
          rintro j s2 M2 ⟨hj, h34, ⟨h7, hm2⟩, ⟨u, h32, hmR⟩, ⟨w3, h6, hm⟩, hrow⟩ ho
          unfold spec_LoopsOf.b0
          have g0 : s2 0 = .dat none (Ii v) := by rw [ho 0 rfl]; simp only [go_sem, ↓reduceIte, Nat.reduceEqDiff, Nat.reduceAdd, Nat.reduceMul, Nat.reduceBEq, Option.getD_none, Int.reduceToNat, Nat.reduceSub, Nat.reduceLT, Nat.reduceLeDiff, Int.reduceLE, Int.reduceLT, reduceCtorEq, q0, q1, h8, h7, h6, hm, hm2]
          have g1 : s2 1 = .dat none (intss l) := by rw [ho 1 rfl]; simp only [go_sem, ↓reduceIte, Nat.reduceEqDiff, Nat.reduceAdd, Nat.reduceMul, Nat.reduceBEq, Option.getD_none, Int.reduceToNat, Nat.reduceSub, Nat.reduceLT, Nat.reduceLeDiff, Int.reduceLE, Int.reduceLT, reduceCtorEq, q0, q1, h8, h7, h6, hm, hm2]
          have g8 : s2 8 = aI x := by rw [ho 8 rfl]; simp only [go_sem, ↓reduceIte, Nat.reduceEqDiff, Nat.reduceAdd, Nat.reduceMul, Nat.reduceBEq, Option.getD_none, Int.reduceToNat, Nat.reduceSub, Nat.reduceLT, Nat.reduceLeDiff, Int.reduceLE, Int.reduceLT, reduceCtorEq, q0, q1, h8, h7, h6, hm, hm2]
          have g33 : s2 33 = aI R.length := by rw [ho 33 rfl]; simp only [go_sem, ↓reduceIte, Nat.reduceEqDiff, Nat.reduceAdd, Nat.reduceMul, Nat.reduceBEq, Option.getD_none, Int.reduceToNat, Nat.reduceSub, Nat.reduceLT, Nat.reduceLeDiff, Int.reduceLE, Int.reduceLT, reduceCtorEq, q0, q1, h8, h7, h6, hm, hm2]
          clear ho
          by_cases hlt : j < R.length
          · have hi' : (j : Int) < R.length := by omega
            have ga : R[j]? = some R[j] := List.getElem?_eq_getElem hlt
            have hw : IntKind.i64.wrap (j + 1) = ((j + 1 : Nat) : Int) := wrap_k hlt (by omega)
            have hly : Lit v R[j] := reach_lit h2.lits hxl ((hmem _).1 (List.getElem_mem hlt))
            have hst2 := filter_step (p := p) hlt
            have hfl2 := filter_few (p := p) (l := R) (k := j)
            have hpy : p R[j] = (reachL v l R[j]).any (· == x) := by rw [← hp]
            generalize R[j] = y at ga hly hst2 hpy
            have hry := reachL_len v l y
            have hb1 : ((dn ++ (R.take j).filter p).length + 1) * 8 ≤ 70368744177664 := by rw [List.length_append]; omega
            have hb2 : (((R.take j).filter p).length + 1) * 8 ≤ 70368744177664 := by omega
            have next : j < j + 1 := by omega
            rcases hrow with ⟨hd9, h9⟩ | ⟨nm, hnm, w4, h9, hm9⟩
            · have hd0 : (R.take j).filter p = [] := List.map_eq_nil_iff.1 hd9
              simp only [go_sem, ↓reduceIte, Nat.reduceEqDiff, Nat.reduceAdd, Nat.reduceMul, Nat.reduceBEq, Option.getD_none, Int.reduceToNat, Nat.reduceSub, Nat.reduceLT, Nat.reduceLeDiff, Int.reduceLE, Int.reduceLT, reduceCtorEq, hi', ga, q0, q1, h8, h7, h6, hm, hm2, g0, g1, g8, g33, h34, h6, hm, h32, hmR, h7, hm2]
              refine fcW_bd (spec_l15Leads.fc v l y h2.hv h2.lits h2.two h2.dist hly h2.len) noRs_ints ?_
              simp only [go_sem, ↓reduceIte, Nat.reduceEqDiff, Nat.reduceAdd, Nat.reduceMul, Nat.reduceBEq, Option.getD_none, Int.reduceToNat, Nat.reduceSub, Nat.reduceLT, Nat.reduceLeDiff, Int.reduceLE, Int.reduceLT, reduceCtorEq, take_map_len, q0, q1, h8, h7, h6, hm, hm2, g0, g1, g8, g33, h34, h6, hm, h32, hmR, h7, hm2]
              refine fcW_bool (spec_l1Has.fc (reachL v l y) x (by omega)) ?_
              cases hq4 : (reachL v l y).any (· == x) with
              | false =>
                rw [hpy, hq4] at hst2
                simp only [Bool.false_eq_true, if_false, List.append_nil] at hst2
                simp only [go_sem, ↓reduceIte, Nat.reduceEqDiff, Nat.reduceAdd, Nat.reduceMul, Nat.reduceBEq, Option.getD_none, Int.reduceToNat, Nat.reduceSub, Nat.reduceLT, Nat.reduceLeDiff, Int.reduceLE, Int.reduceLT, reduceCtorEq, hw, q0, q1, h8, h7, h6, hm, hm2, g0, g1, g8, g33, h34, h6, hm, h32, hmR, h7, hm2]
                exact ⟨j + 1, by dsimp only; omega, by omega, by simp only [go_sem, ↓reduceIte, Nat.reduceEqDiff, Nat.reduceAdd, Nat.reduceMul, Nat.reduceBEq, Option.getD_none, Int.reduceToNat, Nat.reduceSub, Nat.reduceLT, Nat.reduceLeDiff, Int.reduceLE, Int.reduceLT, reduceCtorEq, q0, q1, h8, h7, h6, hm, hm2, g0, g1, g8, g33, h34, h6, hm, h32, hmR, h7, hm2], ⟨by simp only [go_sem, ↓reduceIte, Nat.reduceEqDiff, Nat.reduceAdd, Nat.reduceMul, Nat.reduceBEq, Option.getD_none, Int.reduceToNat, Nat.reduceSub, Nat.reduceLT, Nat.reduceLeDiff, Int.reduceLE, Int.reduceLT, reduceCtorEq, q0, q1, h8, h7, h6, hm, hm2, g0, g1, g8, g33, h34, h6, hm, h32, hmR, h7, hm2], by simp only [go_sem, ↓reduceIte, Nat.reduceEqDiff, Nat.reduceAdd, Nat.reduceMul, Nat.reduceBEq, Option.getD_none, Int.reduceToNat, Nat.reduceSub, Nat.reduceLT, Nat.reduceLeDiff, Int.reduceLE, Int.reduceLT, reduceCtorEq, q0, q1, h8, h7, h6, hm, hm2, g0, g1, g8, g33, h34, h6, hm, h32, hmR, h7, hm2]⟩, ⟨u, by simp only [go_sem, ↓reduceIte, Nat.reduceEqDiff, Nat.reduceAdd, Nat.reduceMul, Nat.reduceBEq, Option.getD_none, Int.reduceToNat, Nat.reduceSub, Nat.reduceLT, Nat.reduceLeDiff, Int.reduceLE, Int.reduceLT, reduceCtorEq, q0, q1, h8, h7, h6, hm, hm2, g0, g1, g8, g33, h34, h6, hm, h32, hmR, h7, hm2], by simp only [go_sem, ↓reduceIte, Nat.reduceEqDiff, Nat.reduceAdd, Nat.reduceMul, Nat.reduceBEq, Option.getD_none, Int.reduceToNat, Nat.reduceSub, Nat.reduceLT, Nat.reduceLeDiff, Int.reduceLE, Int.reduceLT, reduceCtorEq, q0, q1, h8, h7, h6, hm, hm2, g0, g1, g8, g33, h34, h6, hm, h32, hmR, h7, hm2]⟩, ⟨w3, by rw [hst2]; simp only [go_sem, ↓reduceIte, Nat.reduceEqDiff, Nat.reduceAdd, Nat.reduceMul, Nat.reduceBEq, Option.getD_none, Int.reduceToNat, Nat.reduceSub, Nat.reduceLT, Nat.reduceLeDiff, Int.reduceLE, Int.reduceLT, reduceCtorEq, q0, q1, h8, h7, h6, hm, hm2, g0, g1, g8, g33, h34, h6, hm, h32, hmR, h7, hm2], by rw [hst2]; simp only [go_sem, ↓reduceIte, Nat.reduceEqDiff, Nat.reduceAdd, Nat.reduceMul, Nat.reduceBEq, Option.getD_none, Int.reduceToNat, Nat.reduceSub, Nat.reduceLT, Nat.reduceLeDiff, Int.reduceLE, Int.reduceLT, reduceCtorEq, q0, q1, h8, h7, h6, hm, hm2, g0, g1, g8, g33, h34, h6, hm, h32, hmR, h7, hm2]⟩, .inl ⟨by rw [hst2]; exact hd9, by simp only [go_sem, ↓reduceIte, Nat.reduceEqDiff, Nat.reduceAdd, Nat.reduceMul, Nat.reduceBEq, Option.getD_none, Int.reduceToNat, Nat.reduceSub, Nat.reduceLT, Nat.reduceLeDiff, Int.reduceLE, Int.reduceLT, reduceCtorEq, h9, q0, q1, h8, h7, h6, hm, hm2, g0, g1, g8, g33, h34, h6, hm, h32, hmR, h7, hm2]⟩⟩
              | true =>
                rw [hpy, hq4] at hst2
                simp only [if_true] at hst2
                rw [hd0, List.nil_append] at hst2
                have el : ((dn ++ (R.take j).filter p).map Ii) ++ [Ii y] = (dn ++ (R.take (j + 1)).filter p).map Ii := by rw [hst2, hd0]; simp
                have el2 : (dn ++ (R.take (j + 1)).filter p).length = (dn ++ (R.take j).filter p).length + 1 := by rw [hst2, hd0]; simp
                simp only [go_sem, ↓reduceIte, Nat.reduceEqDiff, Nat.reduceAdd, Nat.reduceMul, Nat.reduceBEq, Option.getD_none, Int.reduceToNat, Nat.reduceSub, Nat.reduceLT, Nat.reduceLeDiff, Int.reduceLE, Int.reduceLT, reduceCtorEq, hw, h9, hb1, take_map_len, el, q0, q1, h8, h7, h6, hm, hm2, g0, g1, g8, g33, h34, h6, hm, h32, hmR, h7, hm2]
                exact ⟨j + 1, by dsimp only; omega, by omega, by simp only [go_sem, ↓reduceIte, Nat.reduceEqDiff, Nat.reduceAdd, Nat.reduceMul, Nat.reduceBEq, Option.getD_none, Int.reduceToNat, Nat.reduceSub, Nat.reduceLT, Nat.reduceLeDiff, Int.reduceLE, Int.reduceLT, reduceCtorEq, q0, q1, h8, h7, h6, hm, hm2, g0, g1, g8, g33, h34, h6, hm, h32, hmR, h7, hm2], ⟨by simp only [go_sem, ↓reduceIte, Nat.reduceEqDiff, Nat.reduceAdd, Nat.reduceMul, Nat.reduceBEq, Option.getD_none, Int.reduceToNat, Nat.reduceSub, Nat.reduceLT, Nat.reduceLeDiff, Int.reduceLE, Int.reduceLT, reduceCtorEq, q0, q1, h8, h7, h6, hm, hm2, g0, g1, g8, g33, h34, h6, hm, h32, hmR, h7, hm2], by simp only [go_sem, ↓reduceIte, Nat.reduceEqDiff, Nat.reduceAdd, Nat.reduceMul, Nat.reduceBEq, Option.getD_none, Int.reduceToNat, Nat.reduceSub, Nat.reduceLT, Nat.reduceLeDiff, Int.reduceLE, Int.reduceLT, reduceCtorEq, q0, q1, h8, h7, h6, hm, hm2, g0, g1, g8, g33, h34, h6, hm, h32, hmR, h7, hm2]⟩, ⟨u, by simp only [go_sem, ↓reduceIte, Nat.reduceEqDiff, Nat.reduceAdd, Nat.reduceMul, Nat.reduceBEq, Option.getD_none, Int.reduceToNat, Nat.reduceSub, Nat.reduceLT, Nat.reduceLeDiff, Int.reduceLE, Int.reduceLT, reduceCtorEq, q0, q1, h8, h7, h6, hm, hm2, g0, g1, g8, g33, h34, h6, hm, h32, hmR, h7, hm2], by simp only [go_sem, ↓reduceIte, Nat.reduceEqDiff, Nat.reduceAdd, Nat.reduceMul, Nat.reduceBEq, Option.getD_none, Int.reduceToNat, Nat.reduceSub, Nat.reduceLT, Nat.reduceLeDiff, Int.reduceLE, Int.reduceLT, reduceCtorEq, q0, q1, h8, h7, h6, hm, hm2, g0, g1, g8, g33, h34, h6, hm, h32, hmR, h7, hm2]⟩, ⟨_, by rw [el2]; simp only [go_sem, ↓reduceIte, Nat.reduceEqDiff, Nat.reduceAdd, Nat.reduceMul, Nat.reduceBEq, Option.getD_none, Int.reduceToNat, Nat.reduceSub, Nat.reduceLT, Nat.reduceLeDiff, Int.reduceLE, Int.reduceLT, reduceCtorEq, q0, q1, h8, h7, h6, hm, hm2, g0, g1, g8, g33, h34, h6, hm, h32, hmR, h7, hm2]; try rfl, by simp only [go_sem, ↓reduceIte, Nat.reduceEqDiff, Nat.reduceAdd, Nat.reduceMul, Nat.reduceBEq, Option.getD_none, Int.reduceToNat, Nat.reduceSub, Nat.reduceLT, Nat.reduceLeDiff, Int.reduceLE, Int.reduceLT, reduceCtorEq, q0, q1, h8, h7, h6, hm, hm2, g0, g1, g8, g33, h34, h6, hm, h32, hmR, h7, hm2]; try rfl⟩, .inr ⟨2688, by simp, _, by rw [hst2]; simp only [go_sem, ↓reduceIte, Nat.reduceEqDiff, Nat.reduceAdd, Nat.reduceMul, Nat.reduceBEq, Option.getD_none, Int.reduceToNat, Nat.reduceSub, Nat.reduceLT, Nat.reduceLeDiff, Int.reduceLE, Int.reduceLT, reduceCtorEq, q0, q1, h8, h7, h6, hm, hm2, g0, g1, g8, g33, h34, h6, hm, h32, hmR, h7, hm2]; try rfl, by rw [hst2]; simp only [go_sem, ↓reduceIte, Nat.reduceEqDiff, Nat.reduceAdd, Nat.reduceMul, Nat.reduceBEq, Option.getD_none, Int.reduceToNat, Nat.reduceSub, Nat.reduceLT, Nat.reduceLeDiff, Int.reduceLE, Int.reduceLT, reduceCtorEq, q0, q1, h8, h7, h6, hm, hm2, g0, g1, g8, g33, h34, h6, hm, h32, hmR, h7, hm2]; try rfl⟩⟩
            · rw [List.length_map] at h9
              rw [List.mem_singleton] at hnm
              subst hnm
              simp only [go_sem, ↓reduceIte, Nat.reduceEqDiff, Nat.reduceAdd, Nat.reduceMul, Nat.reduceBEq, Option.getD_none, Int.reduceToNat, Nat.reduceSub, Nat.reduceLT, Nat.reduceLeDiff, Int.reduceLE, Int.reduceLT, reduceCtorEq, hi', ga, q0, q1, h8, h7, h6, hm, hm2, g0, g1, g8, g33, h34, h6, hm, h32, hmR, h7, hm2]
              refine fcW_bd (spec_l15Leads.fc v l y h2.hv h2.lits h2.two h2.dist hly h2.len) noRs_ints ?_
              simp only [go_sem, ↓reduceIte, Nat.reduceEqDiff, Nat.reduceAdd, Nat.reduceMul, Nat.reduceBEq, Option.getD_none, Int.reduceToNat, Nat.reduceSub, Nat.reduceLT, Nat.reduceLeDiff, Int.reduceLE, Int.reduceLT, reduceCtorEq, take_map_len, q0, q1, h8, h7, h6, hm, hm2, g0, g1, g8, g33, h34, h6, hm, h32, hmR, h7, hm2]
              refine fcW_bool (spec_l1Has.fc (reachL v l y) x (by omega)) ?_
              cases hq4 : (reachL v l y).any (· == x) with
              | false =>
                rw [hpy, hq4] at hst2
                simp only [Bool.false_eq_true, if_false, List.append_nil] at hst2
                simp only [go_sem, ↓reduceIte, Nat.reduceEqDiff, Nat.reduceAdd, Nat.reduceMul, Nat.reduceBEq, Option.getD_none, Int.reduceToNat, Nat.reduceSub, Nat.reduceLT, Nat.reduceLeDiff, Int.reduceLE, Int.reduceLT, reduceCtorEq, hw, q0, q1, h8, h7, h6, hm, hm2, g0, g1, g8, g33, h34, h6, hm, h32, hmR, h7, hm2]
                exact ⟨j + 1, by dsimp only; omega, by omega, by simp only [go_sem, ↓reduceIte, Nat.reduceEqDiff, Nat.reduceAdd, Nat.reduceMul, Nat.reduceBEq, Option.getD_none, Int.reduceToNat, Nat.reduceSub, Nat.reduceLT, Nat.reduceLeDiff, Int.reduceLE, Int.reduceLT, reduceCtorEq, q0, q1, h8, h7, h6, hm, hm2, g0, g1, g8, g33, h34, h6, hm, h32, hmR, h7, hm2], ⟨by simp only [go_sem, ↓reduceIte, Nat.reduceEqDiff, Nat.reduceAdd, Nat.reduceMul, Nat.reduceBEq, Option.getD_none, Int.reduceToNat, Nat.reduceSub, Nat.reduceLT, Nat.reduceLeDiff, Int.reduceLE, Int.reduceLT, reduceCtorEq, q0, q1, h8, h7, h6, hm, hm2, g0, g1, g8, g33, h34, h6, hm, h32, hmR, h7, hm2], by simp only [go_sem, ↓reduceIte, Nat.reduceEqDiff, Nat.reduceAdd, Nat.reduceMul, Nat.reduceBEq, Option.getD_none, Int.reduceToNat, Nat.reduceSub, Nat.reduceLT, Nat.reduceLeDiff, Int.reduceLE, Int.reduceLT, reduceCtorEq, q0, q1, h8, h7, h6, hm, hm2, g0, g1, g8, g33, h34, h6, hm, h32, hmR, h7, hm2]⟩, ⟨u, by simp only [go_sem, ↓reduceIte, Nat.reduceEqDiff, Nat.reduceAdd, Nat.reduceMul, Nat.reduceBEq, Option.getD_none, Int.reduceToNat, Nat.reduceSub, Nat.reduceLT, Nat.reduceLeDiff, Int.reduceLE, Int.reduceLT, reduceCtorEq, q0, q1, h8, h7, h6, hm, hm2, g0, g1, g8, g33, h34, h6, hm, h32, hmR, h7, hm2], by simp only [go_sem, ↓reduceIte, Nat.reduceEqDiff, Nat.reduceAdd, Nat.reduceMul, Nat.reduceBEq, Option.getD_none, Int.reduceToNat, Nat.reduceSub, Nat.reduceLT, Nat.reduceLeDiff, Int.reduceLE, Int.reduceLT, reduceCtorEq, q0, q1, h8, h7, h6, hm, hm2, g0, g1, g8, g33, h34, h6, hm, h32, hmR, h7, hm2]⟩, ⟨w3, by rw [hst2]; simp only [go_sem, ↓reduceIte, Nat.reduceEqDiff, Nat.reduceAdd, Nat.reduceMul, Nat.reduceBEq, Option.getD_none, Int.reduceToNat, Nat.reduceSub, Nat.reduceLT, Nat.reduceLeDiff, Int.reduceLE, Int.reduceLT, reduceCtorEq, q0, q1, h8, h7, h6, hm, hm2, g0, g1, g8, g33, h34, h6, hm, h32, hmR, h7, hm2], by rw [hst2]; simp only [go_sem, ↓reduceIte, Nat.reduceEqDiff, Nat.reduceAdd, Nat.reduceMul, Nat.reduceBEq, Option.getD_none, Int.reduceToNat, Nat.reduceSub, Nat.reduceLT, Nat.reduceLeDiff, Int.reduceLE, Int.reduceLT, reduceCtorEq, q0, q1, h8, h7, h6, hm, hm2, g0, g1, g8, g33, h34, h6, hm, h32, hmR, h7, hm2]⟩, .inr ⟨2688, by simp, w4, by rw [hst2, List.length_map]; simp only [go_sem, ↓reduceIte, Nat.reduceEqDiff, Nat.reduceAdd, Nat.reduceMul, Nat.reduceBEq, Option.getD_none, Int.reduceToNat, Nat.reduceSub, Nat.reduceLT, Nat.reduceLeDiff, Int.reduceLE, Int.reduceLT, reduceCtorEq, h9, q0, q1, h8, h7, h6, hm, hm2, g0, g1, g8, g33, h34, h6, hm, h32, hmR, h7, hm2], by rw [hst2]; simp only [go_sem, ↓reduceIte, Nat.reduceEqDiff, Nat.reduceAdd, Nat.reduceMul, Nat.reduceBEq, Option.getD_none, Int.reduceToNat, Nat.reduceSub, Nat.reduceLT, Nat.reduceLeDiff, Int.reduceLE, Int.reduceLT, reduceCtorEq, hm9, q0, q1, h8, h7, h6, hm, hm2, g0, g1, g8, g33, h34, h6, hm, h32, hmR, h7, hm2]⟩⟩
              | true =>
                rw [hpy, hq4] at hst2
                simp only [if_true] at hst2
                have el : ((dn ++ (R.take j).filter p).map Ii) ++ [Ii y] = (dn ++ (R.take (j + 1)).filter p).map Ii := by rw [hst2]; simp
                have el2 : (dn ++ (R.take (j + 1)).filter p).length = (dn ++ (R.take j).filter p).length + 1 := by rw [hst2]; simp; omega
                have el3 : (((R.take j).filter p).map Ii) ++ [Ii y] = ((R.take (j + 1)).filter p).map Ii := by rw [hst2]; simp
                have el4 : ((R.take (j + 1)).filter p).length = ((R.take j).filter p).length + 1 := by rw [hst2]; simp
                simp only [go_sem, ↓reduceIte, Nat.reduceEqDiff, Nat.reduceAdd, Nat.reduceMul, Nat.reduceBEq, Option.getD_none, Int.reduceToNat, Nat.reduceSub, Nat.reduceLT, Nat.reduceLeDiff, Int.reduceLE, Int.reduceLT, reduceCtorEq, hw, h9, hm9, hb1, hb2, take_map_len, el, el3, q0, q1, h8, h7, h6, hm, hm2, g0, g1, g8, g33, h34, h6, hm, h32, hmR, h7, hm2]
                exact ⟨j + 1, by dsimp only; omega, by omega, by simp only [go_sem, ↓reduceIte, Nat.reduceEqDiff, Nat.reduceAdd, Nat.reduceMul, Nat.reduceBEq, Option.getD_none, Int.reduceToNat, Nat.reduceSub, Nat.reduceLT, Nat.reduceLeDiff, Int.reduceLE, Int.reduceLT, reduceCtorEq, q0, q1, h8, h7, h6, hm, hm2, g0, g1, g8, g33, h34, h6, hm, h32, hmR, h7, hm2], ⟨by simp only [go_sem, ↓reduceIte, Nat.reduceEqDiff, Nat.reduceAdd, Nat.reduceMul, Nat.reduceBEq, Option.getD_none, Int.reduceToNat, Nat.reduceSub, Nat.reduceLT, Nat.reduceLeDiff, Int.reduceLE, Int.reduceLT, reduceCtorEq, q0, q1, h8, h7, h6, hm, hm2, g0, g1, g8, g33, h34, h6, hm, h32, hmR, h7, hm2], by simp only [go_sem, ↓reduceIte, Nat.reduceEqDiff, Nat.reduceAdd, Nat.reduceMul, Nat.reduceBEq, Option.getD_none, Int.reduceToNat, Nat.reduceSub, Nat.reduceLT, Nat.reduceLeDiff, Int.reduceLE, Int.reduceLT, reduceCtorEq, q0, q1, h8, h7, h6, hm, hm2, g0, g1, g8, g33, h34, h6, hm, h32, hmR, h7, hm2]⟩, ⟨u, by simp only [go_sem, ↓reduceIte, Nat.reduceEqDiff, Nat.reduceAdd, Nat.reduceMul, Nat.reduceBEq, Option.getD_none, Int.reduceToNat, Nat.reduceSub, Nat.reduceLT, Nat.reduceLeDiff, Int.reduceLE, Int.reduceLT, reduceCtorEq, q0, q1, h8, h7, h6, hm, hm2, g0, g1, g8, g33, h34, h6, hm, h32, hmR, h7, hm2], by simp only [go_sem, ↓reduceIte, Nat.reduceEqDiff, Nat.reduceAdd, Nat.reduceMul, Nat.reduceBEq, Option.getD_none, Int.reduceToNat, Nat.reduceSub, Nat.reduceLT, Nat.reduceLeDiff, Int.reduceLE, Int.reduceLT, reduceCtorEq, q0, q1, h8, h7, h6, hm, hm2, g0, g1, g8, g33, h34, h6, hm, h32, hmR, h7, hm2]⟩, ⟨_, by rw [el2]; simp only [go_sem, ↓reduceIte, Nat.reduceEqDiff, Nat.reduceAdd, Nat.reduceMul, Nat.reduceBEq, Option.getD_none, Int.reduceToNat, Nat.reduceSub, Nat.reduceLT, Nat.reduceLeDiff, Int.reduceLE, Int.reduceLT, reduceCtorEq, q0, q1, h8, h7, h6, hm, hm2, g0, g1, g8, g33, h34, h6, hm, h32, hmR, h7, hm2]; try rfl, by simp only [go_sem, ↓reduceIte, Nat.reduceEqDiff, Nat.reduceAdd, Nat.reduceMul, Nat.reduceBEq, Option.getD_none, Int.reduceToNat, Nat.reduceSub, Nat.reduceLT, Nat.reduceLeDiff, Int.reduceLE, Int.reduceLT, reduceCtorEq, q0, q1, h8, h7, h6, hm, hm2, g0, g1, g8, g33, h34, h6, hm, h32, hmR, h7, hm2]; try rfl⟩, .inr ⟨2688, by simp, _, by rw [List.length_map, el4]; simp only [go_sem, ↓reduceIte, Nat.reduceEqDiff, Nat.reduceAdd, Nat.reduceMul, Nat.reduceBEq, Option.getD_none, Int.reduceToNat, Nat.reduceSub, Nat.reduceLT, Nat.reduceLeDiff, Int.reduceLE, Int.reduceLT, reduceCtorEq, q0, q1, h8, h7, h6, hm, hm2, g0, g1, g8, g33, h34, h6, hm, h32, hmR, h7, hm2]; try rfl, by simp only [go_sem, ↓reduceIte, Nat.reduceEqDiff, Nat.reduceAdd, Nat.reduceMul, Nat.reduceBEq, Option.getD_none, Int.reduceToNat, Nat.reduceSub, Nat.reduceLT, Nat.reduceLeDiff, Int.reduceLE, Int.reduceLT, reduceCtorEq, q0, q1, h8, h7, h6, hm, hm2, g0, g1, g8, g33, h34, h6, hm, h32, hmR, h7, hm2]; try rfl⟩⟩
          · have hi' : ¬ (j : Int) < R.length := by omega
            obtain rfl : j = R.length := by omega
            rw [List.take_length] at h6 hm hrow
            generalize hC : R.filter p = C at h6 hm hrow hst hfin hself hcl
            have hdl2 : (dn ++ C).length ≤ 25 * (k + 1) := by rw [List.length_append]; omega
            rcases hrow with ⟨hd9, h9⟩ | ⟨nm, hnm, w4, h9, hm9⟩
            · rw [List.map_eq_nil_iff.1 hd9] at hself; cases hself
            · rw [List.length_map] at h9
              rw [List.mem_singleton] at hnm
              subst hnm
              simp only [go_sem, ↓reduceIte, Nat.reduceEqDiff, Nat.reduceAdd, Nat.reduceMul, Nat.reduceBEq, Option.getD_none, Int.reduceToNat, Nat.reduceSub, Nat.reduceLT, Nat.reduceLeDiff, Int.reduceLE, Int.reduceLT, reduceCtorEq, Int.lt_irrefl, h9, hm9, hbb, hw, take_map_len, q0, q1, h8, h7, h6, hm, hm2, g0, g1, g8, g33, h34, h6, hm, h32, hmR, h7, hm2]
              exact ⟨(k + 1, dn ++ C), by dsimp only; omega, by dsimp only; omega, by simp only [go_sem, ↓reduceIte, Nat.reduceEqDiff, Nat.reduceAdd, Nat.reduceMul, Nat.reduceBEq, Option.getD_none, Int.reduceToNat, Nat.reduceSub, Nat.reduceLT, Nat.reduceLeDiff, Int.reduceLE, Int.reduceLT, reduceCtorEq, q0, q1, h8, h7, h6, hm, hm2, g0, g1, g8, g33, h34, h6, hm, h32, hmR, h7, hm2], by dsimp only; rw [hx1]; exact hfin _ rfl, hdl2, ⟨w3, by simp only [go_sem, ↓reduceIte, Nat.reduceEqDiff, Nat.reduceAdd, Nat.reduceMul, Nat.reduceBEq, Option.getD_none, Int.reduceToNat, Nat.reduceSub, Nat.reduceLT, Nat.reduceLeDiff, Int.reduceLE, Int.reduceLT, reduceCtorEq, q0, q1, h8, h7, h6, hm, hm2, g0, g1, g8, g33, h34, h6, hm, h32, hmR, h7, hm2], by simp only [go_sem, ↓reduceIte, Nat.reduceEqDiff, Nat.reduceAdd, Nat.reduceMul, Nat.reduceBEq, Option.getD_none, Int.reduceToNat, Nat.reduceSub, Nat.reduceLT, Nat.reduceLeDiff, Int.reduceLE, Int.reduceLT, reduceCtorEq, q0, q1, h8, h7, h6, hm, hm2, g0, g1, g8, g33, h34, h6, hm, h32, hmR, h7, hm2]⟩, _, by dsimp only; rw [hst, List.length_append]; simp only [go_sem, ↓reduceIte, Nat.reduceEqDiff, Nat.reduceAdd, Nat.reduceMul, Nat.reduceBEq, Option.getD_none, Int.reduceToNat, Nat.reduceSub, Nat.reduceLT, Nat.reduceLeDiff, Int.reduceLE, Int.reduceLT, reduceCtorEq, q0, q1, h8, h7, h6, hm, hm2, g0, g1, g8, g33, h34, h6, hm, h32, hmR, h7, hm2]; try rfl, by dsimp only; rw [hst, List.map_append]; simp only [go_sem, ↓reduceIte, Nat.reduceEqDiff, Nat.reduceAdd, Nat.reduceMul, Nat.reduceBEq, Option.getD_none, Int.reduceToNat, Nat.reduceSub, Nat.reduceLT, Nat.reduceLeDiff, Int.reduceLE, Int.reduceLT, reduceCtorEq, q0, q1, h8, h7, h6, hm, hm2, g0, g1, g8, g33, h34, h6, hm, h32, hmR, h7, hm2]; try rfl⟩
    · obtain rfl : k = 2 * v + 1 := by omega
      have hn : ¬ (((2 * v + 1 : Nat) : Int) - v ≤ v) := by omega
      rw [loopsK_end] at h7 hm2
      simp only [go_sem, ↓reduceIte, Nat.reduceEqDiff, Nat.reduceAdd, Nat.reduceMul, Nat.reduceBEq, Option.getD_none, Int.reduceToNat, Nat.reduceSub, Nat.reduceLT, Nat.reduceLeDiff, Int.reduceLE, Int.reduceLT, reduceCtorEq, hn, h7, hm2, take_map_len, q0, q1, h8, h7, h6, hm, hm2]
end Go.Vm.Ytdebllkmblakkaa
