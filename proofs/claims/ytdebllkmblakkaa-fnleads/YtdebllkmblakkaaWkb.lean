/- What the functions that the law reaches return: part 2 (the conditions stand at each). -/
import Derived.Test.YtdebllkmblakkaaWka
/- Walks: choices out of bytes. -/
namespace Go.Vm.Ytdebllkmblakkaa
open Go Go.Vm
set_option maxRecDepth 10000
set_option maxHeartbeats 16000000
set_option linter.unusedSimpArgs false
set_option linter.unusedVariables false

abbrev Ub (n : Int) : D := .int .u8 n
theorem getD_sm {α : Type} {l : List α} {i : Nat} {d : α} (h : i < l.length) : l[i]? = some (l.getD i d) := by
  rw [List.getD_eq_getElem?_getD, List.getElem?_eq_getElem h]; rfl
structure CurD where
  code : List Int
  pos : Int
  seed : Int
abbrev CurD.d (c : CurD) : D := .agg [.rs 1 (c.code.map Ub), Ii c.pos, .int .u64 c.seed]
structure CurOk (c : CurD) (n : Nat) : Prop where
  p0 : 0 ≤ c.pos
  p1 : c.pos + n ≤ 4611686018427387904
  len : c.code.length ≤ 9223372036854775807
  by8 : ∀ b ∈ c.code, 0 ≤ b ∧ b ≤ 255
def seedV (c : CurD) (b : Int) : Int := IntKind.u64.wrap (IntKind.u64.wrap (IntKind.u64.wrap (c.seed * 6364136223846793005) + IntKind.u64.wrap b) + 1442695040888963407)
def byteV (c : CurD) : Int := if c.pos < c.code.length then c.code.getD c.pos.toNat 0 else 0
def foldV (s : Int) : Int := IntKind.i64.wrap (IntKind.u64.wrap (BitVec.ofInt IntKind.u64.bits (Int.fdiv s (2 ^ min (40 : Int).toNat IntKind.u64.bits)) &&& BitVec.ofInt IntKind.u64.bits 255).toNat)
def nextV (c : CurD) : Int := if c.pos + 1 ≤ c.code.length then byteV c else foldV (seedV c (byteV c))
def nextC (c : CurD) : CurD := ⟨c.code, c.pos + 1, seedV c (byteV c)⟩
theorem nextC_ok {c : CurD} {n : Nat} (h : CurOk c (n + 1)) : CurOk (nextC c) n := by
  obtain ⟨h1, h2, h3, h4⟩ := h
  refine ⟨?_, ?_, h3, h4⟩
  · show 0 ≤ c.pos + 1; omega
  · show c.pos + 1 + n ≤ _; omega
theorem byteV_in {c : CurD} {n : Nat} (h : CurOk c n) : 0 ≤ byteV c ∧ byteV c ≤ 255 := by
  unfold byteV
  split
  · rename_i hl
    have h0 := h.p0
    have hl' : c.pos.toNat < c.code.length := by omega
    rw [List.getD_eq_getElem?_getD, List.getElem?_eq_getElem hl']
    exact h.by8 _ (List.getElem_mem hl')
  · omega
theorem foldV_in (s : Int) : 0 ≤ foldV s ∧ foldV s ≤ 255 := by
  unfold foldV
  have hn : (BitVec.ofInt IntKind.u64.bits (Int.fdiv s (2 ^ min (40 : Int).toNat IntKind.u64.bits)) &&& BitVec.ofInt IntKind.u64.bits 255).toNat ≤ 255 := by
    rw [BitVec.toNat_and]
    have : (BitVec.ofInt IntKind.u64.bits 255).toNat = 255 := by decide
    rw [this]
    exact Nat.and_le_right
  generalize (BitVec.ofInt IntKind.u64.bits (Int.fdiv s (2 ^ min (40 : Int).toNat IntKind.u64.bits)) &&& BitVec.ofInt IntKind.u64.bits 255).toNat = m at hn
  have e : IntKind.u64.wrap (m : Int) = m := by simp [IntKind.wrap, IntKind.signed, IntKind.bits]; omega
  rw [e, wrap_in (by omega) (by omega)]
  omega
theorem nextV_in {c : CurD} {n : Nat} (h : CurOk c n) : 0 ≤ nextV c ∧ nextV c ≤ 255 := by
  unfold nextV
  split
  · exact byteV_in h
  · exact foldV_in _
theorem CurOk.mono {c : CurD} {n m : Nat} (h : CurOk c n) (hm : m ≤ n) : CurOk c m := ⟨h.p0, by have := h.p1; omega, h.len, h.by8⟩
theorem spec_pl1Cur_next.fc (c : CurD) {n : Nat} (h : CurOk c (n + 1)) : FCt prog F_spec_pl1Cur_next [.io] [.ptr c.d] (Ii (nextV c)) [.ptr (nextC c).d] := by
  refine fct_run spec_pl1Cur_next.ok rfl ?_
  have hb := byteV_in h
  obtain ⟨h1, h2, h3, h4⟩ := h
  obtain ⟨code, pos, seed⟩ := c
  dsimp only at h1 h2 h3
  have w1 : IntKind.i64.wrap (pos + 1) = pos + 1 := wrap_in (by omega) (by omega)
  unfold nextV nextC foldV
  by_cases hp : pos < code.length
  · have hl : pos.toNat < code.length := by omega
    have g : code[pos.toNat]? = some (code.getD pos.toNat 0) := getD_sm hl
    have e : byteV ⟨code, pos, seed⟩ = code.getD pos.toNat 0 := by unfold byteV; rw [if_pos hp]
    have hq : pos + 1 ≤ code.length := by omega
    rw [e] at hb ⊢
    have w2 : IntKind.i64.wrap (code.getD pos.toNat 0) = code.getD pos.toNat 0 := wrap_in (by omega) (by omega)
    rw [if_pos hq]
    unfold seedV
    simp only [go_sem, ↓reduceIte, Nat.reduceEqDiff, Nat.reduceAdd, Nat.reduceMul, Nat.reduceBEq, Option.getD_none, Int.reduceToNat, Nat.reduceSub, Nat.reduceLT, Nat.reduceLeDiff, Int.reduceLE, Int.reduceLT, reduceCtorEq, hp, h1, g, w1, w2, hq]; try rfl
  · have e : byteV ⟨code, pos, seed⟩ = 0 := by unfold byteV; rw [if_neg hp]
    have hq : ¬ pos + 1 ≤ code.length := by omega
    rw [e, if_neg hq]
    unfold seedV
    simp only [go_sem, ↓reduceIte, Nat.reduceEqDiff, Nat.reduceAdd, Nat.reduceMul, Nat.reduceBEq, Option.getD_none, Int.reduceToNat, Nat.reduceSub, Nat.reduceLT, Nat.reduceLeDiff, Int.reduceLE, Int.reduceLT, reduceCtorEq, hp, w1, hq]; try rfl
def pickV (c : CurD) (n : Int) : Int := if n ≤ 1 then 0 else if n > 200 then (nextV c * 256 + nextV (nextC c)) % n else nextV c % n
def pickC (c : CurD) (n : Int) : CurD := if n ≤ 1 then c else if n > 200 then nextC (nextC c) else nextC c
theorem pickV_in {c : CurD} {n : Int} (h : 1 ≤ n) : 0 ≤ pickV c n ∧ pickV c n < n := by
  unfold pickV
  split
  · omega
  · split
    · exact ⟨Int.emod_nonneg _ (by omega), Int.emod_lt_of_pos _ (by omega)⟩
    · exact ⟨Int.emod_nonneg _ (by omega), Int.emod_lt_of_pos _ (by omega)⟩
theorem pickC_ok {c : CurD} {n : Int} {m : Nat} (h : CurOk c (m + 2)) : CurOk (pickC c n) m := by
  unfold pickC
  split
  · exact h.mono (by omega)
  · split
    · exact nextC_ok (nextC_ok h)
    · exact (nextC_ok h).mono (by omega)
theorem spec_pl1Cur_pick.fc (c : CurD) (n : Int) {m : Nat} (h : CurOk c (m + 2)) : FCt prog F_spec_pl1Cur_pick [.io, .ro] [.ptr c.d, Ii n] (Ii (pickV c n)) [.ptr (pickC c n).d] := by
  refine fct_run spec_pl1Cur_pick.ok rfl ?_
  have c1 := spec_pl1Cur_next.fc c h
  have h2 := nextC_ok h
  have c2 := spec_pl1Cur_next.fc (nextC c) h2
  have b1 := nextV_in h
  have b2 := nextV_in h2
  unfold pickV pickC
  generalize nextV c = x at c1 b1 ⊢
  generalize nextV (nextC c) = y at c2 b2 ⊢
  generalize nextC (nextC c) = z at c2 ⊢
  generalize nextC c = u at c1 c2 ⊢
  by_cases h1 : n ≤ 1
  · simp only [go_sem, ↓reduceIte, Nat.reduceEqDiff, Nat.reduceAdd, Nat.reduceMul, Nat.reduceBEq, Option.getD_none, Int.reduceToNat, Nat.reduceSub, Nat.reduceLT, Nat.reduceLeDiff, Int.reduceLE, Int.reduceLT, reduceCtorEq, h1]
  · by_cases h3 : n > 200
    · have w1 : IntKind.i64.wrap (x * 256) = x * 256 := wrap_in (by omega) (by omega)
      have w2 : IntKind.i64.wrap (x * 256 + y) = x * 256 + y := wrap_in (by omega) (by omega)
      have w3 : Int.tmod (x * 256 + y) n = (x * 256 + y) % n := Int.tmod_eq_emod_of_nonneg (by omega)
      have n0 : ¬ n = 0 := by omega
      simp only [go_sem, ↓reduceIte, Nat.reduceEqDiff, Nat.reduceAdd, Nat.reduceMul, Nat.reduceBEq, Option.getD_none, Int.reduceToNat, Nat.reduceSub, Nat.reduceLT, Nat.reduceLeDiff, Int.reduceLE, Int.reduceLT, reduceCtorEq, h1, h3]
      refine coW_c c1 ?_
      simp only [go_sem, ↓reduceIte, Nat.reduceEqDiff, Nat.reduceAdd, Nat.reduceMul, Nat.reduceBEq, Option.getD_none, Int.reduceToNat, Nat.reduceSub, Nat.reduceLT, Nat.reduceLeDiff, Int.reduceLE, Int.reduceLT, reduceCtorEq, h1, h3, w1]
      refine coW_c c2 ?_
      simp only [go_sem, ↓reduceIte, Nat.reduceEqDiff, Nat.reduceAdd, Nat.reduceMul, Nat.reduceBEq, Option.getD_none, Int.reduceToNat, Nat.reduceSub, Nat.reduceLT, Nat.reduceLeDiff, Int.reduceLE, Int.reduceLT, reduceCtorEq, w1, w2, w3, n0, h1, h3]
    · have w3 : Int.tmod x n = x % n := Int.tmod_eq_emod_of_nonneg (by omega)
      have n0 : ¬ n = 0 := by omega
      simp only [go_sem, ↓reduceIte, Nat.reduceEqDiff, Nat.reduceAdd, Nat.reduceMul, Nat.reduceBEq, Option.getD_none, Int.reduceToNat, Nat.reduceSub, Nat.reduceLT, Nat.reduceLeDiff, Int.reduceLE, Int.reduceLT, reduceCtorEq, h1, h3]
      refine coW_c c1 ?_
      simp only [go_sem, ↓reduceIte, Nat.reduceEqDiff, Nat.reduceAdd, Nat.reduceMul, Nat.reduceBEq, Option.getD_none, Int.reduceToNat, Nat.reduceSub, Nat.reduceLT, Nat.reduceLeDiff, Int.reduceLE, Int.reduceLT, reduceCtorEq, h1, h3, w3, n0]
theorem spec_pl1Cur_one.fc (c : CurD) (n : Int) {m : Nat} (h : CurOk c (m + 2)) : FCt prog F_spec_pl1Cur_one [.io, .ro] [.ptr c.d, Ii n] (Bb (pickV c n == 0)) [.ptr (pickC c n).d] := by
  refine fct_run spec_pl1Cur_one.ok rfl ?_
  have c1 := spec_pl1Cur_pick.fc c n h
  generalize pickV c n = x at c1 ⊢
  generalize pickC c n = u at c1 ⊢
  simp only [go_sem, ↓reduceIte, Nat.reduceEqDiff, Nat.reduceAdd, Nat.reduceMul, Nat.reduceBEq, Option.getD_none, Int.reduceToNat, Nat.reduceSub, Nat.reduceLT, Nat.reduceLeDiff, Int.reduceLE, Int.reduceLT, reduceCtorEq]
  refine coW_c c1 ?_
  simp only [go_sem, ↓reduceIte, Nat.reduceEqDiff, Nat.reduceAdd, Nat.reduceMul, Nat.reduceBEq, Option.getD_none, Int.reduceToNat, Nat.reduceSub, Nat.reduceLT, Nat.reduceLeDiff, Int.reduceLE, Int.reduceLT, reduceCtorEq]
def amongV (c : CurD) (l : List Int) : Int := l.getD (pickV c l.length).toNat 0
theorem spec_pl1Cur_among.fc (c : CurD) (l : List Int) (hl : 1 ≤ l.length) (hl2 : l.length ≤ 1000) {m : Nat} (h : CurOk c (m + 2)) : FCt prog F_spec_pl1Cur_among [.io, .co] [.ptr c.d, ints l] (Ii (amongV c l)) [.ptr (pickC c l.length).d] := by
  refine fct_run spec_pl1Cur_among.ok rfl ?_
  have c1 := spec_pl1Cur_pick.fc c l.length h
  have hp := pickV_in (c := c) (n := l.length) (by omega)
  unfold amongV
  generalize pickV c l.length = x at c1 hp ⊢
  generalize pickC c l.length = u at c1 ⊢
  have g : l[x.toNat]? = some (l.getD x.toNat 0) := getD_sm (by omega)
  simp only [go_sem, ↓reduceIte, Nat.reduceEqDiff, Nat.reduceAdd, Nat.reduceMul, Nat.reduceBEq, Option.getD_none, Int.reduceToNat, Nat.reduceSub, Nat.reduceLT, Nat.reduceLeDiff, Int.reduceLE, Int.reduceLT, reduceCtorEq]
  refine coW_c c1 ?_
  simp only [go_sem, ↓reduceIte, Nat.reduceEqDiff, Nat.reduceAdd, Nat.reduceMul, Nat.reduceBEq, Option.getD_none, Int.reduceToNat, Nat.reduceSub, Nat.reduceLT, Nat.reduceLeDiff, Int.reduceLE, Int.reduceLT, reduceCtorEq, hp.1, hp.2, g]
theorem amongV_mem (c : CurD) (l : List Int) (hl : 1 ≤ l.length) : amongV c l ∈ l := by
  have hp := pickV_in (c := c) (n := l.length) (by omega)
  unfold amongV
  rw [List.getD_eq_getElem?_getD, List.getElem?_eq_getElem (by omega)]
  exact List.getElem_mem (by omega)
def curS (code : List Int) : CurD := ⟨code, 0, 0⟩
theorem curS_ok {code : List Int} (hl : code.length ≤ 9223372036854775807) (h8 : ∀ b ∈ code, 0 ≤ b ∧ b ≤ 255) {n : Nat} (hn : n ≤ 1000000) : CurOk (curS code) n :=
  ⟨Int.le_refl 0, by show (0 : Int) + n ≤ _; omega, hl, h8⟩
end Go.Vm.Ytdebllkmblakkaa
/- Walks: arcs out of bytes. -/
namespace Go.Vm.Ytdebllkmblakkaa
open Go Go.Vm
set_option maxRecDepth 10000
set_option maxHeartbeats 16000000
set_option linter.unusedSimpArgs false
set_option linter.unusedVariables false

abbrev curA (c : CurD) : AV := .agg [.dat none (.sl 1 (c.code.map Ub)), .dat none (Ii c.pos), .dat none (.int .u64 c.seed)]
def ArcsQ (m : Nat) (r : D) (outs : List D) : Prop := ∃ (n : Int) (l : List (Int × Int)) (c' : CurD), r = .tup [Ii n, arcs l] ∧ outs = [.ptr c'.d] ∧ (0 ≤ n ∧ n ≤ 7) ∧ l.length ≤ 30 ∧ CurOk c' m
theorem ArcsQ.mk {m : Nat} {n : Int} {l : List (Int × Int)} {c' : CurD} (h1 : 0 ≤ n ∧ n ≤ 7) (h2 : l.length ≤ 30) (h3 : CurOk c' m) : ArcsQ m (.tup [Ii n, arcs l]) [.ptr c'.d] := ⟨n, l, c', rfl, rfl, h1, h2, h3⟩
end Go.Vm.Ytdebllkmblakkaa
/- Walks: clauses of two out of bytes. -/
namespace Go.Vm.Ytdebllkmblakkaa
open Go Go.Vm
set_option maxRecDepth 10000
set_option maxHeartbeats 16000000
set_option linter.unusedSimpArgs false
set_option linter.unusedVariables false

def CleanQ (n : Nat) (r : D) (outs : List D) : Prop := ∃ (w : List Int) (b : Bool), r = .tup [ints w, Bb b] ∧ outs = [] ∧ w.length ≤ n
theorem CleanQ.mk {n : Nat} {w : List Int} {b : Bool} (h2 : w.length ≤ n) : CleanQ n (.tup [ints w, Bb b]) [] := ⟨w, b, rfl, rfl, h2⟩
theorem clean_ex (c : List Int) (hc : c.length ≤ 1000) : ∃ (w : List Int) (b : Bool), w.length ≤ c.length ∧ FCt prog F_spec_CleanClause [.ro] [ints c] (.tup [ints w, Bb b]) [] := by
  suffices H : ∃ r outs, CleanQ c.length r outs ∧ FCt prog F_spec_CleanClause [.ro] [ints c] r outs by
    obtain ⟨_, _, ⟨w, b, rfl, rfl, h1⟩, hf⟩ := H
    exact ⟨w, b, h1, hf⟩
  refine fct_ex _ spec_CleanClause.ok rfl rfl ?_
  simp only [go_sem, ↓reduceIte, Nat.reduceEqDiff, Nat.reduceAdd, Nat.reduceMul, Nat.reduceBEq, Option.getD_none, Int.reduceToNat, Nat.reduceSub, Nat.reduceLT, Nat.reduceLeDiff, Int.reduceLE, Int.reduceLT, reduceCtorEq]
  refine cdW_dec (fun h40 => ?_) (fun h40 => ?_)
  · simp only [go_sem, ↓reduceIte, Nat.reduceEqDiff, Nat.reduceAdd, Nat.reduceMul, Nat.reduceBEq, Option.getD_none, Int.reduceToNat, Nat.reduceSub, Nat.reduceLT, Nat.reduceLeDiff, Int.reduceLE, Int.reduceLT, reduceCtorEq]
    exact CleanQ.mk (w := []) (by simp)
  simp only [go_sem, ↓reduceIte, Nat.reduceEqDiff, Nat.reduceAdd, Nat.reduceMul, Nat.reduceBEq, Option.getD_none, Int.reduceToNat, Nat.reduceSub, Nat.reduceLT, Nat.reduceLeDiff, Int.reduceLE, Int.reduceLT, reduceCtorEq]
  refine R_loop (α := Nat × List Int) (fun a s' M' => a.1 ≤ c.length ∧ a.2.length ≤ a.1 ∧ s' 12 = aI a.1 ∧ ∃ v, s' 4 = .sl 2432 v 0 a.2.length 1 ∧ M'.m 2432 = some (.arr v true 1 (a.2.map Ii))) (fun a => c.length - a.1) (0, [])
    ⟨by omega, by simp, by simp only [go_sem, ↓reduceIte, Nat.reduceEqDiff, Nat.reduceAdd, Nat.reduceMul, Nat.reduceBEq, Option.getD_none, Int.reduceToNat, Nat.reduceSub, Nat.reduceLT, Nat.reduceLeDiff, Int.reduceLE, Int.reduceLT, reduceCtorEq]; try rfl, _, by simp only [go_sem, ↓reduceIte, Nat.reduceEqDiff, Nat.reduceAdd, Nat.reduceMul, Nat.reduceBEq, Option.getD_none, Int.reduceToNat, Nat.reduceSub, Nat.reduceLT, Nat.reduceLeDiff, Int.reduceLE, Int.reduceLT, reduceCtorEq]; try rfl, by simp only [go_sem, ↓reduceIte, Nat.reduceEqDiff, Nat.reduceAdd, Nat.reduceMul, Nat.reduceBEq, Option.getD_none, Int.reduceToNat, Nat.reduceSub, Nat.reduceLT, Nat.reduceLeDiff, Int.reduceLE, Int.reduceLT, reduceCtorEq]; try rfl⟩ ?_
  rintro ⟨k, w⟩ s2 M2 ⟨hk, hwl, g12, v, g4, gm⟩ ho
  dsimp only at hk hwl g12 g4 gm
  unfold spec_CleanClause.b0
  have j10 : s2 10 = .dat none (ints c) := by rw [ho 10 rfl]; simp only [go_sem, ↓reduceIte, Nat.reduceEqDiff, Nat.reduceAdd, Nat.reduceMul, Nat.reduceBEq, Option.getD_none, Int.reduceToNat, Nat.reduceSub, Nat.reduceLT, Nat.reduceLeDiff, Int.reduceLE, Int.reduceLT, reduceCtorEq]
  have j11 : s2 11 = aI c.length := by rw [ho 11 rfl]; simp only [go_sem, ↓reduceIte, Nat.reduceEqDiff, Nat.reduceAdd, Nat.reduceMul, Nat.reduceBEq, Option.getD_none, Int.reduceToNat, Nat.reduceSub, Nat.reduceLT, Nat.reduceLeDiff, Int.reduceLE, Int.reduceLT, reduceCtorEq]
  clear ho
  by_cases hlt : k < c.length
  · have hi' : (k : Int) < c.length := by omega
    have ga : c[k]? = some c[k] := List.getElem?_eq_getElem hlt
    have hw : IntKind.i64.wrap (k + 1) = ((k + 1 : Nat) : Int) := wrap_k hlt (by omega)
    generalize c[k] = x at ga
    have hno : CleanQ c.length (.tup [ints [], Bb false]) [] := CleanQ.mk (by simp)
    have neg : IntKind.i64.wrap (0 - x) = IntKind.i64.wrap (0 - x) := rfl
    have i1 := spec_l1In.fc x (-12) 12
    have h1 := spec_l1Has.fc w (IntKind.i64.wrap (0 - x)) (by omega)
    have h2 := spec_l1Has.fc w x (by omega)
    have hbb : (w.length + 1) * 8 ≤ 70368744177664 := by omega
    have sn : w.map Ii ++ [Ii x] = (w ++ [x]).map Ii := by simp
    cases hx0 : (x == 0) with
    | true =>
      simp only [go_sem, ↓reduceIte, Nat.reduceEqDiff, Nat.reduceAdd, Nat.reduceMul, Nat.reduceBEq, Option.getD_none, Int.reduceToNat, Nat.reduceSub, Nat.reduceLT, Nat.reduceLeDiff, Int.reduceLE, Int.reduceLT, reduceCtorEq, hi', ga, hx0, j10, j11, g12, g4, gm]
      exact hno
    | false =>
      simp only [go_sem, ↓reduceIte, Nat.reduceEqDiff, Nat.reduceAdd, Nat.reduceMul, Nat.reduceBEq, Option.getD_none, Int.reduceToNat, Nat.reduceSub, Nat.reduceLT, Nat.reduceLeDiff, Int.reduceLE, Int.reduceLT, reduceCtorEq, hi', ga, hx0, j10, j11, g12, g4, gm]
      refine fcW_bool i1 ?_
      cases inB x (-12) 12 with
      | false =>
        simp only [go_sem, ↓reduceIte, Nat.reduceEqDiff, Nat.reduceAdd, Nat.reduceMul, Nat.reduceBEq, Option.getD_none, Int.reduceToNat, Nat.reduceSub, Nat.reduceLT, Nat.reduceLeDiff, Int.reduceLE, Int.reduceLT, reduceCtorEq, j10, j11, g12, g4, gm]
        exact hno
      | true =>
        simp only [go_sem, ↓reduceIte, Nat.reduceEqDiff, Nat.reduceAdd, Nat.reduceMul, Nat.reduceBEq, Option.getD_none, Int.reduceToNat, Nat.reduceSub, Nat.reduceLT, Nat.reduceLeDiff, Int.reduceLE, Int.reduceLT, reduceCtorEq, take_map_len, j10, j11, g12, g4, gm]
        refine fcW_bool h1 ?_
        cases w.any (· == IntKind.i64.wrap (0 - x)) with
        | true =>
          simp only [go_sem, ↓reduceIte, Nat.reduceEqDiff, Nat.reduceAdd, Nat.reduceMul, Nat.reduceBEq, Option.getD_none, Int.reduceToNat, Nat.reduceSub, Nat.reduceLT, Nat.reduceLeDiff, Int.reduceLE, Int.reduceLT, reduceCtorEq, j10, j11, g12, g4, gm]
          exact hno
        | false =>
          simp only [go_sem, ↓reduceIte, Nat.reduceEqDiff, Nat.reduceAdd, Nat.reduceMul, Nat.reduceBEq, Option.getD_none, Int.reduceToNat, Nat.reduceSub, Nat.reduceLT, Nat.reduceLeDiff, Int.reduceLE, Int.reduceLT, reduceCtorEq, take_map_len, j10, j11, g12, g4, gm]
          refine fcW_bool h2 ?_
          cases w.any (· == x) with
          | true =>
            simp only [go_sem, ↓reduceIte, Nat.reduceEqDiff, Nat.reduceAdd, Nat.reduceMul, Nat.reduceBEq, Option.getD_none, Int.reduceToNat, Nat.reduceSub, Nat.reduceLT, Nat.reduceLeDiff, Int.reduceLE, Int.reduceLT, reduceCtorEq, hw, j10, j11, g12, g4, gm]
            exact ⟨(k + 1, w), by dsimp only; omega, by dsimp only; omega, by dsimp only; omega, by simp only [go_sem, ↓reduceIte, Nat.reduceEqDiff, Nat.reduceAdd, Nat.reduceMul, Nat.reduceBEq, Option.getD_none, Int.reduceToNat, Nat.reduceSub, Nat.reduceLT, Nat.reduceLeDiff, Int.reduceLE, Int.reduceLT, reduceCtorEq, j10, j11, g12, g4, gm], v, by simp only [go_sem, ↓reduceIte, Nat.reduceEqDiff, Nat.reduceAdd, Nat.reduceMul, Nat.reduceBEq, Option.getD_none, Int.reduceToNat, Nat.reduceSub, Nat.reduceLT, Nat.reduceLeDiff, Int.reduceLE, Int.reduceLT, reduceCtorEq, j10, j11, g12, g4, gm], by simp only [go_sem, ↓reduceIte, Nat.reduceEqDiff, Nat.reduceAdd, Nat.reduceMul, Nat.reduceBEq, Option.getD_none, Int.reduceToNat, Nat.reduceSub, Nat.reduceLT, Nat.reduceLeDiff, Int.reduceLE, Int.reduceLT, reduceCtorEq, j10, j11, g12, g4, gm]⟩
          | false =>
            simp only [go_sem, ↓reduceIte, Nat.reduceEqDiff, Nat.reduceAdd, Nat.reduceMul, Nat.reduceBEq, Option.getD_none, Int.reduceToNat, Nat.reduceSub, Nat.reduceLT, Nat.reduceLeDiff, Int.reduceLE, Int.reduceLT, reduceCtorEq, hw, hbb, take_map_len, j10, j11, g12, g4, gm]
            exact ⟨(k + 1, w ++ [x]), by dsimp only; omega, by dsimp only; omega, by simp; omega, by simp only [go_sem, ↓reduceIte, Nat.reduceEqDiff, Nat.reduceAdd, Nat.reduceMul, Nat.reduceBEq, Option.getD_none, Int.reduceToNat, Nat.reduceSub, Nat.reduceLT, Nat.reduceLeDiff, Int.reduceLE, Int.reduceLT, reduceCtorEq, j10, j11, g12, g4, gm], _, by simp only [go_sem, ↓reduceIte, Nat.reduceEqDiff, Nat.reduceAdd, Nat.reduceMul, Nat.reduceBEq, Option.getD_none, Int.reduceToNat, Nat.reduceSub, Nat.reduceLT, Nat.reduceLeDiff, Int.reduceLE, Int.reduceLT, reduceCtorEq, List.length_append, j10, j11, g12, g4, gm]; rfl, by simp only [go_sem, ↓reduceIte, Nat.reduceEqDiff, Nat.reduceAdd, Nat.reduceMul, Nat.reduceBEq, Option.getD_none, Int.reduceToNat, Nat.reduceSub, Nat.reduceLT, Nat.reduceLeDiff, Int.reduceLE, Int.reduceLT, reduceCtorEq, j10, j11, g12, g4, gm]; rw [← sn]⟩
  · have hi' : ¬ (k : Int) < c.length := by omega
    obtain rfl : k = c.length := by omega
    simp only [go_sem, ↓reduceIte, Nat.reduceEqDiff, Nat.reduceAdd, Nat.reduceMul, Nat.reduceBEq, Option.getD_none, Int.reduceToNat, Nat.reduceSub, Nat.reduceLT, Nat.reduceLeDiff, Int.reduceLE, Int.reduceLT, reduceCtorEq, Int.lt_irrefl, take_map_len, j10, j11, g12, g4, gm]
    exact CleanQ.mk (by omega)
def LitQ (m : Nat) (r : D) (outs : List D) : Prop := ∃ (x : Int) (c' : CurD), r = Ii x ∧ outs = [.ptr c'.d] ∧ CurOk c' m
theorem lit_ex (c : CurD) (k : Int) (hk : 0 ≤ k ∧ k ≤ 100) {m : Nat} (h : CurOk c (m + 4)) : ∃ (x : Int) (c' : CurD), CurOk c' m ∧ FCt prog F_spec_pl1Cur_lit [.io, .ro] [.ptr c.d, Ii k] (Ii x) [.ptr c'.d] := by
  suffices H : ∃ r outs, LitQ m r outs ∧ FCt prog F_spec_pl1Cur_lit [.io, .ro] [.ptr c.d, Ii k] r outs by
    obtain ⟨_, _, ⟨x, c', rfl, rfl, h1⟩, hf⟩ := H
    exact ⟨x, c', h1, hf⟩
  refine fct_ex _ spec_pl1Cur_lit.ok rfl rfl ?_
  have f1 := spec_pl1Cur_pick.fc c k (m := m + 2) h
  have o1 : CurOk (pickC c k) (m + 2) := pickC_ok h
  generalize pickV c k = n0 at f1
  generalize pickC c k = c1 at f1 o1
  have f2 := spec_pl1Cur_one.fc c1 2 (m := m) o1
  have o2 : CurOk (pickC c1 2) m := pickC_ok o1
  generalize pickC c1 2 = c2 at f2 o2
  simp only [go_sem, ↓reduceIte, Nat.reduceEqDiff, Nat.reduceAdd, Nat.reduceMul, Nat.reduceBEq, Option.getD_none, Int.reduceToNat, Nat.reduceSub, Nat.reduceLT, Nat.reduceLeDiff, Int.reduceLE, Int.reduceLT, reduceCtorEq]
  refine coW_c f1 ?_
  simp only [go_sem, ↓reduceIte, Nat.reduceEqDiff, Nat.reduceAdd, Nat.reduceMul, Nat.reduceBEq, Option.getD_none, Int.reduceToNat, Nat.reduceSub, Nat.reduceLT, Nat.reduceLeDiff, Int.reduceLE, Int.reduceLT, reduceCtorEq]
  refine coW_c f2 ?_
  cases (pickV c1 2 == 0) with
  | true =>
    simp only [go_sem, ↓reduceIte, Nat.reduceEqDiff, Nat.reduceAdd, Nat.reduceMul, Nat.reduceBEq, Option.getD_none, Int.reduceToNat, Nat.reduceSub, Nat.reduceLT, Nat.reduceLeDiff, Int.reduceLE, Int.reduceLT, reduceCtorEq]
    exact ⟨_, c2, rfl, rfl, o2⟩
  | false =>
    simp only [go_sem, ↓reduceIte, Nat.reduceEqDiff, Nat.reduceAdd, Nat.reduceMul, Nat.reduceBEq, Option.getD_none, Int.reduceToNat, Nat.reduceSub, Nat.reduceLT, Nat.reduceLeDiff, Int.reduceLE, Int.reduceLT, reduceCtorEq]
    exact ⟨_, c2, rfl, rfl, o2⟩
def Among3Q (m : Nat) (r : D) (outs : List D) : Prop := ∃ (w : List Int) (c' : CurD), r = ints w ∧ outs = [.ptr c'.d] ∧ w.length ≤ 3 ∧ CurOk c' m
theorem among3_ex (c : CurD) {m : Nat} (h : CurOk c (m + 2)) : ∃ (w : List Int) (c' : CurD), w.length ≤ 3 ∧ CurOk c' m ∧ FCt prog F_spec_pl1Cur_among3 [.io] [.ptr c.d] (ints w) [.ptr c'.d] := by
  suffices H : ∃ r outs, Among3Q m r outs ∧ FCt prog F_spec_pl1Cur_among3 [.io] [.ptr c.d] r outs by
    obtain ⟨_, _, ⟨x, c', rfl, rfl, h1, h2⟩, hf⟩ := H
    exact ⟨x, c', h1, h2, hf⟩
  refine fct_ex _ spec_pl1Cur_among3.ok rfl rfl ?_
  have f2 := spec_pl1Cur_one.fc c 2 (m := m) h
  have o2 : CurOk (pickC c 2) m := pickC_ok h
  generalize pickC c 2 = c2 at f2 o2
  simp only [go_sem, ↓reduceIte, Nat.reduceEqDiff, Nat.reduceAdd, Nat.reduceMul, Nat.reduceBEq, Option.getD_none, Int.reduceToNat, Nat.reduceSub, Nat.reduceLT, Nat.reduceLeDiff, Int.reduceLE, Int.reduceLT, reduceCtorEq]
  refine coW_c f2 ?_
  cases (pickV c 2 == 0) with
  | true =>
    simp only [go_sem, ↓reduceIte, Nat.reduceEqDiff, Nat.reduceAdd, Nat.reduceMul, Nat.reduceBEq, Option.getD_none, Int.reduceToNat, Nat.reduceSub, Nat.reduceLT, Nat.reduceLeDiff, Int.reduceLE, Int.reduceLT, reduceCtorEq]
    exact ⟨[], c2, rfl, rfl, by simp, o2⟩
  | false =>
    simp only [go_sem, ↓reduceIte, Nat.reduceEqDiff, Nat.reduceAdd, Nat.reduceMul, Nat.reduceBEq, Option.getD_none, Int.reduceToNat, Nat.reduceSub, Nat.reduceLT, Nat.reduceLeDiff, Int.reduceLE, Int.reduceLT, reduceCtorEq]
    exact ⟨[1, 2, 3], c2, rfl, rfl, by simp, o2⟩
def TwosQ (m : Nat) (r : D) (outs : List D) : Prop := ∃ (n : Int) (l : List (List Int)) (c' : CurD), r = .tup [Ii n, intss l] ∧ outs = [.ptr c'.d] ∧ (0 ≤ n ∧ n ≤ 13) ∧ l.length ≤ 11 ∧ (∀ r ∈ l, r.length ≤ 3) ∧ CurOk c' m
theorem TwosQ.mk {m : Nat} {n : Int} {l : List (List Int)} {c' : CurD} (h1 : 0 ≤ n ∧ n ≤ 13) (h2 : l.length ≤ 11) (h3 : ∀ r ∈ l, r.length ≤ 3) (h4 : CurOk c' m) : TwosQ m (.tup [Ii n, intss l]) [.ptr c'.d] := ⟨n, l, c', rfl, rfl, h1, h2, h3, h4⟩
theorem twos_ex (c : CurD) {m : Nat} (h : CurOk c (m + 1000)) : ∃ (n : Int) (l : List (List Int)) (c' : CurD), (0 ≤ n ∧ n ≤ 13) ∧ l.length ≤ 11 ∧ (∀ r ∈ l, r.length ≤ 3) ∧ CurOk c' m ∧ FCt prog F_spec_pl1Cur_twos [.io] [.ptr c.d] (.tup [Ii n, intss l]) [.ptr c'.d] := by
  suffices H : ∃ r outs, TwosQ m r outs ∧ FCt prog F_spec_pl1Cur_twos [.io] [.ptr c.d] r outs by
    obtain ⟨_, _, ⟨n, l, c', rfl, rfl, h1, h2, h3, h4⟩, hf⟩ := H
    exact ⟨n, l, c', h1, h2, h3, h4, hf⟩
  refine fct_ex _ spec_pl1Cur_twos.ok rfl rfl ?_
  have f1 := spec_pl1Cur_pick.fc c 6 (m := m + 998) h
  have o1 : CurOk (pickC c 6) (m + 998) := pickC_ok h
  have p1 := pickV_in (c := c) (n := 6) (by omega)
  generalize pickV c 6 = n0 at f1 p1
  generalize pickC c 6 = c1 at f1 o1
  have f2 := spec_pl1Cur_one.fc c1 30 (m := m + 996) o1
  have o2 : CurOk (pickC c1 30) (m + 996) := pickC_ok o1
  generalize (pickV c1 30 == 0) = b1 at f2
  generalize pickC c1 30 = c2 at f2 o2
  have f3 := spec_pl1Cur_among.fc c2 [0, 10, 13] (by simp) (by simp) (m := m + 994) o2
  have o3 : CurOk (pickC c2 ([0, 10, 13] : List Int).length) (m + 994) := pickC_ok o2
  have m3 : amongV c2 [0, 10, 13] = 0 ∨ amongV c2 [0, 10, 13] = 10 ∨ amongV c2 [0, 10, 13] = 13 := by simpa using amongV_mem c2 [0, 10, 13] (by simp)
  generalize amongV c2 [0, 10, 13] = n1 at f3 m3
  generalize pickC c2 ([0, 10, 13] : List Int).length = c3 at f3 o3
  have w1 : IntKind.i64.wrap (1 + n0) = 1 + n0 := wrap_in (by omega) (by omega)
  simp only [go_sem, ↓reduceIte, Nat.reduceEqDiff, Nat.reduceAdd, Nat.reduceMul, Nat.reduceBEq, Option.getD_none, Int.reduceToNat, Nat.reduceSub, Nat.reduceLT, Nat.reduceLeDiff, Int.reduceLE, Int.reduceLT, reduceCtorEq]
  refine coW_c f1 ?_
  simp only [go_sem, ↓reduceIte, Nat.reduceEqDiff, Nat.reduceAdd, Nat.reduceMul, Nat.reduceBEq, Option.getD_none, Int.reduceToNat, Nat.reduceSub, Nat.reduceLT, Nat.reduceLeDiff, Int.reduceLE, Int.reduceLT, reduceCtorEq, w1]
  refine coW_c f2 ?_
  simp only [go_sem, ↓reduceIte, Nat.reduceEqDiff, Nat.reduceAdd, Nat.reduceMul, Nat.reduceBEq, Option.getD_none, Int.reduceToNat, Nat.reduceSub, Nat.reduceLT, Nat.reduceLeDiff, Int.reduceLE, Int.reduceLT, reduceCtorEq]
  refine cdW_cut (fun e s' M' => e = .n ∧ ∃ (n : Nat) (u : CurD), n ≤ 13 ∧ CurOk u (m + 994) ∧ s' 0 = .ptr 0 0 0 none ∧ s' 4 = aI n ∧ M'.m 0 = some (.box 0 (curA u))) ?_ ?_
  · cases b1
    · simp only [go_sem, ↓reduceIte, Nat.reduceEqDiff, Nat.reduceAdd, Nat.reduceMul, Nat.reduceBEq, Option.getD_none, Int.reduceToNat, Nat.reduceSub, Nat.reduceLT, Nat.reduceLeDiff, Int.reduceLE, Int.reduceLT, reduceCtorEq]
      exact ⟨(1 + n0).toNat, c2, by omega, o2.mono (by omega), by congr 2; omega, rfl⟩
    · simp only [go_sem, ↓reduceIte, Nat.reduceEqDiff, Nat.reduceAdd, Nat.reduceMul, Nat.reduceBEq, Option.getD_none, Int.reduceToNat, Nat.reduceSub, Nat.reduceLT, Nat.reduceLeDiff, Int.reduceLE, Int.reduceLT, reduceCtorEq]
      refine coW_c f3 ?_
      simp only [go_sem, ↓reduceIte, Nat.reduceEqDiff, Nat.reduceAdd, Nat.reduceMul, Nat.reduceBEq, Option.getD_none, Int.reduceToNat, Nat.reduceSub, Nat.reduceLT, Nat.reduceLeDiff, Int.reduceLE, Int.reduceLT, reduceCtorEq]
      exact ⟨n1.toNat, c3, by omega, o3, by congr 2; omega, rfl⟩
  clear f1 f2 f3 o1 o2 o3 p1 m3 w1
  rintro e s' M' ⟨rfl, n, u, hn, hu, g0, g4, gm⟩ ho
  have g7 : s' 7 = .bad := by rw [ho 7 rfl]; simp only [go_sem, ↓reduceIte, Nat.reduceEqDiff, Nat.reduceAdd, Nat.reduceMul, Nat.reduceBEq, Option.getD_none, Int.reduceToNat, Nat.reduceSub, Nat.reduceLT, Nat.reduceLeDiff, Int.reduceLE, Int.reduceLT, reduceCtorEq]; rfl
  clear ho
  have f1 := spec_pl1Cur_pick.fc u 12 (m := m + 992) hu
  have o1 : CurOk (pickC u 12) (m + 992) := pickC_ok hu
  have p1 := pickV_in (c := u) (n := 12) (by omega)
  generalize pickV u 12 = n0 at f1 p1
  generalize pickC u 12 = c1 at f1 o1
  simp only [go_sem, ↓reduceIte, Nat.reduceEqDiff, Nat.reduceAdd, Nat.reduceMul, Nat.reduceBEq, Option.getD_none, Int.reduceToNat, Nat.reduceSub, Nat.reduceLT, Nat.reduceLeDiff, Int.reduceLE, Int.reduceLT, reduceCtorEq, gm, g0, g4, g7]
  refine coW_c f1 ?_
  simp only [go_sem, ↓reduceIte, Nat.reduceEqDiff, Nat.reduceAdd, Nat.reduceMul, Nat.reduceBEq, Option.getD_none, Int.reduceToNat, Nat.reduceSub, Nat.reduceLT, Nat.reduceLeDiff, Int.reduceLE, Int.reduceLT, reduceCtorEq, g0, g4, g7]
  refine cdW_cut (fun e s' M' => e = .n ∧ ∃ (k : Nat), k ≤ 11 ∧ s' 6 = aI k ∧ M'.m 0 = some (.box 0 (curA c1))) ?_ ?_
  · cases (((n : Nat) : Int) == 0)
    · simp only [go_sem, ↓reduceIte, Nat.reduceEqDiff, Nat.reduceAdd, Nat.reduceMul, Nat.reduceBEq, Option.getD_none, Int.reduceToNat, Nat.reduceSub, Nat.reduceLT, Nat.reduceLeDiff, Int.reduceLE, Int.reduceLT, reduceCtorEq, g0, g4, g7]
      exact ⟨n0.toNat, by omega, by congr 2; omega⟩
    · simp only [go_sem, ↓reduceIte, Nat.reduceEqDiff, Nat.reduceAdd, Nat.reduceMul, Nat.reduceBEq, Option.getD_none, Int.reduceToNat, Nat.reduceSub, Nat.reduceLT, Nat.reduceLeDiff, Int.reduceLE, Int.reduceLT, reduceCtorEq, g0, g4, g7]
      exact ⟨0, by omega, rfl⟩
  clear f1 p1
  rintro e s2 M2 ⟨rfl, N, hN, g6, gm⟩ ho
  have j0 : s2 0 = .ptr 0 0 0 none := by rw [ho 0 rfl]; simp only [go_sem, ↓reduceIte, Nat.reduceEqDiff, Nat.reduceAdd, Nat.reduceMul, Nat.reduceBEq, Option.getD_none, Int.reduceToNat, Nat.reduceSub, Nat.reduceLT, Nat.reduceLeDiff, Int.reduceLE, Int.reduceLT, reduceCtorEq, g0, g4, g7]
  have j4 : s2 4 = aI n := by rw [ho 4 rfl]; simp only [go_sem, ↓reduceIte, Nat.reduceEqDiff, Nat.reduceAdd, Nat.reduceMul, Nat.reduceBEq, Option.getD_none, Int.reduceToNat, Nat.reduceSub, Nat.reduceLT, Nat.reduceLeDiff, Int.reduceLE, Int.reduceLT, reduceCtorEq, g0, g4, g7]
  have j5 : s2 5 = .nil 1 := by rw [ho 5 rfl]; simp only [go_sem, ↓reduceIte, Nat.reduceEqDiff, Nat.reduceAdd, Nat.reduceMul, Nat.reduceBEq, Option.getD_none, Int.reduceToNat, Nat.reduceSub, Nat.reduceLT, Nat.reduceLeDiff, Int.reduceLE, Int.reduceLT, reduceCtorEq, g0, g4, g7]
  have j7 : s2 7 = .bad := by rw [ho 7 rfl]; simp only [go_sem, ↓reduceIte, Nat.reduceEqDiff, Nat.reduceAdd, Nat.reduceMul, Nat.reduceBEq, Option.getD_none, Int.reduceToNat, Nat.reduceSub, Nat.reduceLT, Nat.reduceLeDiff, Int.reduceLE, Int.reduceLT, reduceCtorEq, g0, g4, g7]
  clear ho
  simp only [go_sem, ↓reduceIte, Nat.reduceEqDiff, Nat.reduceAdd, Nat.reduceMul, Nat.reduceBEq, Option.getD_none, Int.reduceToNat, Nat.reduceSub, Nat.reduceLT, Nat.reduceLeDiff, Int.reduceLE, Int.reduceLT, reduceCtorEq, gm, g6, nmW, g0, g4, g7, j0, j4, j5, j7]
  refine R_loop (α := Nat × List (List Int) × CurD) (fun a s' M' => a.1 ≤ N ∧ a.2.1.length + a.1 ≤ N ∧ (∀ r ∈ a.2.1, r.length ≤ 3) ∧ CurOk a.2.2 (m + 100 + 60 * a.1) ∧ s' 6 = aI a.1 ∧ M'.m 0 = some (.box 0 (curA a.2.2)) ∧ ∃ v, s' 5 = .sl 3072 v 0 a.2.1.length 1 ∧ M'.m 3072 = some (.arr v true 1 (a.2.1.map ints))) (fun a => a.1) (N, [], c1)
    ⟨Nat.le_refl _, by simp, by simp, o1.mono (by omega), by simp only [go_sem, ↓reduceIte, Nat.reduceEqDiff, Nat.reduceAdd, Nat.reduceMul, Nat.reduceBEq, Option.getD_none, Int.reduceToNat, Nat.reduceSub, Nat.reduceLT, Nat.reduceLeDiff, Int.reduceLE, Int.reduceLT, reduceCtorEq, g6, g0, g4, g7, j0, j4, j5, j7]; try rfl, by simp only [go_sem, ↓reduceIte, Nat.reduceEqDiff, Nat.reduceAdd, Nat.reduceMul, Nat.reduceBEq, Option.getD_none, Int.reduceToNat, Nat.reduceSub, Nat.reduceLT, Nat.reduceLeDiff, Int.reduceLE, Int.reduceLT, reduceCtorEq, gm, g0, g4, g7, j0, j4, j5, j7]; try rfl, _, by simp only [go_sem, ↓reduceIte, Nat.reduceEqDiff, Nat.reduceAdd, Nat.reduceMul, Nat.reduceBEq, Option.getD_none, Int.reduceToNat, Nat.reduceSub, Nat.reduceLT, Nat.reduceLeDiff, Int.reduceLE, Int.reduceLT, reduceCtorEq, g0, g4, g7, j0, j4, j5, j7]; try rfl, by simp only [go_sem, ↓reduceIte, Nat.reduceEqDiff, Nat.reduceAdd, Nat.reduceMul, Nat.reduceBEq, Option.getD_none, Int.reduceToNat, Nat.reduceSub, Nat.reduceLT, Nat.reduceLeDiff, Int.reduceLE, Int.reduceLT, reduceCtorEq, g0, g4, g7, j0, j4, j5, j7]; try rfl⟩ ?_
  clear o1 g6 gm
  rintro ⟨j, l, u⟩ s3 M3 ⟨hj, hjl, hl, hu, g6, gm, v, g5, gr⟩ ho
  dsimp only at hj hjl hl hu g6 gm g5 gr
  unfold spec_pl1Cur_twos.b0
  have j0 : s3 0 = .ptr 0 0 0 none := by rw [ho 0 rfl]; simp only [go_sem, ↓reduceIte, Nat.reduceEqDiff, Nat.reduceAdd, Nat.reduceMul, Nat.reduceBEq, Option.getD_none, Int.reduceToNat, Nat.reduceSub, Nat.reduceLT, Nat.reduceLeDiff, Int.reduceLE, Int.reduceLT, reduceCtorEq, g0, g4, g7, j0, j4, j5, j7]
  have j4 : s3 4 = aI n := by rw [ho 4 rfl]; simp only [go_sem, ↓reduceIte, Nat.reduceEqDiff, Nat.reduceAdd, Nat.reduceMul, Nat.reduceBEq, Option.getD_none, Int.reduceToNat, Nat.reduceSub, Nat.reduceLT, Nat.reduceLeDiff, Int.reduceLE, Int.reduceLT, reduceCtorEq, g0, g4, g7, j0, j4, j5, j7]
  clear ho
  cases j with
  | zero =>
    have hz : ¬ ((0 : Nat) : Int) > 0 := by omega
    by_cases h1 : (l.length : Int) > 0
    · have f1 := spec_pl1Cur_one.fc u 30 (m := m + 50) (hu.mono (by omega))
      have o1 : CurOk (pickC u 30) (m + 50) := pickC_ok (hu.mono (by omega))
      generalize pickC u 30 = u1 at f1 o1
      simp only [go_sem, ↓reduceIte, Nat.reduceEqDiff, Nat.reduceAdd, Nat.reduceMul, Nat.reduceBEq, Option.getD_none, Int.reduceToNat, Nat.reduceSub, Nat.reduceLT, Nat.reduceLeDiff, Int.reduceLE, Int.reduceLT, reduceCtorEq, hz, h1, g0, g4, g7, j0, j4, j5, j7, j0, j4, g6, gm, g5, gr]
      refine coW_c f1 ?_
      cases (pickV u 30 == 0) with
      | false =>
        simp only [go_sem, ↓reduceIte, Nat.reduceEqDiff, Nat.reduceAdd, Nat.reduceMul, Nat.reduceBEq, Option.getD_none, Int.reduceToNat, Nat.reduceSub, Nat.reduceLT, Nat.reduceLeDiff, Int.reduceLE, Int.reduceLT, reduceCtorEq, take_map_len, g0, g4, g7, j0, j4, j5, j7, j0, j4, g6, gm, g5, gr]
        exact TwosQ.mk (by omega) (by omega) hl (o1.mono (by omega))
      | true =>
        obtain ⟨w3, u2, wl, o2, f2⟩ := among3_ex u1 (m := m) (o1.mono (by omega))
        have k0 : (0 : Int) < l.length := by omega
        have e0 : l[0]? = some l[0] := List.getElem?_eq_getElem (by omega)
        have sn : (l.map ints).set 0 (ints w3) = (l.set 0 w3).map ints := by rw [List.map_set]
        have sl : (l.set 0 w3).length = l.length := by simp
        simp only [go_sem, ↓reduceIte, Nat.reduceEqDiff, Nat.reduceAdd, Nat.reduceMul, Nat.reduceBEq, Option.getD_none, Int.reduceToNat, Nat.reduceSub, Nat.reduceLT, Nat.reduceLeDiff, Int.reduceLE, Int.reduceLT, reduceCtorEq, k0, e0, g0, g4, g7, j0, j4, j5, j7, j0, j4, g6, gm, g5, gr]
        refine coW_c f2 ?_
        have hle : l.length ≤ (l.set 0 w3).length := by rw [sl]; exact Nat.le_refl _
        have tk : ((l.set 0 w3).map ints).take l.length = (l.set 0 w3).map ints := List.take_of_length_le (by simp)
        simp only [go_sem, ↓reduceIte, Nat.reduceEqDiff, Nat.reduceAdd, Nat.reduceMul, Nat.reduceBEq, Option.getD_none, Int.reduceToNat, Nat.reduceSub, Nat.reduceLT, Nat.reduceLeDiff, Int.reduceLE, Int.reduceLT, reduceCtorEq, k0, e0, take_map_len, sn, hle, tk, g0, g4, g7, j0, j4, j5, j7, j0, j4, g6, gm, g5, gr]
        refine TwosQ.mk (m := m) (n := n) (c' := u2) (l := l.set 0 w3) (by omega) (by rw [sl]; omega) ?_ o2
        intro r hr
        rcases List.mem_or_eq_of_mem_set hr with hr | rfl
        · exact hl r hr
        · exact wl
    · simp only [go_sem, ↓reduceIte, Nat.reduceEqDiff, Nat.reduceAdd, Nat.reduceMul, Nat.reduceBEq, Option.getD_none, Int.reduceToNat, Nat.reduceSub, Nat.reduceLT, Nat.reduceLeDiff, Int.reduceLE, Int.reduceLT, reduceCtorEq, hz, h1, take_map_len, g0, g4, g7, j0, j4, j5, j7, j0, j4, g6, gm, g5, gr]
      exact TwosQ.mk (by omega) (by omega) hl (hu.mono (by omega))
  | succ j =>
    have hz : ((j + 1 : Nat) : Int) > 0 := by omega
    have hw : IntKind.i64.wrap (((j + 1 : Nat) : Int) - 1) = (j : Int) := by rw [wrap_in (by omega) (by omega)]; omega
    obtain ⟨a, u1, o1, f1⟩ := lit_ex u n (by omega) (m := m + 100 + 60 * j + 50) (hu.mono (by omega))
    have f2 := spec_pl1Cur_one.fc u1 6 (m := m + 100 + 60 * j + 48) o1
    have o2 : CurOk (pickC u1 6) (m + 100 + 60 * j + 48) := pickC_ok o1
    generalize (pickV u1 6 == 0) = b2 at f2
    generalize pickC u1 6 = u2 at f2 o2
    obtain ⟨b, u3, o3, f3⟩ := lit_ex u2 n (by omega) (m := m + 100 + 60 * j + 40) (o2.mono (by omega))
    simp only [go_sem, ↓reduceIte, Nat.reduceEqDiff, Nat.reduceAdd, Nat.reduceMul, Nat.reduceBEq, Option.getD_none, Int.reduceToNat, Nat.reduceSub, Nat.reduceLT, Nat.reduceLeDiff, Int.reduceLE, Int.reduceLT, reduceCtorEq, hz, g0, g4, g7, j0, j4, j5, j7, j0, j4, g6, gm, g5, gr]
    refine coW_c f1 ?_
    simp only [go_sem, ↓reduceIte, Nat.reduceEqDiff, Nat.reduceAdd, Nat.reduceMul, Nat.reduceBEq, Option.getD_none, Int.reduceToNat, Nat.reduceSub, Nat.reduceLT, Nat.reduceLeDiff, Int.reduceLE, Int.reduceLT, reduceCtorEq, g0, g4, g7, j0, j4, j5, j7, j0, j4, g6, gm, g5, gr]
    refine coW_c f2 ?_
    simp only [go_sem, ↓reduceIte, Nat.reduceEqDiff, Nat.reduceAdd, Nat.reduceMul, Nat.reduceBEq, Option.getD_none, Int.reduceToNat, Nat.reduceSub, Nat.reduceLT, Nat.reduceLeDiff, Int.reduceLE, Int.reduceLT, reduceCtorEq, g0, g4, g7, j0, j4, j5, j7, j0, j4, g6, gm, g5, gr]
    refine cdW_cut (fun e s' M' => e = .n ∧ ∃ (x : List Int) (u : CurD), x.length ≤ 2 ∧ CurOk u (m + 100 + 60 * j) ∧ M'.m 0 = some (.box 0 (curA u)) ∧ M'.m 3072 = some (.arr v true 1 (l.map ints)) ∧ ∃ v, s' 7 = .sl 1600 v 0 x.length 1 ∧ M'.m 1600 = some (.arr v true 1 (x.map Ii))) ?_ ?_
    · cases b2
      · simp only [go_sem, ↓reduceIte, Nat.reduceEqDiff, Nat.reduceAdd, Nat.reduceMul, Nat.reduceBEq, Option.getD_none, Int.reduceToNat, Nat.reduceSub, Nat.reduceLT, Nat.reduceLeDiff, Int.reduceLE, Int.reduceLT, reduceCtorEq, g0, g4, g7, j0, j4, j5, j7, j0, j4, g6, gm, g5, gr]
        refine coW_c f3 ?_
        simp only [go_sem, ↓reduceIte, Nat.reduceEqDiff, Nat.reduceAdd, Nat.reduceMul, Nat.reduceBEq, Option.getD_none, Int.reduceToNat, Nat.reduceSub, Nat.reduceLT, Nat.reduceLeDiff, Int.reduceLE, Int.reduceLT, reduceCtorEq, g0, g4, g7, j0, j4, j5, j7, j0, j4, g6, gm, g5, gr]
        exact ⟨[a, b], u3, by simp, o3.mono (by omega), rfl, _, rfl, rfl⟩
      · simp only [go_sem, ↓reduceIte, Nat.reduceEqDiff, Nat.reduceAdd, Nat.reduceMul, Nat.reduceBEq, Option.getD_none, Int.reduceToNat, Nat.reduceSub, Nat.reduceLT, Nat.reduceLeDiff, Int.reduceLE, Int.reduceLT, reduceCtorEq, g0, g4, g7, j0, j4, j5, j7, j0, j4, g6, gm, g5, gr]
        exact ⟨[a], u2, by simp, o2.mono (by omega), rfl, _, rfl, rfl⟩
    clear f1 f2 f3 o1 o2 o3
    rintro e s4 M4 ⟨rfl, x, u, hx, hu, p0, p1, w, p2, p3⟩ ho
    have q0 : s4 0 = .ptr 0 0 0 none := by rw [ho 0 rfl]; simp only [go_sem, ↓reduceIte, Nat.reduceEqDiff, Nat.reduceAdd, Nat.reduceMul, Nat.reduceBEq, Option.getD_none, Int.reduceToNat, Nat.reduceSub, Nat.reduceLT, Nat.reduceLeDiff, Int.reduceLE, Int.reduceLT, reduceCtorEq, g0, g4, g7, j0, j4, j5, j7, j0, j4, g6, gm, g5, gr]
    have q5 : s4 5 = .sl 3072 v 0 l.length 1 := by rw [ho 5 rfl]; simp only [go_sem, ↓reduceIte, Nat.reduceEqDiff, Nat.reduceAdd, Nat.reduceMul, Nat.reduceBEq, Option.getD_none, Int.reduceToNat, Nat.reduceSub, Nat.reduceLT, Nat.reduceLeDiff, Int.reduceLE, Int.reduceLT, reduceCtorEq, g0, g4, g7, j0, j4, j5, j7, j0, j4, g6, gm, g5, gr]
    have q6 : s4 6 = aI ((j + 1 : Nat) : Int) := by rw [ho 6 rfl]; simp only [go_sem, ↓reduceIte, Nat.reduceEqDiff, Nat.reduceAdd, Nat.reduceMul, Nat.reduceBEq, Option.getD_none, Int.reduceToNat, Nat.reduceSub, Nat.reduceLT, Nat.reduceLeDiff, Int.reduceLE, Int.reduceLT, reduceCtorEq, g0, g4, g7, j0, j4, j5, j7, j0, j4, g6, gm, g5, gr]
    clear ho
    obtain ⟨y, ok, yl, f4⟩ := clean_ex x (by omega)
    have hbb : (l.length + 1) * 24 ≤ 70368744177664 := by omega
    have sn : l.map ints ++ [ints y] = (l ++ [y]).map ints := by simp
    simp only [go_sem, ↓reduceIte, Nat.reduceEqDiff, Nat.reduceAdd, Nat.reduceMul, Nat.reduceBEq, Option.getD_none, Int.reduceToNat, Nat.reduceSub, Nat.reduceLT, Nat.reduceLeDiff, Int.reduceLE, Int.reduceLT, reduceCtorEq, take_map_len, g0, g4, g7, j0, j4, j5, j7, j0, j4, g6, gm, g5, gr, q0, q5, q6, p0, p1, p2, p3]
    refine fcW_bd f4 (noRs_t2 noRs_ints rfl) ?_
    cases ok with
    | false =>
      simp only [go_sem, ↓reduceIte, Nat.reduceEqDiff, Nat.reduceAdd, Nat.reduceMul, Nat.reduceBEq, Option.getD_none, Int.reduceToNat, Nat.reduceSub, Nat.reduceLT, Nat.reduceLeDiff, Int.reduceLE, Int.reduceLT, reduceCtorEq, hw, g0, g4, g7, j0, j4, j5, j7, j0, j4, g6, gm, g5, gr, q0, q5, q6, p0, p1, p2, p3]
      exact ⟨(j, l, u), by dsimp only; omega, by dsimp only; omega, by dsimp only; omega, hl, hu, by simp only [go_sem, ↓reduceIte, Nat.reduceEqDiff, Nat.reduceAdd, Nat.reduceMul, Nat.reduceBEq, Option.getD_none, Int.reduceToNat, Nat.reduceSub, Nat.reduceLT, Nat.reduceLeDiff, Int.reduceLE, Int.reduceLT, reduceCtorEq, g0, g4, g7, j0, j4, j5, j7, j0, j4, g6, gm, g5, gr, q0, q5, q6, p0, p1, p2, p3], by simp only [go_sem, ↓reduceIte, Nat.reduceEqDiff, Nat.reduceAdd, Nat.reduceMul, Nat.reduceBEq, Option.getD_none, Int.reduceToNat, Nat.reduceSub, Nat.reduceLT, Nat.reduceLeDiff, Int.reduceLE, Int.reduceLT, reduceCtorEq, g0, g4, g7, j0, j4, j5, j7, j0, j4, g6, gm, g5, gr, q0, q5, q6, p0, p1, p2, p3], v, by simp only [go_sem, ↓reduceIte, Nat.reduceEqDiff, Nat.reduceAdd, Nat.reduceMul, Nat.reduceBEq, Option.getD_none, Int.reduceToNat, Nat.reduceSub, Nat.reduceLT, Nat.reduceLeDiff, Int.reduceLE, Int.reduceLT, reduceCtorEq, g0, g4, g7, j0, j4, j5, j7, j0, j4, g6, gm, g5, gr, q0, q5, q6, p0, p1, p2, p3], by simp only [go_sem, ↓reduceIte, Nat.reduceEqDiff, Nat.reduceAdd, Nat.reduceMul, Nat.reduceBEq, Option.getD_none, Int.reduceToNat, Nat.reduceSub, Nat.reduceLT, Nat.reduceLeDiff, Int.reduceLE, Int.reduceLT, reduceCtorEq, g0, g4, g7, j0, j4, j5, j7, j0, j4, g6, gm, g5, gr, q0, q5, q6, p0, p1, p2, p3]⟩
    | true =>
      simp only [go_sem, ↓reduceIte, Nat.reduceEqDiff, Nat.reduceAdd, Nat.reduceMul, Nat.reduceBEq, Option.getD_none, Int.reduceToNat, Nat.reduceSub, Nat.reduceLT, Nat.reduceLeDiff, Int.reduceLE, Int.reduceLT, reduceCtorEq, hw, hbb, take_map_len, g0, g4, g7, j0, j4, j5, j7, j0, j4, g6, gm, g5, gr, q0, q5, q6, p0, p1, p2, p3]
      refine ⟨(j, l ++ [y], u), by dsimp only; omega, by dsimp only; omega, by simp; omega, ?_, hu, by simp only [go_sem, ↓reduceIte, Nat.reduceEqDiff, Nat.reduceAdd, Nat.reduceMul, Nat.reduceBEq, Option.getD_none, Int.reduceToNat, Nat.reduceSub, Nat.reduceLT, Nat.reduceLeDiff, Int.reduceLE, Int.reduceLT, reduceCtorEq, g0, g4, g7, j0, j4, j5, j7, j0, j4, g6, gm, g5, gr, q0, q5, q6, p0, p1, p2, p3], by simp only [go_sem, ↓reduceIte, Nat.reduceEqDiff, Nat.reduceAdd, Nat.reduceMul, Nat.reduceBEq, Option.getD_none, Int.reduceToNat, Nat.reduceSub, Nat.reduceLT, Nat.reduceLeDiff, Int.reduceLE, Int.reduceLT, reduceCtorEq, g0, g4, g7, j0, j4, j5, j7, j0, j4, g6, gm, g5, gr, q0, q5, q6, p0, p1, p2, p3], _, by simp only [go_sem, ↓reduceIte, Nat.reduceEqDiff, Nat.reduceAdd, Nat.reduceMul, Nat.reduceBEq, Option.getD_none, Int.reduceToNat, Nat.reduceSub, Nat.reduceLT, Nat.reduceLeDiff, Int.reduceLE, Int.reduceLT, reduceCtorEq, List.length_append, g0, g4, g7, j0, j4, j5, j7, j0, j4, g6, gm, g5, gr, q0, q5, q6, p0, p1, p2, p3]; rfl, by simp only [go_sem, ↓reduceIte, Nat.reduceEqDiff, Nat.reduceAdd, Nat.reduceMul, Nat.reduceBEq, Option.getD_none, Int.reduceToNat, Nat.reduceSub, Nat.reduceLT, Nat.reduceLeDiff, Int.reduceLE, Int.reduceLT, reduceCtorEq, g0, g4, g7, j0, j4, j5, j7, j0, j4, g6, gm, g5, gr, q0, q5, q6, p0, p1, p2, p3]; rw [← sn]⟩
      intro r hr
      rcases List.mem_append.1 hr with hr | hr
      · exact hl r hr
      · obtain rfl : r = y := by simpa using hr
        omega
theorem it_ex (code : List Int) (hl : code.length ≤ 9223372036854775807) (h8 : ∀ b ∈ code, 0 ≤ b ∧ b ≤ 255) :
    ∃ (n : Int) (l : List (List Int)), (0 ≤ n ∧ n ≤ 13) ∧ l.length ≤ 11 ∧ (∀ r ∈ l, r.length ≤ 3) ∧ FCt prog F_spec_DrawIsTwo [.ro] [.sl 1 (code.map Ub)] (.tup [Ii n, intss l]) [] := by
  obtain ⟨n, l, c1, hn, hl2, hr, o1, f1⟩ := twos_ex (curS code) (m := 20) (curS_ok hl h8 (by omega))
  refine ⟨n, l, hn, hl2, hr, ?_⟩
  refine fct_run spec_DrawIsTwo.ok rfl ?_
  simp only [go_sem, ↓reduceIte, Nat.reduceEqDiff, Nat.reduceAdd, Nat.reduceMul, Nat.reduceBEq, Option.getD_none, Int.reduceToNat, Nat.reduceSub, Nat.reduceLT, Nat.reduceLeDiff, Int.reduceLE, Int.reduceLT, reduceCtorEq]
  refine coW_c f1 ?_
  simp only [go_sem, ↓reduceIte, Nat.reduceEqDiff, Nat.reduceAdd, Nat.reduceMul, Nat.reduceBEq, Option.getD_none, Int.reduceToNat, Nat.reduceSub, Nat.reduceLT, Nat.reduceLeDiff, Int.reduceLE, Int.reduceLT, reduceCtorEq, take_map_len]
theorem lp_ex (code : List Int) (hl : code.length ≤ 9223372036854775807) (h8 : ∀ b ∈ code, 0 ≤ b ∧ b ≤ 255) :
    ∃ (n : Int) (l : List (List Int)), (0 ≤ n ∧ n ≤ 13) ∧ l.length ≤ 11 ∧ (∀ r ∈ l, r.length ≤ 3) ∧ FCt prog F_spec_DrawLoopsOf [.ro] [.sl 1 (code.map Ub)] (.tup [Ii n, intss l]) [] := by
  obtain ⟨n, l, hn, hl2, hr, f1⟩ := it_ex code hl h8
  refine ⟨n, l, hn, hl2, hr, ?_⟩
  refine fct_run spec_DrawLoopsOf.ok rfl ?_
  simp only [go_sem, ↓reduceIte, Nat.reduceEqDiff, Nat.reduceAdd, Nat.reduceMul, Nat.reduceBEq, Option.getD_none, Int.reduceToNat, Nat.reduceSub, Nat.reduceLT, Nat.reduceLeDiff, Int.reduceLE, Int.reduceLT, reduceCtorEq]
  refine fcW_bd f1 (noRs_t2 rfl noRs_intss) ?_
  simp only [go_sem, ↓reduceIte, Nat.reduceEqDiff, Nat.reduceAdd, Nat.reduceMul, Nat.reduceBEq, Option.getD_none, Int.reduceToNat, Nat.reduceSub, Nat.reduceLT, Nat.reduceLeDiff, Int.reduceLE, Int.reduceLT, reduceCtorEq, take_map_len]
theorem ld_in {code : List Int} {n : Int} {l : List (List Int)} {x : Int} (fc : FCt prog F_spec_DrawLeadsTo [.ro] [.sl 1 (code.map Ub)] (.tup [Ii n, intss l, Ii x]) []) (hn : 0 ≤ n ∧ n ≤ 13) (h2 : l.length ≤ 11) (h3 : ∀ r ∈ l, r.length ≤ 3) :
    ∃ (n : Int) (l : List (List Int)) (x : Int), (0 ≤ n ∧ n ≤ 13) ∧ l.length ≤ 11 ∧ (∀ r ∈ l, r.length ≤ 3) ∧ FCt prog F_spec_DrawLeadsTo [.ro] [.sl 1 (code.map Ub)] (.tup [Ii n, intss l, Ii x]) [] := ⟨_, _, _, hn, h2, h3, fc⟩
theorem ld_ex (code : List Int) (hl : code.length ≤ 9223372036854775807) (h8 : ∀ b ∈ code, 0 ≤ b ∧ b ≤ 255) :
    ∃ (n : Int) (l : List (List Int)) (x : Int), (0 ≤ n ∧ n ≤ 13) ∧ l.length ≤ 11 ∧ (∀ r ∈ l, r.length ≤ 3) ∧ FCt prog F_spec_DrawLeadsTo [.ro] [.sl 1 (code.map Ub)] (.tup [Ii n, intss l, Ii x]) [] := by
  obtain ⟨n, l, c1, hn, hl2, hr, o1, f1⟩ := twos_ex (curS code) (m := 20) (curS_ok hl h8 (by omega))
  have w1 : IntKind.i64.wrap (2 * n) = 2 * n := wrap_in (by omega) (by omega)
  have w2 : IntKind.i64.wrap (2 * n + 3) = 2 * n + 3 := wrap_in (by omega) (by omega)
  have f2 := spec_pl1Cur_pick.fc c1 (2 * n + 3) (m := 18) o1
  apply ld_in (n := n) (l := l)
  · refine fct_run spec_DrawLeadsTo.ok rfl ?_
    simp only [go_sem, ↓reduceIte, Nat.reduceEqDiff, Nat.reduceAdd, Nat.reduceMul, Nat.reduceBEq, Option.getD_none, Int.reduceToNat, Nat.reduceSub, Nat.reduceLT, Nat.reduceLeDiff, Int.reduceLE, Int.reduceLT, reduceCtorEq]
    refine coW_c f1 ?_
    simp only [go_sem, ↓reduceIte, Nat.reduceEqDiff, Nat.reduceAdd, Nat.reduceMul, Nat.reduceBEq, Option.getD_none, Int.reduceToNat, Nat.reduceSub, Nat.reduceLT, Nat.reduceLeDiff, Int.reduceLE, Int.reduceLT, reduceCtorEq, take_map_len, w1, w2]
    refine coW_c f2 ?_
    simp only [go_sem, ↓reduceIte, Nat.reduceEqDiff, Nat.reduceAdd, Nat.reduceMul, Nat.reduceBEq, Option.getD_none, Int.reduceToNat, Nat.reduceSub, Nat.reduceLT, Nat.reduceLeDiff, Int.reduceLE, Int.reduceLT, reduceCtorEq, take_map_len]
    rfl
  · exact hn
  · exact hl2
  · exact hr
end Go.Vm.Ytdebllkmblakkaa
/- Walks: arcs as clauses out of bytes. -/
namespace Go.Vm.Ytdebllkmblakkaa
open Go Go.Vm
set_option maxRecDepth 10000
set_option maxHeartbeats 16000000
set_option linter.unusedSimpArgs false
set_option linter.unusedVariables false

def TwoOfQ (r : D) (outs : List D) : Prop := ∃ (n : Int) (l : List (List Int)), r = .tup [Ii n, .rs 1 (l.map ints)] ∧ outs = [] ∧ (0 ≤ n ∧ n ≤ 13) ∧ l.length ≤ 11 ∧ (∀ r ∈ l, r.length ≤ 3)
theorem to_ex (code : List Int) (hl : code.length ≤ 9223372036854775807) (h8 : ∀ b ∈ code, 0 ≤ b ∧ b ≤ 255) :
    ∃ (n : Int) (l : List (List Int)), (0 ≤ n ∧ n ≤ 13) ∧ l.length ≤ 11 ∧ (∀ r ∈ l, r.length ≤ 3) ∧ FCt prog F_spec_DrawTwoOf [.ro] [.sl 1 (code.map Ub)] (.tup [Ii n, .rs 1 (l.map ints)]) [] := by
  suffices H : ∃ r outs, TwoOfQ r outs ∧ FCt prog F_spec_DrawTwoOf [.ro] [.sl 1 (code.map Ub)] r outs by
    obtain ⟨_, _, ⟨n, l, rfl, rfl, h1, h2, h3⟩, hf⟩ := H
    exact ⟨n, l, h1, h2, h3, hf⟩
  refine fct_ex _ spec_DrawTwoOf.ok rfl rfl ?_
  obtain ⟨n, l, c1, hn, hl2, hr, o1, f1⟩ := twos_ex (curS code) (m := 200) (curS_ok hl h8 (by omega))
  simp only [go_sem, ↓reduceIte, Nat.reduceEqDiff, Nat.reduceAdd, Nat.reduceMul, Nat.reduceBEq, Option.getD_none, Int.reduceToNat, Nat.reduceSub, Nat.reduceLT, Nat.reduceLeDiff, Int.reduceLE, Int.reduceLT, reduceCtorEq]
  refine coW_c f1 ?_
  simp only [go_sem, ↓reduceIte, Nat.reduceEqDiff, Nat.reduceAdd, Nat.reduceMul, Nat.reduceBEq, Option.getD_none, Int.reduceToNat, Nat.reduceSub, Nat.reduceLT, Nat.reduceLeDiff, Int.reduceLE, Int.reduceLT, reduceCtorEq, take_map_len]
  refine R_loop (α := Nat × List (List Int) × CurD) (fun a s' M' => a.1 ≤ l.length ∧ a.2.1.length ≤ a.1 ∧ (∀ r ∈ a.2.1, r.length ≤ 3) ∧ CurOk a.2.2 (2 * (20 - a.1)) ∧ s' 20 = aI a.1 ∧ M'.m 320 = some (.box 256 (curA a.2.2)) ∧ ∃ v fl, s' 7 = .sl 2048 v 0 a.2.1.length 1 ∧ M'.m 2048 = some (.arr v fl 1 (a.2.1.map ints))) (fun a => l.length - a.1) (0, [], c1)
    ⟨by omega, by simp, by simp, o1.mono (by omega), by simp only [go_sem, ↓reduceIte, Nat.reduceEqDiff, Nat.reduceAdd, Nat.reduceMul, Nat.reduceBEq, Option.getD_none, Int.reduceToNat, Nat.reduceSub, Nat.reduceLT, Nat.reduceLeDiff, Int.reduceLE, Int.reduceLT, reduceCtorEq]; try rfl, by simp only [go_sem, ↓reduceIte, Nat.reduceEqDiff, Nat.reduceAdd, Nat.reduceMul, Nat.reduceBEq, Option.getD_none, Int.reduceToNat, Nat.reduceSub, Nat.reduceLT, Nat.reduceLeDiff, Int.reduceLE, Int.reduceLT, reduceCtorEq]; try rfl, _, _, by simp only [go_sem, ↓reduceIte, Nat.reduceEqDiff, Nat.reduceAdd, Nat.reduceMul, Nat.reduceBEq, Option.getD_none, Int.reduceToNat, Nat.reduceSub, Nat.reduceLT, Nat.reduceLeDiff, Int.reduceLE, Int.reduceLT, reduceCtorEq]; try rfl, by simp only [go_sem, ↓reduceIte, Nat.reduceEqDiff, Nat.reduceAdd, Nat.reduceMul, Nat.reduceBEq, Option.getD_none, Int.reduceToNat, Nat.reduceSub, Nat.reduceLT, Nat.reduceLeDiff, Int.reduceLE, Int.reduceLT, reduceCtorEq]; try rfl⟩ ?_
  rintro ⟨k, w, u⟩ s2 M2 ⟨hk, hwl, hr2, hu, g20, gm, v, fl, g7, gr⟩ ho
  dsimp only at hk hwl hr2 hu g20 gm g7 gr
  unfold spec_DrawTwoOf.b0
  have j4 : s2 4 = .ptr 320 256 0 none := by rw [ho 4 rfl]; simp only [go_sem, ↓reduceIte, Nat.reduceEqDiff, Nat.reduceAdd, Nat.reduceMul, Nat.reduceBEq, Option.getD_none, Int.reduceToNat, Nat.reduceSub, Nat.reduceLT, Nat.reduceLeDiff, Int.reduceLE, Int.reduceLT, reduceCtorEq]
  have j5 : s2 5 = aI n := by rw [ho 5 rfl]; simp only [go_sem, ↓reduceIte, Nat.reduceEqDiff, Nat.reduceAdd, Nat.reduceMul, Nat.reduceBEq, Option.getD_none, Int.reduceToNat, Nat.reduceSub, Nat.reduceLT, Nat.reduceLeDiff, Int.reduceLE, Int.reduceLT, reduceCtorEq]
  have j18 : s2 18 = .dat none (intss l) := by rw [ho 18 rfl]; simp only [go_sem, ↓reduceIte, Nat.reduceEqDiff, Nat.reduceAdd, Nat.reduceMul, Nat.reduceBEq, Option.getD_none, Int.reduceToNat, Nat.reduceSub, Nat.reduceLT, Nat.reduceLeDiff, Int.reduceLE, Int.reduceLT, reduceCtorEq]
  have j19 : s2 19 = aI l.length := by rw [ho 19 rfl]; simp only [go_sem, ↓reduceIte, Nat.reduceEqDiff, Nat.reduceAdd, Nat.reduceMul, Nat.reduceBEq, Option.getD_none, Int.reduceToNat, Nat.reduceSub, Nat.reduceLT, Nat.reduceLeDiff, Int.reduceLE, Int.reduceLT, reduceCtorEq]
  clear ho
  by_cases hlt : k < l.length
  · have hi' : (k : Int) < l.length := by omega
    have ga : l[k]? = some l[k] := List.getElem?_eq_getElem hlt
    have hw : IntKind.i64.wrap (k + 1) = ((k + 1 : Nat) : Int) := wrap_k hlt (by omega)
    have hxr := hr _ (List.getElem_mem hlt)
    generalize l[k] = x at ga hxr
    have hbb : (w.length + 1) * 24 ≤ 70368744177664 := by omega
    have sn : w.map ints ++ [ints x] = (w ++ [x]).map ints := by simp
    have hr3 : ∀ r ∈ w ++ [x], r.length ≤ 3 := by
      intro r hm
      rcases List.mem_append.1 hm with hm | hm
      · exact hr2 r hm
      · obtain rfl : r = x := by simpa using hm
        exact hxr
    cases h2 : ((x.length : Int) == 2) with
    | true =>
      simp only [go_sem, ↓reduceIte, Nat.reduceEqDiff, Nat.reduceAdd, Nat.reduceMul, Nat.reduceBEq, Option.getD_none, Int.reduceToNat, Nat.reduceSub, Nat.reduceLT, Nat.reduceLeDiff, Int.reduceLE, Int.reduceLT, reduceCtorEq, hi', ga, h2, hw, hbb, take_map_len, j4, j5, j18, j19, g20, gm, g7, gr]
      exact ⟨(k + 1, w ++ [x], u), by dsimp only; omega, by dsimp only; omega, by simp; omega, hr3, hu.mono (by omega), by simp only [go_sem, ↓reduceIte, Nat.reduceEqDiff, Nat.reduceAdd, Nat.reduceMul, Nat.reduceBEq, Option.getD_none, Int.reduceToNat, Nat.reduceSub, Nat.reduceLT, Nat.reduceLeDiff, Int.reduceLE, Int.reduceLT, reduceCtorEq, j4, j5, j18, j19, g20, gm, g7, gr], by simp only [go_sem, ↓reduceIte, Nat.reduceEqDiff, Nat.reduceAdd, Nat.reduceMul, Nat.reduceBEq, Option.getD_none, Int.reduceToNat, Nat.reduceSub, Nat.reduceLT, Nat.reduceLeDiff, Int.reduceLE, Int.reduceLT, reduceCtorEq, j4, j5, j18, j19, g20, gm, g7, gr], _, _, by simp only [go_sem, ↓reduceIte, Nat.reduceEqDiff, Nat.reduceAdd, Nat.reduceMul, Nat.reduceBEq, Option.getD_none, Int.reduceToNat, Nat.reduceSub, Nat.reduceLT, Nat.reduceLeDiff, Int.reduceLE, Int.reduceLT, reduceCtorEq, List.length_append, j4, j5, j18, j19, g20, gm, g7, gr]; rfl, by simp only [go_sem, ↓reduceIte, Nat.reduceEqDiff, Nat.reduceAdd, Nat.reduceMul, Nat.reduceBEq, Option.getD_none, Int.reduceToNat, Nat.reduceSub, Nat.reduceLT, Nat.reduceLeDiff, Int.reduceLE, Int.reduceLT, reduceCtorEq, j4, j5, j18, j19, g20, gm, g7, gr]; rw [← sn]⟩
    | false =>
      have f2 := spec_pl1Cur_one.fc u 12 (m := 2 * (20 - (k + 1))) (hu.mono (by omega))
      have o2 : CurOk (pickC u 12) (2 * (20 - (k + 1))) := pickC_ok (hu.mono (by omega))
      generalize pickC u 12 = u2 at f2 o2
      simp only [go_sem, ↓reduceIte, Nat.reduceEqDiff, Nat.reduceAdd, Nat.reduceMul, Nat.reduceBEq, Option.getD_none, Int.reduceToNat, Nat.reduceSub, Nat.reduceLT, Nat.reduceLeDiff, Int.reduceLE, Int.reduceLT, reduceCtorEq, hi', ga, h2, j4, j5, j18, j19, g20, gm, g7, gr]
      refine coW_c f2 ?_
      cases (pickV u 12 == 0) with
      | true =>
        simp only [go_sem, ↓reduceIte, Nat.reduceEqDiff, Nat.reduceAdd, Nat.reduceMul, Nat.reduceBEq, Option.getD_none, Int.reduceToNat, Nat.reduceSub, Nat.reduceLT, Nat.reduceLeDiff, Int.reduceLE, Int.reduceLT, reduceCtorEq, hw, hbb, take_map_len, j4, j5, j18, j19, g20, gm, g7, gr]
        exact ⟨(k + 1, w ++ [x], u2), by dsimp only; omega, by dsimp only; omega, by simp; omega, hr3, o2, by simp only [go_sem, ↓reduceIte, Nat.reduceEqDiff, Nat.reduceAdd, Nat.reduceMul, Nat.reduceBEq, Option.getD_none, Int.reduceToNat, Nat.reduceSub, Nat.reduceLT, Nat.reduceLeDiff, Int.reduceLE, Int.reduceLT, reduceCtorEq, j4, j5, j18, j19, g20, gm, g7, gr], by simp only [go_sem, ↓reduceIte, Nat.reduceEqDiff, Nat.reduceAdd, Nat.reduceMul, Nat.reduceBEq, Option.getD_none, Int.reduceToNat, Nat.reduceSub, Nat.reduceLT, Nat.reduceLeDiff, Int.reduceLE, Int.reduceLT, reduceCtorEq, j4, j5, j18, j19, g20, gm, g7, gr], _, _, by simp only [go_sem, ↓reduceIte, Nat.reduceEqDiff, Nat.reduceAdd, Nat.reduceMul, Nat.reduceBEq, Option.getD_none, Int.reduceToNat, Nat.reduceSub, Nat.reduceLT, Nat.reduceLeDiff, Int.reduceLE, Int.reduceLT, reduceCtorEq, List.length_append, j4, j5, j18, j19, g20, gm, g7, gr]; rfl, by simp only [go_sem, ↓reduceIte, Nat.reduceEqDiff, Nat.reduceAdd, Nat.reduceMul, Nat.reduceBEq, Option.getD_none, Int.reduceToNat, Nat.reduceSub, Nat.reduceLT, Nat.reduceLeDiff, Int.reduceLE, Int.reduceLT, reduceCtorEq, j4, j5, j18, j19, g20, gm, g7, gr]; rw [← sn]⟩
      | false =>
        simp only [go_sem, ↓reduceIte, Nat.reduceEqDiff, Nat.reduceAdd, Nat.reduceMul, Nat.reduceBEq, Option.getD_none, Int.reduceToNat, Nat.reduceSub, Nat.reduceLT, Nat.reduceLeDiff, Int.reduceLE, Int.reduceLT, reduceCtorEq, hw, j4, j5, j18, j19, g20, gm, g7, gr]
        exact ⟨(k + 1, w, u2), by dsimp only; omega, by dsimp only; omega, by dsimp only; omega, hr2, o2, by simp only [go_sem, ↓reduceIte, Nat.reduceEqDiff, Nat.reduceAdd, Nat.reduceMul, Nat.reduceBEq, Option.getD_none, Int.reduceToNat, Nat.reduceSub, Nat.reduceLT, Nat.reduceLeDiff, Int.reduceLE, Int.reduceLT, reduceCtorEq, j4, j5, j18, j19, g20, gm, g7, gr], by simp only [go_sem, ↓reduceIte, Nat.reduceEqDiff, Nat.reduceAdd, Nat.reduceMul, Nat.reduceBEq, Option.getD_none, Int.reduceToNat, Nat.reduceSub, Nat.reduceLT, Nat.reduceLeDiff, Int.reduceLE, Int.reduceLT, reduceCtorEq, j4, j5, j18, j19, g20, gm, g7, gr], v, fl, by simp only [go_sem, ↓reduceIte, Nat.reduceEqDiff, Nat.reduceAdd, Nat.reduceMul, Nat.reduceBEq, Option.getD_none, Int.reduceToNat, Nat.reduceSub, Nat.reduceLT, Nat.reduceLeDiff, Int.reduceLE, Int.reduceLT, reduceCtorEq, j4, j5, j18, j19, g20, gm, g7, gr], by simp only [go_sem, ↓reduceIte, Nat.reduceEqDiff, Nat.reduceAdd, Nat.reduceMul, Nat.reduceBEq, Option.getD_none, Int.reduceToNat, Nat.reduceSub, Nat.reduceLT, Nat.reduceLeDiff, Int.reduceLE, Int.reduceLT, reduceCtorEq, j4, j5, j18, j19, g20, gm, g7, gr]⟩
  · have hi' : ¬ (k : Int) < l.length := by omega
    obtain rfl : k = l.length := by omega
    have hQ : TwoOfQ (.tup [Ii n, .rs 1 (w.map ints)]) [] := ⟨n, w, rfl, rfl, hn, by omega, hr2⟩
    cases fl
    · simp only [go_sem, ↓reduceIte, Nat.reduceEqDiff, Nat.reduceAdd, Nat.reduceMul, Nat.reduceBEq, Option.getD_none, Int.reduceToNat, Nat.reduceSub, Nat.reduceLT, Nat.reduceLeDiff, Int.reduceLE, Int.reduceLT, reduceCtorEq, Int.lt_irrefl, take_map_len, j4, j5, j18, j19, g20, gm, g7, gr]
      exact hQ
    · simp only [go_sem, ↓reduceIte, Nat.reduceEqDiff, Nat.reduceAdd, Nat.reduceMul, Nat.reduceBEq, Option.getD_none, Int.reduceToNat, Nat.reduceSub, Nat.reduceLT, Nat.reduceLeDiff, Int.reduceLE, Int.reduceLT, reduceCtorEq, Int.lt_irrefl, take_map_len, j4, j5, j18, j19, g20, gm, g7, gr]
      exact hQ
end Go.Vm.Ytdebllkmblakkaa
/- Walks: what the laws call the same. -/
namespace Go.Vm.Ytdebllkmblakkaa
open Go Go.Vm
set_option maxRecDepth 10000
set_option maxHeartbeats 16000000
set_option linter.unusedSimpArgs false
set_option linter.unusedVariables false

theorem same_end {α : Type} {a b : List α} {k : Nat} (hl : a.length = b.length) (hk : a.length ≤ k) (h : ∀ i, i < k → a[i]? = b[i]?) : a = b := by
  apply List.ext_getElem?
  intro i
  by_cases hi : i < k
  · exact h i hi
  · rw [List.getElem?_eq_none (by omega), List.getElem?_eq_none (by omega)]
theorem same_not {α : Type} {a b : List α} {i : Nat} (h1 : i < a.length) (h2 : i < b.length) (h : a[i] ≠ b[i]) : a ≠ b := fun e => by subst e; exact h rfl
theorem laws_sameInts.fc (a b : List Int) (ha : a.length ≤ 4294967296) (hb : b.length ≤ 4294967296) : FCt prog F_laws_sameInts [.ro, .ro] [ints a, ints b] (Bb (decide (a = b))) [] := by
  refine fct_run laws_sameInts.ok rfl ?_
  by_cases hl : a.length = b.length
  · have e1 : ((a.length : Int) != b.length) = false := by rw [hl]; simp
    simp only [go_sem, ↓reduceIte, Nat.reduceEqDiff, Nat.reduceAdd, Nat.reduceMul, Nat.reduceBEq, Option.getD_none, Int.reduceToNat, Nat.reduceSub, Nat.reduceLT, Nat.reduceLeDiff, Int.reduceLE, Int.reduceLT, reduceCtorEq, e1]
    refine R_loop (α := Nat) (fun k s' M' => k ≤ a.length ∧ s' 13 = aI k ∧ ∀ i, i < k → a[i]? = b[i]?) (fun k => a.length - k) 0 ⟨Nat.zero_le _, by simp only [go_sem, ↓reduceIte, Nat.reduceEqDiff, Nat.reduceAdd, Nat.reduceMul, Nat.reduceBEq, Option.getD_none, Int.reduceToNat, Nat.reduceSub, Nat.reduceLT, Nat.reduceLeDiff, Int.reduceLE, Int.reduceLT, reduceCtorEq]; try rfl, fun i hi => absurd hi (Nat.not_lt_zero i)⟩ ?_
    rintro k s' M' ⟨hk, h13, hr⟩ ho
    unfold laws_sameInts.b0
    have j0 : s' 0 = .dat none (ints a) := by rw [ho 0 rfl]; simp only [go_sem, ↓reduceIte, Nat.reduceEqDiff, Nat.reduceAdd, Nat.reduceMul, Nat.reduceBEq, Option.getD_none, Int.reduceToNat, Nat.reduceSub, Nat.reduceLT, Nat.reduceLeDiff, Int.reduceLE, Int.reduceLT, reduceCtorEq]
    have j1 : s' 1 = .dat none (ints b) := by rw [ho 1 rfl]; simp only [go_sem, ↓reduceIte, Nat.reduceEqDiff, Nat.reduceAdd, Nat.reduceMul, Nat.reduceBEq, Option.getD_none, Int.reduceToNat, Nat.reduceSub, Nat.reduceLT, Nat.reduceLeDiff, Int.reduceLE, Int.reduceLT, reduceCtorEq]
    have j12 : s' 12 = aI a.length := by rw [ho 12 rfl]; simp only [go_sem, ↓reduceIte, Nat.reduceEqDiff, Nat.reduceAdd, Nat.reduceMul, Nat.reduceBEq, Option.getD_none, Int.reduceToNat, Nat.reduceSub, Nat.reduceLT, Nat.reduceLeDiff, Int.reduceLE, Int.reduceLT, reduceCtorEq]
    clear ho
    by_cases hlt : k < a.length
    · have hi' : (k : Int) < a.length := by omega
      have ga : a[k]? = some a[k] := List.getElem?_eq_getElem hlt
      have hw : IntKind.i64.wrap (k + 1) = ((k + 1 : Nat) : Int) := wrap_k hlt (by omega)
      have gb : b[k]? = some b[k] := List.getElem?_eq_getElem (by omega)
      have hb' : (k : Int) < b.length := by omega
      by_cases hx : a[k] = b[k]
      · have hx' : (a[k] != b[k]) = false := by simp [hx]
        simp only [go_sem, ↓reduceIte, Nat.reduceEqDiff, Nat.reduceAdd, Nat.reduceMul, Nat.reduceBEq, Option.getD_none, Int.reduceToNat, Nat.reduceSub, Nat.reduceLT, Nat.reduceLeDiff, Int.reduceLE, Int.reduceLT, reduceCtorEq, hi', hb', ga, gb, hx', hw, j0, j1, j12, h13]
        refine ⟨k + 1, by dsimp only; omega, by omega, by simp only [go_sem, ↓reduceIte, Nat.reduceEqDiff, Nat.reduceAdd, Nat.reduceMul, Nat.reduceBEq, Option.getD_none, Int.reduceToNat, Nat.reduceSub, Nat.reduceLT, Nat.reduceLeDiff, Int.reduceLE, Int.reduceLT, reduceCtorEq, j0, j1, j12, h13], fun i hi => ?_⟩
        by_cases c : i < k
        · exact hr i c
        · obtain rfl : i = k := by omega
          rw [ga, gb, hx]
      · have hne := same_not hlt (by omega) hx
        have hd : decide (a = b) = false := by simp [hne]
        have hx' : (a[k] != b[k]) = true := by simp [hx]
        generalize a[k] = x at *
        simp only [go_sem, ↓reduceIte, Nat.reduceEqDiff, Nat.reduceAdd, Nat.reduceMul, Nat.reduceBEq, Option.getD_none, Int.reduceToNat, Nat.reduceSub, Nat.reduceLT, Nat.reduceLeDiff, Int.reduceLE, Int.reduceLT, reduceCtorEq, hi', hb', ga, gb, hx', hd, j0, j1, j12, h13]; try rfl
    · have hi' : ¬ (k : Int) < a.length := by omega
      obtain rfl : k = a.length := by omega
      have e := same_end hl hk hr
      have hd : decide (a = b) = true := by simp [e]
      simp only [go_sem, ↓reduceIte, Nat.reduceEqDiff, Nat.reduceAdd, Nat.reduceMul, Nat.reduceBEq, Option.getD_none, Int.reduceToNat, Nat.reduceSub, Nat.reduceLT, Nat.reduceLeDiff, Int.reduceLE, Int.reduceLT, reduceCtorEq, Int.lt_irrefl, hd, j0, j1, j12, h13]; try rfl
  · have e1 : ((a.length : Int) != b.length) = true := by simp; omega
    have hd : decide (a = b) = false := by simp; intro e; exact hl (by rw [e])
    simp only [go_sem, ↓reduceIte, Nat.reduceEqDiff, Nat.reduceAdd, Nat.reduceMul, Nat.reduceBEq, Option.getD_none, Int.reduceToNat, Nat.reduceSub, Nat.reduceLT, Nat.reduceLeDiff, Int.reduceLE, Int.reduceLT, reduceCtorEq, e1, hd]; try rfl
theorem laws_sameRows.fc (a b : List (List Int)) (ha : a.length ≤ 4294967296) (hb : b.length ≤ 4294967296) (h1 : ∀ r ∈ a, r.length ≤ 4294967296) (h2 : ∀ r ∈ b, r.length ≤ 4294967296) : FCt prog F_laws_sameRows [.ro, .ro] [intss a, intss b] (Bb (decide (a = b))) [] := by
  refine fct_run laws_sameRows.ok rfl ?_
  by_cases hl : a.length = b.length
  · have e1 : ((a.length : Int) != b.length) = false := by rw [hl]; simp
    simp only [go_sem, ↓reduceIte, Nat.reduceEqDiff, Nat.reduceAdd, Nat.reduceMul, Nat.reduceBEq, Option.getD_none, Int.reduceToNat, Nat.reduceSub, Nat.reduceLT, Nat.reduceLeDiff, Int.reduceLE, Int.reduceLT, reduceCtorEq, e1]
    refine R_loop (α := Nat) (fun k s' M' => k ≤ a.length ∧ s' 13 = aI k ∧ ∀ i, i < k → a[i]? = b[i]?) (fun k => a.length - k) 0 ⟨Nat.zero_le _, by simp only [go_sem, ↓reduceIte, Nat.reduceEqDiff, Nat.reduceAdd, Nat.reduceMul, Nat.reduceBEq, Option.getD_none, Int.reduceToNat, Nat.reduceSub, Nat.reduceLT, Nat.reduceLeDiff, Int.reduceLE, Int.reduceLT, reduceCtorEq]; try rfl, fun i hi => absurd hi (Nat.not_lt_zero i)⟩ ?_
    rintro k s' M' ⟨hk, h13, hr⟩ ho
    unfold laws_sameRows.b0
    have j0 : s' 0 = .dat none (intss a) := by rw [ho 0 rfl]; simp only [go_sem, ↓reduceIte, Nat.reduceEqDiff, Nat.reduceAdd, Nat.reduceMul, Nat.reduceBEq, Option.getD_none, Int.reduceToNat, Nat.reduceSub, Nat.reduceLT, Nat.reduceLeDiff, Int.reduceLE, Int.reduceLT, reduceCtorEq]
    have j1 : s' 1 = .dat none (intss b) := by rw [ho 1 rfl]; simp only [go_sem, ↓reduceIte, Nat.reduceEqDiff, Nat.reduceAdd, Nat.reduceMul, Nat.reduceBEq, Option.getD_none, Int.reduceToNat, Nat.reduceSub, Nat.reduceLT, Nat.reduceLeDiff, Int.reduceLE, Int.reduceLT, reduceCtorEq]
    have j12 : s' 12 = aI a.length := by rw [ho 12 rfl]; simp only [go_sem, ↓reduceIte, Nat.reduceEqDiff, Nat.reduceAdd, Nat.reduceMul, Nat.reduceBEq, Option.getD_none, Int.reduceToNat, Nat.reduceSub, Nat.reduceLT, Nat.reduceLeDiff, Int.reduceLE, Int.reduceLT, reduceCtorEq]
    clear ho
    by_cases hlt : k < a.length
    · have hi' : (k : Int) < a.length := by omega
      have ga : a[k]? = some a[k] := List.getElem?_eq_getElem hlt
      have hw : IntKind.i64.wrap (k + 1) = ((k + 1 : Nat) : Int) := wrap_k hlt (by omega)
      have gb : b[k]? = some b[k] := List.getElem?_eq_getElem (by omega)
      have hb' : (k : Int) < b.length := by omega
      have c1 := laws_sameInts.fc a[k] b[k] (h1 _ (List.getElem_mem hlt)) (h2 _ (List.getElem_mem (by omega)))
      by_cases hx : a[k] = b[k]
      · rw [decide_eq_true hx] at c1
        simp only [go_sem, ↓reduceIte, Nat.reduceEqDiff, Nat.reduceAdd, Nat.reduceMul, Nat.reduceBEq, Option.getD_none, Int.reduceToNat, Nat.reduceSub, Nat.reduceLT, Nat.reduceLeDiff, Int.reduceLE, Int.reduceLT, reduceCtorEq, hi', hb', ga, gb, j0, j1, j12, h13]
        refine fcW_bool c1 ?_
        simp only [go_sem, ↓reduceIte, Nat.reduceEqDiff, Nat.reduceAdd, Nat.reduceMul, Nat.reduceBEq, Option.getD_none, Int.reduceToNat, Nat.reduceSub, Nat.reduceLT, Nat.reduceLeDiff, Int.reduceLE, Int.reduceLT, reduceCtorEq, hw, j0, j1, j12, h13]
        refine ⟨k + 1, by dsimp only; omega, by omega, by simp only [go_sem, ↓reduceIte, Nat.reduceEqDiff, Nat.reduceAdd, Nat.reduceMul, Nat.reduceBEq, Option.getD_none, Int.reduceToNat, Nat.reduceSub, Nat.reduceLT, Nat.reduceLeDiff, Int.reduceLE, Int.reduceLT, reduceCtorEq, j0, j1, j12, h13], fun i hi => ?_⟩
        by_cases c : i < k
        · exact hr i c
        · obtain rfl : i = k := by omega
          rw [ga, gb, hx]
      · have hne := same_not hlt (by omega) hx
        have hd : decide (a = b) = false := by simp [hne]
        rw [decide_eq_false hx] at c1
        simp only [go_sem, ↓reduceIte, Nat.reduceEqDiff, Nat.reduceAdd, Nat.reduceMul, Nat.reduceBEq, Option.getD_none, Int.reduceToNat, Nat.reduceSub, Nat.reduceLT, Nat.reduceLeDiff, Int.reduceLE, Int.reduceLT, reduceCtorEq, hi', hb', ga, gb, j0, j1, j12, h13]
        refine fcW_bool c1 ?_
        simp only [go_sem, ↓reduceIte, Nat.reduceEqDiff, Nat.reduceAdd, Nat.reduceMul, Nat.reduceBEq, Option.getD_none, Int.reduceToNat, Nat.reduceSub, Nat.reduceLT, Nat.reduceLeDiff, Int.reduceLE, Int.reduceLT, reduceCtorEq, hd, j0, j1, j12, h13]; try rfl
    · have hi' : ¬ (k : Int) < a.length := by omega
      obtain rfl : k = a.length := by omega
      have e := same_end hl hk hr
      have hd : decide (a = b) = true := by simp [e]
      simp only [go_sem, ↓reduceIte, Nat.reduceEqDiff, Nat.reduceAdd, Nat.reduceMul, Nat.reduceBEq, Option.getD_none, Int.reduceToNat, Nat.reduceSub, Nat.reduceLT, Nat.reduceLeDiff, Int.reduceLE, Int.reduceLT, reduceCtorEq, Int.lt_irrefl, hd, j0, j1, j12, h13]; try rfl
  · have e1 : ((a.length : Int) != b.length) = true := by simp; omega
    have hd : decide (a = b) = false := by simp; intro e; exact hl (by rw [e])
    simp only [go_sem, ↓reduceIte, Nat.reduceEqDiff, Nat.reduceAdd, Nat.reduceMul, Nat.reduceBEq, Option.getD_none, Int.reduceToNat, Nat.reduceSub, Nat.reduceLT, Nat.reduceLeDiff, Int.reduceLE, Int.reduceLT, reduceCtorEq, e1, hd]; try rfl
end Go.Vm.Ytdebllkmblakkaa
/- Plain law: arcs as clauses; the law's own 'has'. -/
namespace Go.Vm.Ytdebllkmblakkaa
open Go Go.Vm
set_option maxRecDepth 10000
set_option maxHeartbeats 4000000
set_option linter.unusedSimpArgs false
set_option linter.unusedVariables false

theorem laws_has.fc (l : List Int) (n : Int) (hl : l.length ≤ 4294967296) : FCt prog F_laws_has [.ro, .ro] [ints l, Ii n] (Bb (l.any (· == n))) [] := by
  refine fct_run laws_has.ok rfl ?_
  simp only [go_sem, ↓reduceIte, Nat.reduceEqDiff, Nat.reduceAdd, Nat.reduceMul, Nat.reduceBEq, Option.getD_none, Int.reduceToNat, Nat.reduceSub, Nat.reduceLT, Nat.reduceLeDiff, Int.reduceLE, Int.reduceLT, reduceCtorEq]
  refine R_loop (α := Nat) (fun k s' M' => k ≤ l.length ∧ s' 9 = aI k ∧ (l.take k).all (fun a => !(a == n)) = true) (fun k => l.length - k) 0 ⟨Nat.zero_le _, by simp only [go_sem, ↓reduceIte, Nat.reduceEqDiff, Nat.reduceAdd, Nat.reduceMul, Nat.reduceBEq, Option.getD_none, Int.reduceToNat, Nat.reduceSub, Nat.reduceLT, Nat.reduceLeDiff, Int.reduceLE, Int.reduceLT, reduceCtorEq]; rfl, rfl⟩ ?_
  rintro k s' M' ⟨hk, h8, hr⟩ ho
  unfold laws_has.b0
  have j1 : s' 1 = aI n := by rw [ho 1 rfl]; simp only [go_sem, ↓reduceIte, Nat.reduceEqDiff, Nat.reduceAdd, Nat.reduceMul, Nat.reduceBEq, Option.getD_none, Int.reduceToNat, Nat.reduceSub, Nat.reduceLT, Nat.reduceLeDiff, Int.reduceLE, Int.reduceLT, reduceCtorEq]
  have j7 : s' 7 = .dat none (ints l) := by rw [ho 7 rfl]; simp only [go_sem, ↓reduceIte, Nat.reduceEqDiff, Nat.reduceAdd, Nat.reduceMul, Nat.reduceBEq, Option.getD_none, Int.reduceToNat, Nat.reduceSub, Nat.reduceLT, Nat.reduceLeDiff, Int.reduceLE, Int.reduceLT, reduceCtorEq]
  have j8 : s' 8 = aI l.length := by rw [ho 8 rfl]; simp only [go_sem, ↓reduceIte, Nat.reduceEqDiff, Nat.reduceAdd, Nat.reduceMul, Nat.reduceBEq, Option.getD_none, Int.reduceToNat, Nat.reduceSub, Nat.reduceLT, Nat.reduceLeDiff, Int.reduceLE, Int.reduceLT, reduceCtorEq]
  clear ho
  by_cases hlt : k < l.length
  · have hi' : (k : Int) < l.length := by omega
    have ga : l[k]? = some l[k] := List.getElem?_eq_getElem hlt
    have hw : IntKind.i64.wrap (k + 1) = ((k + 1 : Nat) : Int) := wrap_k hlt (by omega)
    cases h1 : (l[k] == n)
    · simp only [go_sem, ↓reduceIte, Nat.reduceEqDiff, Nat.reduceAdd, Nat.reduceMul, Nat.reduceBEq, Option.getD_none, Int.reduceToNat, Nat.reduceSub, Nat.reduceLT, Nat.reduceLeDiff, Int.reduceLE, Int.reduceLT, reduceCtorEq, hi', ga, h1, hw, j1, j7, j8, h8]
      refine ⟨k + 1, by dsimp only; omega, by omega, by simp only [go_sem, ↓reduceIte, Nat.reduceEqDiff, Nat.reduceAdd, Nat.reduceMul, Nat.reduceBEq, Option.getD_none, Int.reduceToNat, Nat.reduceSub, Nat.reduceLT, Nat.reduceLeDiff, Int.reduceLE, Int.reduceLT, reduceCtorEq, j1, j7, j8, h8], all_take hlt hr (by simp [h1])⟩
    · have : l.any (· == n) = true := List.any_eq_true.2 ⟨l[k], List.getElem_mem hlt, h1⟩
      simp only [go_sem, ↓reduceIte, Nat.reduceEqDiff, Nat.reduceAdd, Nat.reduceMul, Nat.reduceBEq, Option.getD_none, Int.reduceToNat, Nat.reduceSub, Nat.reduceLT, Nat.reduceLeDiff, Int.reduceLE, Int.reduceLT, reduceCtorEq, hi', ga, h1, this, j1, j7, j8, h8]; try rfl
  · have hi' : ¬ (k : Int) < l.length := by omega
    obtain rfl : k = l.length := by omega
    rw [List.take_length] at hr
    have : l.any (· == n) = false := by
      rw [List.any_eq_false]
      intro a ha
      have := List.all_eq_true.1 hr a ha
      rw [Bool.not_eq_true'] at this
      rw [this]; exact Bool.false_ne_true
    simp only [go_sem, ↓reduceIte, Nat.reduceEqDiff, Nat.reduceAdd, Nat.reduceMul, Nat.reduceBEq, Option.getD_none, Int.reduceToNat, Nat.reduceSub, Nat.reduceLT, Nat.reduceLeDiff, Int.reduceLE, Int.reduceLT, reduceCtorEq, Int.lt_irrefl, this, j1, j7, j8, h8]; try rfl
theorem clause_two {v : Int} {p q : Int} (h : clauseB v [p, q] = true) : litB p v = true ∧ litB q v = true ∧ q ≠ p ∧ q ≠ -p := by
  simp only [clauseB, Bool.and_eq_true] at h
  have h0 := List.all_eq_true.1 h.1 0 (by simp)
  have h1 := List.all_eq_true.1 h.1 1 (by simp)
  simp only [clAt, Bool.and_eq_true] at h0 h1
  refine ⟨by simpa using h0.1.1, by simpa using h1.1.1, ?_, ?_⟩
  · rintro rfl
    simp at h1
  · rintro rfl
    simp at h1
theorem two_clause {v : Int} {p q : Int} (h1 : litB p v = true) (h2 : litB q v = true) (h3 : q ≠ p) (h4 : q ≠ -p) : clauseB v [p, q] = true := by
  have e1 : ¬ p = q := fun e => h3 e.symm
  have e2 : ¬ p = -q := by omega
  simp [clauseB, clAt, h1, h2, List.range_succ, e1, e2]
theorem litB_neg {v p : Int} (h : litB p v = true) : litB (-p) v = true := by
  simp only [litB, inB, Bool.and_eq_true, decide_eq_true_eq, bne_iff_ne] at h ⊢
  omega
/-- what holds where arcs are clauses -/
theorem twoOf_is (v : Int) (l : List (List Int)) (hl : l.length ≤ 60) (hr : ∀ r ∈ l, r.length ≤ 3) : ∃ (d : List (List Int)) (ok : Bool), twoOf v l = .tup [intss d, Bb ok] ∧ d.length ≤ 60 ∧ (∀ r ∈ d, r.length ≤ 3) ∧
    (ok = true → 0 < l.length → ∃ p q : Int, l[0]? = some [p, q] ∧ leadV v d p = ((leadV v d p).1, true) ∧ (leadV v d p).1.any (· == q) = true ∧ (leadV v d p).1.length ≤ 25) := by
  unfold twoOf
  split
  · rename_i h
    simp only [Bool.and_eq_true, List.all_eq_true, decide_eq_true_eq] at h
    obtain ⟨⟨hv, h60⟩, ha⟩ := h
    refine ⟨l.map negF, true, by simp [intss], by simpa using hl, ?_, fun _ h0 => ?_⟩
    · intro r hm
      obtain ⟨c, hc, rfl⟩ := List.mem_map.1 hm
      rw [negF_len]; exact hr c hc
    · have two : ∀ c ∈ l, ∃ p q, c = [p, q] ∧ clauseB v [p, q] = true := by
        intro c hc
        have := ha c hc
        unfold arcB at this
        rw [Bool.and_eq_true, decide_eq_true_eq] at this
        match c, this with
        | [p, q], h => exact ⟨p, q, rfl, h.2⟩
      have ht : isTwoB v (l.map negF) = true := by
        unfold isTwoB goodC
        have h1 : (l.map negF).all (clauseB v) = true := by
          rw [List.all_eq_true]
          intro c1 hc1
          obtain ⟨c, hc, rfl⟩ := List.mem_map.1 hc1
          obtain ⟨p, q, rfl, hcl⟩ := two c hc
          obtain ⟨a, b, c1, c2⟩ := clause_two hcl
          exact two_clause (litB_neg a) b c2 (by omega)
        have h2 : (l.map negF).all twoB = true := by
          rw [List.all_eq_true]
          intro c1 hc1
          obtain ⟨c, hc, rfl⟩ := List.mem_map.1 hc1
          obtain ⟨p, q, rfl, hcl⟩ := two c hc
          rfl
        rw [hv, h1, h2, decide_eq_true (by simpa using h60)]; rfl
      have hm0 : l[0] ∈ l := List.getElem_mem h0
      obtain ⟨p, q, e, hcl⟩ := two _ hm0
      obtain ⟨a, b, c1, c2⟩ := clause_two hcl
      obtain ⟨hv0, hvv, h2⟩ := two_ok ht
      have lp : Lit v.toNat p := lit_of hv0 a
      have hL : leadV v (l.map negF) p = (reachL v.toNat (l.map negF) p, true) := by
        unfold leadV
        rw [ht, a]; rfl
      refine ⟨p, q, by rw [List.getElem?_eq_getElem h0, e], by rw [hL], ?_, ?_⟩
      · rw [hL]
        refine List.any_eq_true.2 ⟨q, (rmem h2 lp).2 (.step .refl ⟨[-p, q], ?_, 0, by simp, rfl, rfl⟩), by simp⟩
        rw [e] at hm0
        exact List.mem_map.2 ⟨[p, q], hm0, rfl⟩
      · rw [hL]
        have := reachL_len v.toNat (l.map negF) p
        have := h2.hv
        dsimp only
        omega
  · exact ⟨[], false, rfl, by simp, by simp, fun h => by cases h⟩
/-- what holds where literals lead to others -/
structure LdOk (v : Int) (l : List (List Int)) (x : Int) (N : Nat) : Prop where
  vN : v = N
  n12 : N ≤ 12
  back : ∀ y ∈ (leadV v l x).1, ((-9223372036854775807 ≤ y ∧ y ≤ 9223372036854775807) ∧ leadV v l (-y) = ((leadV v l (-y)).1, true) ∧ (leadV v l (-y)).1.length ≤ 25 ∧ (leadV v l (-y)).1.any (· == -x) = true)
  xx : -9223372036854775807 ≤ x ∧ x ≤ 9223372036854775807
  lp : loopsD v l = (loopsL N l, true)
  ll : (loopsL N l).length ≤ 25
  sum : (loopsL N l).flatten.length = 2 * N
  each : ∀ r ∈ loopsL N l, 0 < r.length ∧ r.length ≤ 25 ∧ ∃ h : Int, r[0]? = some h ∧ leadV v l h = ((leadV v l h).1, true) ∧ (leadV v l h).1.length ≤ 25 ∧ ∀ y ∈ r, (leadV v l h).1.any (· == y) = true
theorem leadV_len {v : Int} {l : List (List Int)} {x : Int} : (leadV v l x).1.length ≤ 25 := by
  unfold leadV
  split
  · rename_i h
    rw [Bool.and_eq_true] at h
    obtain ⟨_, _, h2⟩ := two_ok h.1
    have := reachL_len v.toNat l x
    have := h2.hv
    dsimp only
    omega
  · simp
theorem ld_is (v : Int) (l : List (List Int)) (x : Int) (h : (leadV v l x).2 = true) : ∃ N, LdOk v l x N := by
  have hc : (isTwoB v l && litB x v) = true := by
    cases hq : (isTwoB v l && litB x v) with
    | true => rfl
    | false =>
      unfold leadV at h
      rw [hq] at h
      cases h
  have hL : ∀ y, litB y v = true → leadV v l y = (reachL v.toNat l y, true) := by
    intro y hy
    rw [Bool.and_eq_true] at hc
    unfold leadV
    rw [hc.1, hy]; rfl
  rw [Bool.and_eq_true] at hc
  obtain ⟨ht, hx⟩ := hc
  obtain ⟨h0, hv, h2⟩ := two_ok ht
  have lx : Lit v.toNat x := lit_of h0 hx
  have ltoB : ∀ y, Lit v.toNat y → litB y v = true := by
    intro y hy
    unfold Lit at hy
    simp only [litB, inB, Bool.and_eq_true, decide_eq_true_eq, bne_iff_ne]
    omega
  have hv12 := h2.hv
  refine ⟨v.toNat, hv, hv12, ?_, by unfold Lit at lx; omega, by unfold loopsD; rw [ht]; rfl, by have := loops_len (v := v.toNat) (l := l); omega, loops_flat h2, ?_⟩
  · intro y hy
    rw [hL x hx] at hy
    have hy' : y ∈ reachL v.toNat l x := hy
    have ly := reach_lit h2.lits lx ((rmem h2 lx).1 hy')
    have lny := lit_neg ly
    have e := hL (-y) (ltoB _ lny)
    refine ⟨by unfold Lit at ly; omega, by rw [e], leadV_len, ?_⟩
    rw [e]
    exact List.any_eq_true.2 ⟨-x, leads_back h2 lx hy', by simp⟩
  · intro r hr
    obtain ⟨z, lz, rfl, hz⟩ := loops_mem hr
    have hs := compL_self h2 lz
    have hl : 0 < (compL v.toNat l z).length := List.length_pos_of_mem hs
    have e := hL z (ltoB _ lz)
    refine ⟨hl, by have := compL_len v.toNat l z; omega, z, ?_, by rw [e], leadV_len, ?_⟩
    · rw [List.getD_eq_getElem?_getD, List.getElem?_eq_getElem hl] at hz
      rw [List.getElem?_eq_getElem hl]
      exact congrArg some hz
    · intro y hy
      rw [e]
      exact List.any_eq_true.2 ⟨y, (rmem h2 lz).2 ((comp_mem h2 lz).1 hy).1, by simp⟩
theorem loopsD_len {v : Int} {l : List (List Int)} : (loopsD v l).1.length ≤ 25 ∧ ∀ r ∈ (loopsD v l).1, r.length ≤ 25 := by
  unfold loopsD
  split
  · rename_i h
    obtain ⟨_, _, h2⟩ := two_ok h
    have := h2.hv
    refine ⟨by have := loops_len (v := v.toNat) (l := l); dsimp only; omega, fun r hr => ?_⟩
    obtain ⟨z, lz, rfl, hz⟩ := loops_mem hr
    have := compL_len v.toNat l z
    omega
  · exact ⟨by simp, by simp⟩
end Go.Vm.Ytdebllkmblakkaa
/- Rows of bytes as the laws are handed them. -/
namespace Go.Vm.Ytdebllkmblakkaa
open Go Go.Vm

theorem hasByte {d : D} (h : HasTy (.int .u8) d) : ∃ n : Int, d = .int .u8 n ∧ (0 ≤ n ∧ n ≤ 255) := by
  simp only [HasTy] at h
  obtain ⟨n, rfl, h⟩ := h
  refine ⟨n, rfl, ?_⟩
  simp [Lit.wf, IntKind.has, IntKind.min, IntKind.max, IntKind.signed, IntKind.bits] at h
  exact ⟨by omega, by omega⟩
theorem hasBytes {d : D} (h : HasTy (.sl (.int .u8)) d) : ∃ l : List Int, d = .sl 1 (l.map (fun n => (.int .u8 n : D))) ∧ l.length ≤ 9223372036854775807 ∧ ∀ b ∈ l, 0 ≤ b ∧ b ≤ 255 :=
  hasSl (f := fun n => (.int .u8 n : D)) (p := fun b => 0 ≤ b ∧ b ≤ 255) (fun _ h => hasByte h) h
end Go.Vm.Ytdebllkmblakkaa
