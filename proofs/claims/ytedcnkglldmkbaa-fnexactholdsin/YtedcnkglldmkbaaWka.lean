/- What the functions that the law reaches return: part 1 (the conditions stand at each). -/
import Derived.Test.YtedcnkglldmkbaaIr
/- Words for data: whole numbers, rows of them. -/
namespace Go.Vm
open Go
set_option linter.unusedSimpArgs false
set_option linter.unusedVariables false

abbrev Ii (n : Int) : D := .int .i64 n
abbrev Bb (b : Bool) : D := .bool b
abbrev ints (l : List Int) : D := .sl 1 (l.map Ii)
abbrev aI (n : Int) : AV := .dat none (.int .i64 n)
abbrev aB (b : Bool) : AV := .dat none (.bool b)
/-- a whole number of 64 bits -/
def i64 (n : Int) : Prop := -9223372036854775808 ≤ n ∧ n ≤ 9223372036854775807
theorem wrap_k {k m : Nat} (h : k < m) (hm : m ≤ 9223372036854775807) : IntKind.i64.wrap ((k : Int) + 1) = ((k + 1 : Nat) : Int) := by
  rw [wrap_in (by omega) (by omega)]; rfl
theorem hasInt {d : D} (h : HasTy (.int .i64) d) : ∃ n, d = Ii n ∧ i64 n := by
  simp only [HasTy] at h
  obtain ⟨n, rfl, h⟩ := h
  refine ⟨n, rfl, ?_⟩
  simp [Lit.wf, IntKind.has, IntKind.min, IntKind.max, IntKind.signed, IntKind.bits] at h
  exact ⟨by omega, by omega⟩
theorem hasInts {d : D} (h : HasTy (.sl (.int .i64)) d) : ∃ l : List Int, d = ints l ∧ l.length ≤ 9223372036854775807 ∧ ∀ n ∈ l, i64 n := by
  simp only [HasTy] at h
  obtain ⟨xs, rfl, hl, h⟩ := h
  have : ∀ xs : List D, (∀ x ∈ xs, HasTy (.int .i64) x) → ∃ l : List Int, xs = l.map Ii ∧ ∀ n ∈ l, i64 n := by
    intro xs
    induction xs with
    | nil => intro _; exact ⟨[], rfl, by simp⟩
    | cons x xs ih =>
      intro h
      obtain ⟨n, rfl, hn⟩ := hasInt (h x List.mem_cons_self)
      obtain ⟨l, rfl, hl⟩ := ih fun y hy => h y (List.mem_cons_of_mem _ hy)
      exact ⟨n :: l, rfl, fun m hm => by
        rcases List.mem_cons.1 hm with rfl | hm
        · exact hn
        · exact hl m hm⟩
  obtain ⟨l, rfl, hn⟩ := this xs h
  exact ⟨l, rfl, by simpa [maxLen] using hl, hn⟩
theorem take_succ' {α : Type} {l : List α} {k : Nat} (h : k < l.length) : l.take (k + 1) = l.take k ++ [l[k]] := by
  rw [List.take_succ_eq_append_getElem h]
theorem all_take {α : Type} {p : α → Bool} {l : List α} {k : Nat} (h : k < l.length) (h1 : (l.take k).all p = true) (h2 : p l[k] = true) : (l.take (k + 1)).all p = true := by
  rw [take_succ' h, List.all_append, h1]; simpa using h2
theorem not_all {α : Type} {p : α → Bool} {l : List α} {k : Nat} (h : k < l.length) (h2 : p l[k] = false) : l.all p = false := by
  rw [← Bool.not_eq_true, List.all_eq_true]
  intro hh
  have := hh _ (List.getElem_mem h)
  rw [h2] at this; cases this
/-- a row that is filled from the left -/
def fill {α : Type} (f : α → D) (z : D) (l : List α) (k : Nat) : List D := (l.take k).map f ++ List.replicate (l.length - k) z
section
variable {α : Type} {f : α → D} {z : D} {l : List α} {k : Nat}
theorem fill_zero : List.replicate l.length z = fill f z l 0 := by simp [fill]
theorem fill_len (h : k ≤ l.length) : (fill f z l k).length = l.length := by simp [fill]; omega
theorem fill_get (h : k < l.length) : (fill f z l k)[k]? = some z := by
  simp only [fill]
  have e0 : ((l.take k).map f).length = k := by rw [List.length_map, List.length_take]; omega
  rw [List.getElem?_append_right (by omega), e0, Nat.sub_self, List.getElem?_replicate, if_pos (by omega)]
theorem fill_set (h : k < l.length) : (fill f z l k).set k (f l[k]) = fill f z l (k + 1) := by
  simp only [fill]
  have e0 : ((l.take k).map f).length = k := by rw [List.length_map, List.length_take]; omega
  have e2 : l.length - k = (l.length - (k + 1)) + 1 := by omega
  rw [List.set_append_right _ _ (by omega), take_succ' h, e0, Nat.sub_self, e2, List.replicate_succ, List.set_cons_zero, List.map_append, List.append_assoc]
  rfl
theorem fill_all : fill f z l l.length = l.map f := by simp [fill]
theorem take_map_len : (l.map f).take l.length = l.map f := by rw [List.take_of_length_le (by simp)]
end
/-- a row that is written over from the left -/
def ovr {α : Type} (A B : List α) (k : Nat) : List α := A.take k ++ B.drop k
section
variable {α : Type} {A B : List α} {k : Nat}
theorem ovr_zero : ovr A B 0 = B := by simp [ovr]
theorem ovr_all (h : A.length = B.length) : ovr A B B.length = A := by simp [ovr, ← h]
theorem ovr_len (h : A.length = B.length) (hk : k ≤ B.length) : (ovr A B k).length = B.length := by simp [ovr]; omega
theorem ovr_get (h : A.length = B.length) (hk : k < B.length) : (ovr A B k)[k]? = B[k]? := by
  have e : (A.take k).length = k := by rw [List.length_take]; omega
  rw [ovr, List.getElem?_append_right (by omega), e, Nat.sub_self, List.getElem?_drop]; rfl
theorem ovr_set {x : α} (h : A.length = B.length) (hk : k < B.length) (hx : A[k]? = some x) : (ovr A B k).set k x = ovr A B (k + 1) := by
  have e : (A.take k).length = k := by rw [List.length_take]; omega
  have hd : B.drop k = B[k] :: B.drop (k + 1) := List.drop_eq_getElem_cons hk
  have hkA : k < A.length := by omega
  have hx' : A[k] = x := by rw [List.getElem?_eq_getElem hkA] at hx; exact Option.some.inj hx
  rw [ovr, ovr, List.set_append_right _ _ (by omega), e, Nat.sub_self, hd, List.set_cons_zero, take_succ' hkA, hx', List.append_assoc]; rfl
end
def upFrom (n : Int) (m : Nat) : List Int := (List.range m).map fun i => n + (i : Nat)
theorem upFrom_len {n : Int} {m : Nat} : (upFrom n m).length = m := by simp [upFrom]
theorem upFrom_get {n : Int} {m k : Nat} (h : k < m) : (upFrom n m)[k]? = some (n + k) := by simp [upFrom, h]
/-- what is left of a bound; -1: nothing -/
def szL {α : Type} (c : α → Nat) : List α → Int → Int
  | [], n => n
  | x :: l, n => if n - c x < 0 then -1 else szL c l (n - c x)
theorem szL_small {α : Type} {c : α → Nat} : ∀ {l : List α} {n : Int}, ¬ szL c l n < 0 → ∀ x ∈ l, (c x : Int) ≤ n
  | [], _, _, _, hx => by cases hx
  | y :: l, n, h, x, hx => by
    simp only [szL] at h
    split at h
    · exact absurd (by omega) h
    · rcases List.mem_cons.1 hx with rfl | hx
      · omega
      · have := szL_small h x hx; omega
/-- a row that grows: nil at first, then under one name -/
def RowAt (x : AV) (M : Mem) (nm sz : Nat) (ds : List D) : Prop := (ds = [] ∧ x = .nil sz) ∨ ∃ v, x = .sl nm v 0 ds.length sz ∧ M.m nm = some (.arr v true sz ds)
theorem RowAt.nil {M : Mem} {nm sz : Nat} : RowAt (.nil sz) M nm sz [] := .inl ⟨rfl, rfl⟩
theorem RowAt.sl {x : AV} {M : Mem} {nm sz v n : Nat} {ds : List D} (hx : x = .sl nm v 0 n sz) (hn : n = ds.length) (hm : M.m nm = some (.arr v true sz ds)) : RowAt x M nm sz ds := .inr ⟨v, by rw [hx, hn], hm⟩
/-- marks that go on from element to element -/
def accC {α : Type} (c : α → Nat) : List α → Nat
  | [] => 0
  | x :: l => c x + accC c l
def accM {α : Type} (f : Int → α → α) (c : α → Nat) : Int → List α → List α
  | _, [] => []
  | n, x :: l => f n x :: accM f c (n + c x) l
section
variable {α : Type} {f : Int → α → α} {c : α → Nat}
theorem accM_len : ∀ {l : List α} {n : Int}, (accM f c n l).length = l.length
  | [], _ => rfl
  | x :: l, n => by simp only [accM, List.length_cons, accM_len]
theorem accC_app : ∀ {l r : List α}, accC c (l ++ r) = accC c l + accC c r
  | [], r => by simp [accC]
  | x :: l, r => by simp only [List.cons_append, accC, accC_app (l := l)]; omega
theorem accC_step {l : List α} {k : Nat} (h : k < l.length) : accC c (l.take (k + 1)) = accC c (l.take k) + c l[k] := by rw [take_succ' h, accC_app]; simp [accC]
theorem accC_le {l : List α} {k : Nat} : accC c (l.take k) ≤ accC c l := by
  have : accC c l = accC c (l.take k) + accC c (l.drop k) := by rw [← accC_app, List.take_append_drop]
  omega
theorem accC_mem : ∀ {l : List α} {x : α}, x ∈ l → c x ≤ accC c l
  | y :: l, x, h => by
    simp only [accC]
    rcases List.mem_cons.1 h with rfl | h
    · omega
    · have := accC_mem h; omega
theorem accM_get : ∀ {l : List α} {n : Int} {k : Nat} (h : k < l.length), (accM f c n l)[k]? = some (f (n + accC c (l.take k)) l[k])
  | x :: l, n, 0, _ => by simp [accM, accC]
  | x :: l, n, k + 1, h => by
    simp only [accM, List.getElem?_cons_succ, List.take_succ_cons, accC, List.getElem_cons_succ]
    rw [accM_get (l := l) (by simpa using h)]
    congr 2
    omega
theorem accC_of {g : α → α} (h : ∀ x, c (g x) = c x) : ∀ {l : List α}, accC c (l.map g) = accC c l
  | [] => rfl
  | x :: l => by simp only [List.map_cons, accC, h, accC_of h (l := l)]
theorem accM_c (h : ∀ n x, c (f n x) = c x) : ∀ {l : List α} {n : Int}, accC c (accM f c n l) = accC c l
  | [], _ => rfl
  | x :: l, n => by simp only [accM, accC, h, accM_c h (l := l)]
/-- a first mark is the mark -/
theorem accM_take_c (h : ∀ n x, c (f n x) = c x) : ∀ {l : List α} {n : Int} {k : Nat}, accC c ((accM f c n l).take k) = accC c (l.take k)
  | [], _, k => by simp [accM]
  | x :: l, n, 0 => by simp
  | x :: l, n, k + 1 => by simp only [accM, List.take_succ_cons, accC, h, accM_take_c h (l := l)]
end
theorem szL_acc {α : Type} {c : α → Nat} : ∀ {l : List α} {n : Int}, 0 ≤ n → ¬ szL c l n < 0 → (accC c l : Int) ≤ n
  | [], _, h0, _ => by simpa [accC] using h0
  | y :: l, n, h0, h => by
    simp only [szL] at h
    split at h
    · exact absurd (by omega) h
    · have := szL_acc (by omega) h; simp only [accC]; omega
theorem noRsL_all : ∀ {ds : List D}, (∀ d ∈ ds, noRs d = true) → noRsL ds = true
  | [], _ => rfl
  | d :: ds, h => by simp only [noRsL, Bool.and_eq_true]; exact ⟨h d List.mem_cons_self, noRsL_all fun x hx => h x (List.mem_cons_of_mem _ hx)⟩
theorem noRs_sl {sz : Nat} {ds : List D} (h : ∀ d ∈ ds, noRs d = true) : noRs (.sl sz ds) = true := by simp only [noRs]; exact noRsL_all h
theorem noRs_ints {l : List Int} : noRs (ints l) = true := noRs_sl (by simp [noRs])

/-! ### function values -/
section
variable {P : Program} {s : Nat → AV} {M : Mem} {nb ib : Nat}
theorem frzR_caps : ∀ (caps : List D), frzR s M ((caps.map bindC).map X.k) = some caps
  | [] => rfl
  | c :: caps => by simp only [List.map_cons, frzR, ev_k, frz_bindC, frzR_caps caps]
theorem frzR_app : ∀ (xs ys : List X), frzR s M (xs ++ ys) = match frzR s M xs, frzR s M ys with | some a, some b => some (a ++ b) | _, _ => none
  | [], ys => by simp only [List.nil_append, frzR]; cases frzR s M ys <;> rfl
  | x :: xs, ys => by
    simp only [List.cons_append, frzR, frzR_app xs ys]
    cases frz M 8 (x.ev s) <;> cases frzR s M xs <;> cases frzR s M ys <;> rfl
/-- a function value is called -/
theorem ccl_ro {f : FuncId} {caps : List D} {args : List X} {ds : List D} {K : AV → Mem → (Nat → Bool) → Prop} (ha : frzR s M args = some ds)
    (h : @fcW P f (args.map (fun _ => Md.ro) ++ caps.map fun _ => Md.ro) (ds ++ caps) false ((args ++ (caps.map bindC).map X.k).all fun x => coldA (x.ev s)) nb ib M ⟨K⟩) : @cW P (.clo f (caps.map bindC)) s M nb ib false args ⟨K⟩ := by
  rw [cW_clo, CR_ro, frzR_app, ha, frzR_caps]
  have e : ((args ++ (caps.map bindC).map X.k).map fun _ => Md.ro) = (args.map (fun _ => Md.ro) ++ caps.map fun _ => Md.ro) := by simp [List.map_map, Function.comp_def]
  rw [e]
  exact h
end
/-- the first place at which 'p' holds; -1: nowhere -/
def idxB {α : Type} (p : α → Bool) (l : List α) : Int := match l.findIdx? p with
  | some i => i
  | none => -1
theorem idxB_none {α : Type} {p : α → Bool} {l : List α} (h : l.all (fun x => !p x) = true) : idxB p l = -1 := by
  unfold idxB
  rw [List.findIdx?_eq_none_iff.2 (fun x hx => by simpa using List.all_eq_true.1 h x hx)]
theorem idxB_some {α : Type} {p : α → Bool} {l : List α} {k : Nat} (hk : k < l.length) (h : (l.take k).all (fun x => !p x) = true) (hp : p l[k] = true) : idxB p l = k := by
  unfold idxB
  rw [List.findIdx?_eq_some_iff_getElem.2 ⟨hk, hp, fun j hj => by
    have := List.all_eq_true.1 h l[j] (by rw [List.mem_take_iff_getElem]; exact ⟨j, by omega, rfl⟩)
    simpa using this⟩]
theorem idxB_any {α : Type} {p : α → Bool} {l : List α} : decide (0 ≤ idxB p l) = l.any p := by
  unfold idxB
  cases h : l.findIdx? p with
  | none =>
    rw [List.findIdx?_eq_none_iff] at h
    rw [List.any_eq_false.2 (fun x hx => by simp [h x hx])]; rfl
  | some i =>
    rw [List.findIdx?_eq_some_iff_getElem] at h
    obtain ⟨hi, hp, _⟩ := h
    rw [List.any_eq_true.2 ⟨l[i], List.getElem_mem hi, hp⟩]
    simp
end Go.Vm
/- Walks: small functions. -/
namespace Go.Vm.Ytedcnkglldmkbaa
open Go Go.Vm
set_option maxRecDepth 10000
set_option linter.unusedSimpArgs false
set_option linter.unusedVariables false

def inB (n lo hi : Int) : Bool := decide (lo ≤ n) && decide (n ≤ hi)
theorem impl_in.fc (n lo hi : Int) : FCt prog F_impl_in [.ro, .ro, .ro] [Ii n, Ii lo, Ii hi] (Bb (inB n lo hi)) [] := by
  refine fct_run impl_in.ok rfl ?_
  unfold inB
  by_cases h : lo ≤ n
  · simp only [go_sem, ↓reduceIte, Nat.reduceEqDiff, Nat.reduceAdd, Nat.reduceMul, Nat.reduceBEq, Option.getD_none, Int.reduceToNat, Nat.reduceSub, Nat.reduceLT, Nat.reduceLeDiff, Int.reduceLE, Int.reduceLT, reduceCtorEq, ge_iff_le, h]
  · simp only [go_sem, ↓reduceIte, Nat.reduceEqDiff, Nat.reduceAdd, Nat.reduceMul, Nat.reduceBEq, Option.getD_none, Int.reduceToNat, Nat.reduceSub, Nat.reduceLT, Nat.reduceLeDiff, Int.reduceLE, Int.reduceLT, reduceCtorEq, ge_iff_le, h]
theorem spec_l1In.fc (n lo hi : Int) : FCt prog F_spec_l1In [.ro, .ro, .ro] [Ii n, Ii lo, Ii hi] (Bb (inB n lo hi)) [] := by
  refine fct_run spec_l1In.ok rfl ?_
  unfold inB
  by_cases h : lo ≤ n
  · simp only [go_sem, ↓reduceIte, Nat.reduceEqDiff, Nat.reduceAdd, Nat.reduceMul, Nat.reduceBEq, Option.getD_none, Int.reduceToNat, Nat.reduceSub, Nat.reduceLT, Nat.reduceLeDiff, Int.reduceLE, Int.reduceLT, reduceCtorEq, ge_iff_le, h]
  · simp only [go_sem, ↓reduceIte, Nat.reduceEqDiff, Nat.reduceAdd, Nat.reduceMul, Nat.reduceBEq, Option.getD_none, Int.reduceToNat, Nat.reduceSub, Nat.reduceLT, Nat.reduceLeDiff, Int.reduceLE, Int.reduceLT, reduceCtorEq, ge_iff_le, h]

theorem laws_eqIntS.fc (a b : List Int) (hb : a.length ≤ 4294967296) : FCt prog F_laws_eqIntS [.ro, .ro] [ints a, ints b] (Bb (decide (a = b))) [] := by
  refine fct_run laws_eqIntS.ok rfl ?_
  by_cases h : a.length = b.length
  · simp only [go_sem, ↓reduceIte, Nat.reduceEqDiff, Nat.reduceAdd, Nat.reduceMul, Nat.reduceBEq, Option.getD_none, Int.reduceToNat, Nat.reduceSub, Nat.reduceLT, Nat.reduceLeDiff, Int.reduceLE, Int.reduceLT, reduceCtorEq, h]
    refine R_loop (α := Nat) (fun k s' M' => k ≤ a.length ∧ s' 5 = aI k ∧ a.take k = b.take k) (fun k => a.length - k) 0 ⟨by omega, by simp only [go_sem, ↓reduceIte, Nat.reduceEqDiff, Nat.reduceAdd, Nat.reduceMul, Nat.reduceBEq, Option.getD_none, Int.reduceToNat, Nat.reduceSub, Nat.reduceLT, Nat.reduceLeDiff, Int.reduceLE, Int.reduceLT, reduceCtorEq]; rfl, by simp⟩ ?_
    rintro k s' M' ⟨hk, h5, hp⟩ ho
    have h0 : s' 0 = .dat none (ints a) := by rw [ho 0 rfl]; simp only [go_sem, ↓reduceIte, Nat.reduceEqDiff, Nat.reduceAdd, Nat.reduceMul, Nat.reduceBEq, Option.getD_none, Int.reduceToNat, Nat.reduceSub, Nat.reduceLT, Nat.reduceLeDiff, Int.reduceLE, Int.reduceLT, reduceCtorEq]
    have h1 : s' 1 = .dat none (ints b) := by rw [ho 1 rfl]; simp only [go_sem, ↓reduceIte, Nat.reduceEqDiff, Nat.reduceAdd, Nat.reduceMul, Nat.reduceBEq, Option.getD_none, Int.reduceToNat, Nat.reduceSub, Nat.reduceLT, Nat.reduceLeDiff, Int.reduceLE, Int.reduceLT, reduceCtorEq]
    clear ho
    unfold laws_eqIntS.b0
    by_cases hlt : k < a.length
    · have hi : (k : Int) < b.length := by omega
      have ga : a[k]? = some a[k] := List.getElem?_eq_getElem hlt
      have gb : b[k]? = some b[k] := List.getElem?_eq_getElem (by omega)
      have hw : IntKind.i64.wrap (k + 1) = ((k + 1 : Nat) : Int) := wrap_k hlt (by omega)
      simp only [go_sem, ↓reduceIte, Nat.reduceEqDiff, Nat.reduceAdd, Nat.reduceMul, Nat.reduceBEq, Option.getD_none, Int.reduceToNat, Nat.reduceSub, Nat.reduceLT, Nat.reduceLeDiff, Int.reduceLE, Int.reduceLT, reduceCtorEq, h5, h0, h1, hi, ga, gb, h, hw]
      refine cdW_any (fun e => ?_) (fun e => ?_)
      · simp only [bne_iff_ne, ne_eq] at e
        have : a ≠ b := fun hh => by subst hh; exact e rfl
        simp only [go_sem, ↓reduceIte, Nat.reduceEqDiff, Nat.reduceAdd, Nat.reduceMul, Nat.reduceBEq, Option.getD_none, Int.reduceToNat, Nat.reduceSub, Nat.reduceLT, Nat.reduceLeDiff, Int.reduceLE, Int.reduceLT, reduceCtorEq, this]
      · simp only [go_sem, ↓reduceIte, Nat.reduceEqDiff, Nat.reduceAdd, Nat.reduceMul, Nat.reduceBEq, Option.getD_none, Int.reduceToNat, Nat.reduceSub, Nat.reduceLT, Nat.reduceLeDiff, Int.reduceLE, Int.reduceLT, reduceCtorEq, h5, hw]
        refine ⟨k + 1, by dsimp only; omega, by omega, by simp only [go_sem, ↓reduceIte, Nat.reduceEqDiff, Nat.reduceAdd, Nat.reduceMul, Nat.reduceBEq, Option.getD_none, Int.reduceToNat, Nat.reduceSub, Nat.reduceLT, Nat.reduceLeDiff, Int.reduceLE, Int.reduceLT, reduceCtorEq], ?_⟩
        simp only [bne_eq_false_iff_eq] at e
        rw [take_succ' hlt, take_succ' (by omega), hp, e]
    · have hi : ¬ (k : Int) < b.length := by omega
      have hab : a = b := by
        rw [List.take_of_length_le (by omega), List.take_of_length_le (by omega)] at hp
        exact hp
      simp only [go_sem, ↓reduceIte, Nat.reduceEqDiff, Nat.reduceAdd, Nat.reduceMul, Nat.reduceBEq, Option.getD_none, Int.reduceToNat, Nat.reduceSub, Nat.reduceLT, Nat.reduceLeDiff, Int.reduceLE, Int.reduceLT, reduceCtorEq, h5, h0, h1, hi, h]
      simp [hab]
  · have hne : ((a.length : Int) != (b.length : Int)) = true := by simp; omega
    have hab : a ≠ b := fun hh => h (by rw [hh])
    simp only [go_sem, ↓reduceIte, Nat.reduceEqDiff, Nat.reduceAdd, Nat.reduceMul, Nat.reduceBEq, Option.getD_none, Int.reduceToNat, Nat.reduceSub, Nat.reduceLT, Nat.reduceLeDiff, Int.reduceLE, Int.reduceLT, reduceCtorEq, hne, hab]

theorem laws_szIntS.fc (a : List Int) (n : Int) (hn : 0 ≤ n ∧ n ≤ 1048576) (ha : a.length ≤ 9223372036854775807) :
    FCt prog F_laws_szIntS [.ro, .ro] [ints a, Ii n] (Ii (if n - a.length < 0 then -1 else n - a.length)) [] := by
  refine fct_run laws_szIntS.ok rfl ?_
  have hw : IntKind.i64.wrap (n - a.length) = n - a.length := wrap_in (by omega) (by omega)
  by_cases h : n - a.length < 0
  · simp only [go_sem, ↓reduceIte, Nat.reduceEqDiff, Nat.reduceAdd, Nat.reduceMul, Nat.reduceBEq, Option.getD_none, Int.reduceToNat, Nat.reduceSub, Nat.reduceLT, Nat.reduceLeDiff, Int.reduceLE, Int.reduceLT, reduceCtorEq, hw, h]
  · simp only [go_sem, ↓reduceIte, Nat.reduceEqDiff, Nat.reduceAdd, Nat.reduceMul, Nat.reduceBEq, Option.getD_none, Int.reduceToNat, Nat.reduceSub, Nat.reduceLT, Nat.reduceLeDiff, Int.reduceLE, Int.reduceLT, reduceCtorEq, hw, h]
end Go.Vm.Ytedcnkglldmkbaa
/- Walks: rules are copied and weighed. -/
namespace Go.Vm.Ytedcnkglldmkbaa
open Go Go.Vm
set_option maxRecDepth 10000
set_option linter.unusedSimpArgs false
set_option linter.unusedVariables false

theorem laws_toIntS.fc (l : List Int) (hl : l.length ≤ 4294967296) : FCt prog F_laws_toIntS [.ro] [ints l] (ints l) [] := by
  refine fct_run laws_toIntS.ok rfl ?_
  have c1 : (l.length : Int) * (8 : Nat) ≤ 70368744177664 := by omega
  simp only [go_sem, ↓reduceIte, Nat.reduceEqDiff, Nat.reduceAdd, Nat.reduceMul, Nat.reduceBEq, Option.getD_none, Int.reduceToNat, Nat.reduceSub, Nat.reduceLT, Nat.reduceLeDiff, Int.reduceLE, Int.reduceLT, reduceCtorEq, Int.le_refl, c1]
  refine R_loop (α := Nat) (fun k s' M' => k ≤ l.length ∧ s' 4 = aI k ∧ ∃ v, s' 3 = .sl 256 v 0 l.length 1 ∧ M'.m 256 = some (.arr v true 1 (fill Ii (Ii 0) l k))) (fun k => l.length - k) 0
    ⟨by omega, by simp only [go_sem, ↓reduceIte, Nat.reduceEqDiff, Nat.reduceAdd, Nat.reduceMul, Nat.reduceBEq, Option.getD_none, Int.reduceToNat, Nat.reduceSub, Nat.reduceLT, Nat.reduceLeDiff, Int.reduceLE, Int.reduceLT, reduceCtorEq]; rfl, _, by simp only [go_sem, ↓reduceIte, Nat.reduceEqDiff, Nat.reduceAdd, Nat.reduceMul, Nat.reduceBEq, Option.getD_none, Int.reduceToNat, Nat.reduceSub, Nat.reduceLT, Nat.reduceLeDiff, Int.reduceLE, Int.reduceLT, reduceCtorEq]; rfl, by simp only [go_sem, ↓reduceIte, Nat.reduceEqDiff, Nat.reduceAdd, Nat.reduceMul, Nat.reduceBEq, Option.getD_none, Int.reduceToNat, Nat.reduceSub, Nat.reduceLT, Nat.reduceLeDiff, Int.reduceLE, Int.reduceLT, reduceCtorEq]; rw [fill_zero]⟩ ?_
  rintro k s' M' ⟨hk, h4, v, h3, hm⟩ ho
  have h0 : s' 0 = .dat none (ints l) := by rw [ho 0 rfl]; simp only [go_sem, ↓reduceIte, Nat.reduceEqDiff, Nat.reduceAdd, Nat.reduceMul, Nat.reduceBEq, Option.getD_none, Int.reduceToNat, Nat.reduceSub, Nat.reduceLT, Nat.reduceLeDiff, Int.reduceLE, Int.reduceLT, reduceCtorEq]
  clear ho
  unfold laws_toIntS.b0
  by_cases hlt : k < l.length
  · have hi : (k : Int) < l.length := by omega
    have ga : l[k]? = some l[k] := List.getElem?_eq_getElem hlt
    have hw : IntKind.i64.wrap (k + 1) = ((k + 1 : Nat) : Int) := wrap_k hlt (by omega)
    have hf := fill_get (f := Ii) (z := Ii 0) hlt
    simp only [go_sem, ↓reduceIte, Nat.reduceEqDiff, Nat.reduceAdd, Nat.reduceMul, Nat.reduceBEq, Option.getD_none, Int.reduceToNat, Nat.reduceSub, Nat.reduceLT, Nat.reduceLeDiff, Int.reduceLE, Int.reduceLT, reduceCtorEq, h4, h3, h0, hi, ga, hw, hm, hf]
    refine ⟨k + 1, by dsimp only; omega, by omega, by simp only [go_sem, ↓reduceIte, Nat.reduceEqDiff, Nat.reduceAdd, Nat.reduceMul, Nat.reduceBEq, Option.getD_none, Int.reduceToNat, Nat.reduceSub, Nat.reduceLT, Nat.reduceLeDiff, Int.reduceLE, Int.reduceLT, reduceCtorEq], v, by simp only [go_sem, ↓reduceIte, Nat.reduceEqDiff, Nat.reduceAdd, Nat.reduceMul, Nat.reduceBEq, Option.getD_none, Int.reduceToNat, Nat.reduceSub, Nat.reduceLT, Nat.reduceLeDiff, Int.reduceLE, Int.reduceLT, reduceCtorEq, h3], by simp only [go_sem, ↓reduceIte, Nat.reduceEqDiff, Nat.reduceAdd, Nat.reduceMul, Nat.reduceBEq, Option.getD_none, Int.reduceToNat, Nat.reduceSub, Nat.reduceLT, Nat.reduceLeDiff, Int.reduceLE, Int.reduceLT, reduceCtorEq]; rw [← fill_set hlt]⟩
  · have hi : ¬ (k : Int) < l.length := by omega
    have hkl : k = l.length := by omega
    subst hkl
    have hlen := fill_len (f := Ii) (z := Ii 0) (Nat.le_refl l.length)
    simp only [go_sem, ↓reduceIte, Nat.reduceEqDiff, Nat.reduceAdd, Nat.reduceMul, Nat.reduceBEq, Option.getD_none, Int.reduceToNat, Nat.reduceSub, Nat.reduceLT, Nat.reduceLeDiff, Int.reduceLE, Int.reduceLT, reduceCtorEq, h4, h3, h0, hi, hm, hlen]
    simp only [fill_all, mkR_one, take_map_len]

/-- a rule -/
structure RuleD where
  ifs : List Int
  thn : Int
  deriving DecidableEq
abbrev RuleD.d (r : RuleD) : D := .agg [ints r.ifs, Ii r.thn]
abbrev rules (l : List RuleD) : D := .sl 2 (l.map RuleD.d)
theorem noRs_rule {r : RuleD} : noRs r.d = true := by simp [noRs, noRsL, noRsL_all]
theorem noRs_rules {l : List RuleD} : noRs (rules l) = true := noRs_sl (by
  intro d hd
  obtain ⟨r, _, rfl⟩ := List.mem_map.1 hd
  exact noRs_rule)
theorem laws_toRule.fc (r : RuleD) (hl : r.ifs.length ≤ 4294967296) : FCt prog F_laws_toRule [.ro] [r.d] r.d [] := by
  refine fct_run laws_toRule.ok rfl ?_
  simp only [go_sem, ↓reduceIte, Nat.reduceEqDiff, Nat.reduceAdd, Nat.reduceMul, Nat.reduceBEq, Option.getD_none, Int.reduceToNat, Nat.reduceSub, Nat.reduceLT, Nat.reduceLeDiff, Int.reduceLE, Int.reduceLT, reduceCtorEq]
  refine fcW_of (laws_toIntS.fc _ hl) rfl noRs_ints (by omega) rfl ?_
  simp only [go_sem, ↓reduceIte, Nat.reduceEqDiff, Nat.reduceAdd, Nat.reduceMul, Nat.reduceBEq, Option.getD_none, Int.reduceToNat, Nat.reduceSub, Nat.reduceLT, Nat.reduceLeDiff, Int.reduceLE, Int.reduceLT, reduceCtorEq, take_map_len]
theorem laws_toRuleS.fc (l : List RuleD) (hl : l.length ≤ 4294967296) (hr : ∀ r ∈ l, r.ifs.length ≤ 4294967296) : FCt prog F_laws_toRuleS [.ro] [rules l] (rules l) [] := by
  refine fct_run laws_toRuleS.ok rfl ?_
  have c1 : (l.length : Int) * (32 : Nat) ≤ 70368744177664 := by omega
  simp only [go_sem, ↓reduceIte, Nat.reduceEqDiff, Nat.reduceAdd, Nat.reduceMul, Nat.reduceBEq, Option.getD_none, Int.reduceToNat, Nat.reduceSub, Nat.reduceLT, Nat.reduceLeDiff, Int.reduceLE, Int.reduceLT, reduceCtorEq, Int.le_refl, c1]
  refine R_loop (α := Nat) (fun k s' M' => k ≤ l.length ∧ s' 4 = aI k ∧ ∃ v, s' 3 = .sl 256 v 0 l.length 2 ∧ M'.m 256 = some (.arr v true 2 (fill RuleD.d (.agg [.sl 1 [], Ii 0]) l k))) (fun k => l.length - k) 0
    ⟨by omega, by simp only [go_sem, ↓reduceIte, Nat.reduceEqDiff, Nat.reduceAdd, Nat.reduceMul, Nat.reduceBEq, Option.getD_none, Int.reduceToNat, Nat.reduceSub, Nat.reduceLT, Nat.reduceLeDiff, Int.reduceLE, Int.reduceLT, reduceCtorEq]; rfl, _, by simp only [go_sem, ↓reduceIte, Nat.reduceEqDiff, Nat.reduceAdd, Nat.reduceMul, Nat.reduceBEq, Option.getD_none, Int.reduceToNat, Nat.reduceSub, Nat.reduceLT, Nat.reduceLeDiff, Int.reduceLE, Int.reduceLT, reduceCtorEq]; rfl, by simp only [go_sem, ↓reduceIte, Nat.reduceEqDiff, Nat.reduceAdd, Nat.reduceMul, Nat.reduceBEq, Option.getD_none, Int.reduceToNat, Nat.reduceSub, Nat.reduceLT, Nat.reduceLeDiff, Int.reduceLE, Int.reduceLT, reduceCtorEq]; rw [fill_zero]⟩ ?_
  rintro k s' M' ⟨hk, h4, v, h3, hm⟩ ho
  have h0 : s' 0 = .dat none (rules l) := by rw [ho 0 rfl]; simp only [go_sem, ↓reduceIte, Nat.reduceEqDiff, Nat.reduceAdd, Nat.reduceMul, Nat.reduceBEq, Option.getD_none, Int.reduceToNat, Nat.reduceSub, Nat.reduceLT, Nat.reduceLeDiff, Int.reduceLE, Int.reduceLT, reduceCtorEq]
  clear ho
  unfold laws_toRuleS.b0
  by_cases hlt : k < l.length
  · have hi : (k : Int) < l.length := by omega
    have ga : l[k]? = some l[k] := List.getElem?_eq_getElem hlt
    have hw : IntKind.i64.wrap (k + 1) = ((k + 1 : Nat) : Int) := wrap_k hlt (by omega)
    have hf := fill_get (f := RuleD.d) (z := .agg [.sl 1 [], Ii 0]) hlt
    simp only [go_sem, ↓reduceIte, Nat.reduceEqDiff, Nat.reduceAdd, Nat.reduceMul, Nat.reduceBEq, Option.getD_none, Int.reduceToNat, Nat.reduceSub, Nat.reduceLT, Nat.reduceLeDiff, Int.reduceLE, Int.reduceLT, reduceCtorEq, h4, h3, h0, hi, ga, hw, hm, hf]
    refine fcW_of (laws_toRule.fc _ (hr _ (List.getElem_mem hlt))) rfl noRs_rule (by omega) rfl ?_
    simp only [go_sem, ↓reduceIte, Nat.reduceEqDiff, Nat.reduceAdd, Nat.reduceMul, Nat.reduceBEq, Option.getD_none, Int.reduceToNat, Nat.reduceSub, Nat.reduceLT, Nat.reduceLeDiff, Int.reduceLE, Int.reduceLT, reduceCtorEq, h4, h3, h0, hi, ga, hw, hm, hf, take_map_len]
    refine ⟨k + 1, by dsimp only; omega, by omega, by simp only [go_sem, ↓reduceIte, Nat.reduceEqDiff, Nat.reduceAdd, Nat.reduceMul, Nat.reduceBEq, Option.getD_none, Int.reduceToNat, Nat.reduceSub, Nat.reduceLT, Nat.reduceLeDiff, Int.reduceLE, Int.reduceLT, reduceCtorEq], v, by simp only [go_sem, ↓reduceIte, Nat.reduceEqDiff, Nat.reduceAdd, Nat.reduceMul, Nat.reduceBEq, Option.getD_none, Int.reduceToNat, Nat.reduceSub, Nat.reduceLT, Nat.reduceLeDiff, Int.reduceLE, Int.reduceLT, reduceCtorEq, h3], by simp only [go_sem, ↓reduceIte, Nat.reduceEqDiff, Nat.reduceAdd, Nat.reduceMul, Nat.reduceBEq, Option.getD_none, Int.reduceToNat, Nat.reduceSub, Nat.reduceLT, Nat.reduceLeDiff, Int.reduceLE, Int.reduceLT, reduceCtorEq]; rw [← fill_set hlt]⟩
  · have hi : ¬ (k : Int) < l.length := by omega
    have hkl : k = l.length := by omega
    subst hkl
    have hlen := fill_len (f := RuleD.d) (z := .agg [.sl 1 [], Ii 0]) (Nat.le_refl l.length)
    simp only [go_sem, ↓reduceIte, Nat.reduceEqDiff, Nat.reduceAdd, Nat.reduceMul, Nat.reduceBEq, Option.getD_none, Int.reduceToNat, Nat.reduceSub, Nat.reduceLT, Nat.reduceLeDiff, Int.reduceLE, Int.reduceLT, reduceCtorEq, h4, h3, h0, hi, hm, hlen, fill_all, take_map_len]

theorem laws_szRule.fc (r : RuleD) (n : Int) (hn : 0 ≤ n ∧ n ≤ 1048576) (ha : r.ifs.length ≤ 9223372036854775807) :
    FCt prog F_laws_szRule [.ro, .ro] [r.d, Ii n] (Ii (if n - r.ifs.length < 0 then -1 else n - r.ifs.length)) [] := by
  refine fct_run laws_szRule.ok rfl ?_
  simp only [go_sem, ↓reduceIte, Nat.reduceEqDiff, Nat.reduceAdd, Nat.reduceMul, Nat.reduceBEq, Option.getD_none, Int.reduceToNat, Nat.reduceSub, Nat.reduceLT, Nat.reduceLeDiff, Int.reduceLE, Int.reduceLT, reduceCtorEq]
  refine fcW_int (laws_szIntS.fc _ _ hn ha) ?_
  by_cases h : n - r.ifs.length < 0
  · simp only [go_sem, ↓reduceIte, Nat.reduceEqDiff, Nat.reduceAdd, Nat.reduceMul, Nat.reduceBEq, Option.getD_none, Int.reduceToNat, Nat.reduceSub, Nat.reduceLT, Nat.reduceLeDiff, Int.reduceLE, Int.reduceLT, reduceCtorEq, h]
  · simp only [go_sem, ↓reduceIte, Nat.reduceEqDiff, Nat.reduceAdd, Nat.reduceMul, Nat.reduceBEq, Option.getD_none, Int.reduceToNat, Nat.reduceSub, Nat.reduceLT, Nat.reduceLeDiff, Int.reduceLE, Int.reduceLT, reduceCtorEq, h]
def szRules : List RuleD → Int → Int
  | [], n => n
  | r :: rs, n => if n - r.ifs.length < 0 then -1 else szRules rs (n - r.ifs.length)
theorem szRules_small : ∀ {l : List RuleD} {n : Int}, ¬ szRules l n < 0 → ∀ r ∈ l, (r.ifs.length : Int) ≤ n
  | [], n, h, r, hr => by cases hr
  | x :: l, n, h, r, hr => by
    simp only [szRules] at h
    split at h
    · omega
    · rcases List.mem_cons.1 hr with rfl | hr
      · omega
      · have := szRules_small h r hr; omega
theorem laws_szRuleS.fc (l : List RuleD) (n : Int) (hn : 0 ≤ n ∧ n ≤ 1048576) (hl : l.length ≤ 9223372036854775807) (ha : ∀ r ∈ l, r.ifs.length ≤ 9223372036854775807) :
    FCt prog F_laws_szRuleS [.ro, .ro] [rules l, Ii n] (Ii (if n - l.length < 0 then -1 else szRules l (n - l.length))) [] := by
  refine fct_run laws_szRuleS.ok rfl ?_
  have hw : IntKind.i64.wrap (n - l.length) = n - l.length := wrap_in (by omega) (by omega)
  by_cases h : n - l.length < 0
  · simp only [go_sem, ↓reduceIte, Nat.reduceEqDiff, Nat.reduceAdd, Nat.reduceMul, Nat.reduceBEq, Option.getD_none, Int.reduceToNat, Nat.reduceSub, Nat.reduceLT, Nat.reduceLeDiff, Int.reduceLE, Int.reduceLT, reduceCtorEq, hw, h]
  · simp only [go_sem, ↓reduceIte, Nat.reduceEqDiff, Nat.reduceAdd, Nat.reduceMul, Nat.reduceBEq, Option.getD_none, Int.reduceToNat, Nat.reduceSub, Nat.reduceLT, Nat.reduceLeDiff, Int.reduceLE, Int.reduceLT, reduceCtorEq, hw, h]
    refine R_loop (α := Nat × Int) (fun a s' M' => a.1 ≤ l.length ∧ s' 5 = aI a.1 ∧ s' 1 = aI a.2 ∧ 0 ≤ a.2 ∧ a.2 ≤ 1048576 ∧ szRules (l.drop a.1) a.2 = szRules l (n - l.length)) (fun a => l.length - a.1) (0, n - l.length)
      ⟨Nat.zero_le _, by simp only [go_sem, ↓reduceIte, Nat.reduceEqDiff, Nat.reduceAdd, Nat.reduceMul, Nat.reduceBEq, Option.getD_none, Int.reduceToNat, Nat.reduceSub, Nat.reduceLT, Nat.reduceLeDiff, Int.reduceLE, Int.reduceLT, reduceCtorEq]; rfl, by simp only [go_sem, ↓reduceIte, Nat.reduceEqDiff, Nat.reduceAdd, Nat.reduceMul, Nat.reduceBEq, Option.getD_none, Int.reduceToNat, Nat.reduceSub, Nat.reduceLT, Nat.reduceLeDiff, Int.reduceLE, Int.reduceLT, reduceCtorEq], by omega, by omega, by simp⟩ ?_
    rintro ⟨k, m⟩ s' M' ⟨hk, h5, h1, hm0, hm1, hs⟩ ho
    have h0 : s' 0 = .dat none (rules l) := by rw [ho 0 rfl]; simp only [go_sem, ↓reduceIte, Nat.reduceEqDiff, Nat.reduceAdd, Nat.reduceMul, Nat.reduceBEq, Option.getD_none, Int.reduceToNat, Nat.reduceSub, Nat.reduceLT, Nat.reduceLeDiff, Int.reduceLE, Int.reduceLT, reduceCtorEq]
    clear ho
    unfold laws_szRuleS.b0
    simp only at hk h5 h1 hm0 hm1 hs
    by_cases hlt : k < l.length
    · have hi : (k : Int) < l.length := by omega
      have ga : l[k]? = some l[k] := List.getElem?_eq_getElem hlt
      have hw : IntKind.i64.wrap (k + 1) = ((k + 1 : Nat) : Int) := wrap_k hlt (by omega)
      have hd : l.drop k = l[k] :: l.drop (k + 1) := List.drop_eq_getElem_cons hlt
      rw [hd, szRules] at hs
      simp only [go_sem, ↓reduceIte, Nat.reduceEqDiff, Nat.reduceAdd, Nat.reduceMul, Nat.reduceBEq, Option.getD_none, Int.reduceToNat, Nat.reduceSub, Nat.reduceLT, Nat.reduceLeDiff, Int.reduceLE, Int.reduceLT, reduceCtorEq, h5, h1, h0, hi, ga]
      refine fcW_int (laws_szRule.fc _ _ ⟨hm0, hm1⟩ (ha _ (List.getElem_mem hlt))) ?_
      by_cases h2 : m - l[k].ifs.length < 0
      · rw [if_pos h2] at hs
        simp only [go_sem, ↓reduceIte, Nat.reduceEqDiff, Nat.reduceAdd, Nat.reduceMul, Nat.reduceBEq, Option.getD_none, Int.reduceToNat, Nat.reduceSub, Nat.reduceLT, Nat.reduceLeDiff, Int.reduceLE, Int.reduceLT, reduceCtorEq, h2, ← hs, h]
      · rw [if_neg h2] at hs
        simp only [go_sem, ↓reduceIte, Nat.reduceEqDiff, Nat.reduceAdd, Nat.reduceMul, Nat.reduceBEq, Option.getD_none, Int.reduceToNat, Nat.reduceSub, Nat.reduceLT, Nat.reduceLeDiff, Int.reduceLE, Int.reduceLT, reduceCtorEq, h2, h5, hw]
        exact ⟨(k + 1, m - l[k].ifs.length), by dsimp only; omega, by dsimp only; omega, by simp only [go_sem, ↓reduceIte, Nat.reduceEqDiff, Nat.reduceAdd, Nat.reduceMul, Nat.reduceBEq, Option.getD_none, Int.reduceToNat, Nat.reduceSub, Nat.reduceLT, Nat.reduceLeDiff, Int.reduceLE, Int.reduceLT, reduceCtorEq], by simp only [go_sem, ↓reduceIte, Nat.reduceEqDiff, Nat.reduceAdd, Nat.reduceMul, Nat.reduceBEq, Option.getD_none, Int.reduceToNat, Nat.reduceSub, Nat.reduceLT, Nat.reduceLeDiff, Int.reduceLE, Int.reduceLT, reduceCtorEq], by dsimp only; omega, by dsimp only; omega, hs⟩
    · have hi : ¬ (k : Int) < l.length := by omega
      have hkl : k = l.length := by omega
      subst hkl
      simp only [List.drop_length, szRules] at hs
      simp only [go_sem, ↓reduceIte, Nat.reduceEqDiff, Nat.reduceAdd, Nat.reduceMul, Nat.reduceBEq, Option.getD_none, Int.reduceToNat, Nat.reduceSub, Nat.reduceLT, Nat.reduceLeDiff, Int.reduceLE, Int.reduceLT, reduceCtorEq, h5, h1, h0, hi, hs, h]
end Go.Vm.Ytedcnkglldmkbaa
/- Walks: rules are looked at. -/
namespace Go.Vm.Ytedcnkglldmkbaa
open Go Go.Vm
set_option maxRecDepth 10000
set_option linter.unusedSimpArgs false
set_option linter.unusedVariables false

/-- a place of a rising row -/
def risAt (lo hi : Int) (l : List Int) (k : Nat) : Bool := inB (l.getD k 0) lo hi && !(decide (0 < k) && decide (l.getD k 0 ≤ l.getD (k - 1) 0))
def rising (lo hi : Int) (l : List Int) : Bool := (List.range l.length).all (risAt lo hi l)
theorem ris_step {lo hi : Int} {l : List Int} {k : Nat} (h : (List.range k).all (risAt lo hi l) = true) (h2 : risAt lo hi l k = true) : (List.range (k + 1)).all (risAt lo hi l) = true := by
  rw [List.range_succ, List.all_append, h]; simpa using h2
theorem ris_not {lo hi : Int} {l : List Int} {k : Nat} (hk : k < l.length) (h2 : risAt lo hi l k = false) : rising lo hi l = false := by
  unfold rising
  rw [← Bool.not_eq_true, List.all_eq_true]
  intro h
  have := h k (by simpa using hk)
  rw [h2] at this; cases this
theorem spec_l1Rising.fc (l : List Int) (lo hi : Int) (hl : l.length ≤ 4294967296) : FCt prog F_spec_l1Rising [.ro, .ro, .ro] [ints l, Ii lo, Ii hi] (Bb (rising lo hi l)) [] := by
  refine fct_run spec_l1Rising.ok rfl ?_
  simp only [go_sem, ↓reduceIte, Nat.reduceEqDiff, Nat.reduceAdd, Nat.reduceMul, Nat.reduceBEq, Option.getD_none, Int.reduceToNat, Nat.reduceSub, Nat.reduceLT, Nat.reduceLeDiff, Int.reduceLE, Int.reduceLT, reduceCtorEq]
  refine R_loop (α := Nat) (fun k s' M' => k ≤ l.length ∧ s' 11 = aI k ∧ (List.range k).all (risAt lo hi l) = true) (fun k => l.length - k) 0 ⟨by omega, by simp only [go_sem, ↓reduceIte, Nat.reduceEqDiff, Nat.reduceAdd, Nat.reduceMul, Nat.reduceBEq, Option.getD_none, Int.reduceToNat, Nat.reduceSub, Nat.reduceLT, Nat.reduceLeDiff, Int.reduceLE, Int.reduceLT, reduceCtorEq]; rfl, by simp⟩ ?_
  rintro k s' M' ⟨hk, h11, hr⟩ ho
  have h0 : s' 0 = .dat none (ints l) := by rw [ho 0 rfl]; simp only [go_sem, ↓reduceIte, Nat.reduceEqDiff, Nat.reduceAdd, Nat.reduceMul, Nat.reduceBEq, Option.getD_none, Int.reduceToNat, Nat.reduceSub, Nat.reduceLT, Nat.reduceLeDiff, Int.reduceLE, Int.reduceLT, reduceCtorEq]
  have h1 : s' 1 = aI lo := by rw [ho 1 rfl]; simp only [go_sem, ↓reduceIte, Nat.reduceEqDiff, Nat.reduceAdd, Nat.reduceMul, Nat.reduceBEq, Option.getD_none, Int.reduceToNat, Nat.reduceSub, Nat.reduceLT, Nat.reduceLeDiff, Int.reduceLE, Int.reduceLT, reduceCtorEq]
  have h2 : s' 2 = aI hi := by rw [ho 2 rfl]; simp only [go_sem, ↓reduceIte, Nat.reduceEqDiff, Nat.reduceAdd, Nat.reduceMul, Nat.reduceBEq, Option.getD_none, Int.reduceToNat, Nat.reduceSub, Nat.reduceLT, Nat.reduceLeDiff, Int.reduceLE, Int.reduceLT, reduceCtorEq]
  have h9 : s' 9 = .dat none (ints l) := by rw [ho 9 rfl]; simp only [go_sem, ↓reduceIte, Nat.reduceEqDiff, Nat.reduceAdd, Nat.reduceMul, Nat.reduceBEq, Option.getD_none, Int.reduceToNat, Nat.reduceSub, Nat.reduceLT, Nat.reduceLeDiff, Int.reduceLE, Int.reduceLT, reduceCtorEq]
  have h10 : s' 10 = aI l.length := by rw [ho 10 rfl]; simp only [go_sem, ↓reduceIte, Nat.reduceEqDiff, Nat.reduceAdd, Nat.reduceMul, Nat.reduceBEq, Option.getD_none, Int.reduceToNat, Nat.reduceSub, Nat.reduceLT, Nat.reduceLeDiff, Int.reduceLE, Int.reduceLT, reduceCtorEq]
  clear ho
  unfold spec_l1Rising.b0
  by_cases hlt : k < l.length
  · have hi' : (k : Int) < l.length := by omega
    have ga : l[k]? = some l[k] := List.getElem?_eq_getElem hlt
    have gd : l.getD k 0 = l[k] := by simp [hlt]
    have hw : IntKind.i64.wrap (k + 1) = ((k + 1 : Nat) : Int) := wrap_k hlt (by omega)
    simp only [go_sem, ↓reduceIte, Nat.reduceEqDiff, Nat.reduceAdd, Nat.reduceMul, Nat.reduceBEq, Option.getD_none, Int.reduceToNat, Nat.reduceSub, Nat.reduceLT, Nat.reduceLeDiff, Int.reduceLE, Int.reduceLT, reduceCtorEq, h0, h1, h2, h9, h10, h11, hi', ga]
    refine fcW_bool (spec_l1In.fc _ _ _) ?_
    cases hin : inB l[k] lo hi with
    | false =>
      have hn : rising lo hi l = false := ris_not hlt (by simp only [risAt, gd, hin, Bool.false_and])
      simp only [go_sem, ↓reduceIte, Nat.reduceEqDiff, Nat.reduceAdd, Nat.reduceMul, Nat.reduceBEq, Option.getD_none, Int.reduceToNat, Nat.reduceSub, Nat.reduceLT, Nat.reduceLeDiff, Int.reduceLE, Int.reduceLT, reduceCtorEq, hn]
    | true =>
      by_cases hk0 : 0 < k
      · have hk0' : (k : Int) > 0 := by omega
        have gb : l[k - 1]? = some l[k - 1] := List.getElem?_eq_getElem (by omega)
        have gd1 : l.getD (k - 1) 0 = l[k - 1] := by rw [List.getD_eq_getElem?_getD, gb]; rfl
        have hw1 : IntKind.i64.wrap (k - 1) = ((k - 1 : Nat) : Int) := by rw [wrap_in (by omega) (by omega)]; omega
        have hi1 : ((k - 1 : Nat) : Int) < l.length := by omega
        have hr2 : risAt lo hi l k = !decide (l[k - 1] ≥ l[k]) := by simp only [risAt, gd, gd1, hin, hk0, decide_true, Bool.true_and, ge_iff_le]
        simp only [go_sem, ↓reduceIte, Nat.reduceEqDiff, Nat.reduceAdd, Nat.reduceMul, Nat.reduceBEq, Option.getD_none, Int.reduceToNat, Nat.reduceSub, Nat.reduceLT, Nat.reduceLeDiff, Int.reduceLE, Int.reduceLT, reduceCtorEq, h0, h1, h2, h9, h10, h11, hk0', gb, hw1, hi1, hw]
        refine cdW_dec (fun e => ?_) (fun e => ?_)
        · have hn : rising lo hi l = false := ris_not hlt (by rw [hr2, decide_eq_true e]; rfl)
          simp only [go_sem, ↓reduceIte, Nat.reduceEqDiff, Nat.reduceAdd, Nat.reduceMul, Nat.reduceBEq, Option.getD_none, Int.reduceToNat, Nat.reduceSub, Nat.reduceLT, Nat.reduceLeDiff, Int.reduceLE, Int.reduceLT, reduceCtorEq, hn]
        · simp only [go_sem, ↓reduceIte, Nat.reduceEqDiff, Nat.reduceAdd, Nat.reduceMul, Nat.reduceBEq, Option.getD_none, Int.reduceToNat, Nat.reduceSub, Nat.reduceLT, Nat.reduceLeDiff, Int.reduceLE, Int.reduceLT, reduceCtorEq, h11, hw]
          exact ⟨k + 1, by dsimp only; omega, by omega, by simp only [go_sem, ↓reduceIte, Nat.reduceEqDiff, Nat.reduceAdd, Nat.reduceMul, Nat.reduceBEq, Option.getD_none, Int.reduceToNat, Nat.reduceSub, Nat.reduceLT, Nat.reduceLeDiff, Int.reduceLE, Int.reduceLT, reduceCtorEq], ris_step hr (by rw [hr2, decide_eq_false e]; rfl)⟩
      · have hk0' : ¬ (k : Int) > 0 := by omega
        simp only [go_sem, ↓reduceIte, Nat.reduceEqDiff, Nat.reduceAdd, Nat.reduceMul, Nat.reduceBEq, Option.getD_none, Int.reduceToNat, Nat.reduceSub, Nat.reduceLT, Nat.reduceLeDiff, Int.reduceLE, Int.reduceLT, reduceCtorEq, h0, h1, h2, h9, h10, h11, hk0', hw]
        exact ⟨k + 1, by dsimp only; omega, by omega, by simp only [go_sem, ↓reduceIte, Nat.reduceEqDiff, Nat.reduceAdd, Nat.reduceMul, Nat.reduceBEq, Option.getD_none, Int.reduceToNat, Nat.reduceSub, Nat.reduceLT, Nat.reduceLeDiff, Int.reduceLE, Int.reduceLT, reduceCtorEq], ris_step hr (by simp only [risAt, gd, hin, hk0, decide_false, Bool.false_and, Bool.not_false, Bool.and_true])⟩
  · have hi' : ¬ (k : Int) < l.length := by omega
    have hkl : k = l.length := by omega
    subst hkl
    simp only [go_sem, ↓reduceIte, Nat.reduceEqDiff, Nat.reduceAdd, Nat.reduceMul, Nat.reduceBEq, Option.getD_none, Int.reduceToNat, Nat.reduceSub, Nat.reduceLT, Nat.reduceLeDiff, Int.reduceLE, Int.reduceLT, reduceCtorEq, h0, h1, h2, h9, h10, h11, hi']
    exact congrArg D.bool hr.symm
theorem spec_l16Facts.fc (l : List Int) (n : Int) (hl : l.length ≤ 4294967296) : FCt prog F_spec_l16Facts [.ro, .ro] [Ii n, ints l] (Bb (rising 1 n l)) [] := by
  refine fct_run spec_l16Facts.ok rfl ?_
  simp only [go_sem, ↓reduceIte, Nat.reduceEqDiff, Nat.reduceAdd, Nat.reduceMul, Nat.reduceBEq, Option.getD_none, Int.reduceToNat, Nat.reduceSub, Nat.reduceLT, Nat.reduceLeDiff, Int.reduceLE, Int.reduceLT, reduceCtorEq]
  refine fcW_bool (spec_l1Rising.fc _ _ _ hl) ?_
  simp only [go_sem, ↓reduceIte, Nat.reduceEqDiff, Nat.reduceAdd, Nat.reduceMul, Nat.reduceBEq, Option.getD_none, Int.reduceToNat, Nat.reduceSub, Nat.reduceLT, Nat.reduceLeDiff, Int.reduceLE, Int.reduceLT, reduceCtorEq]
end Go.Vm.Ytedcnkglldmkbaa
/- Walks: rules are looked at, by the program and by the reference. -/
namespace Go.Vm.Ytedcnkglldmkbaa
open Go Go.Vm
set_option maxRecDepth 10000
set_option linter.unusedSimpArgs false
set_option linter.unusedVariables false

theorem impl_areFacts.fc (l : List Int) (hi : Int) (hl : l.length ≤ 4294967296) : FCt prog F_impl_areFacts [.ro, .ro] [ints l, Ii hi] (Bb (rising 1 hi l)) [] := by
  refine fct_run impl_areFacts.ok rfl ?_
  simp only [go_sem, ↓reduceIte, Nat.reduceEqDiff, Nat.reduceAdd, Nat.reduceMul, Nat.reduceBEq, Option.getD_none, Int.reduceToNat, Nat.reduceSub, Nat.reduceLT, Nat.reduceLeDiff, Int.reduceLE, Int.reduceLT, reduceCtorEq]
  refine R_loop (α := Nat) (fun k s' M' => k ≤ l.length ∧ s' 9 = aI k ∧ (List.range k).all (risAt 1 hi l) = true) (fun k => l.length - k) 0 ⟨by omega, by simp only [go_sem, ↓reduceIte, Nat.reduceEqDiff, Nat.reduceAdd, Nat.reduceMul, Nat.reduceBEq, Option.getD_none, Int.reduceToNat, Nat.reduceSub, Nat.reduceLT, Nat.reduceLeDiff, Int.reduceLE, Int.reduceLT, reduceCtorEq]; rfl, by simp⟩ ?_
  rintro k s' M' ⟨hk, h9, hr⟩ ho
  have h0 : s' 0 = .dat none (ints l) := by rw [ho 0 rfl]; simp only [go_sem, ↓reduceIte, Nat.reduceEqDiff, Nat.reduceAdd, Nat.reduceMul, Nat.reduceBEq, Option.getD_none, Int.reduceToNat, Nat.reduceSub, Nat.reduceLT, Nat.reduceLeDiff, Int.reduceLE, Int.reduceLT, reduceCtorEq]
  have h1 : s' 1 = aI hi := by rw [ho 1 rfl]; simp only [go_sem, ↓reduceIte, Nat.reduceEqDiff, Nat.reduceAdd, Nat.reduceMul, Nat.reduceBEq, Option.getD_none, Int.reduceToNat, Nat.reduceSub, Nat.reduceLT, Nat.reduceLeDiff, Int.reduceLE, Int.reduceLT, reduceCtorEq]
  have h7 : s' 7 = .dat none (ints l) := by rw [ho 7 rfl]; simp only [go_sem, ↓reduceIte, Nat.reduceEqDiff, Nat.reduceAdd, Nat.reduceMul, Nat.reduceBEq, Option.getD_none, Int.reduceToNat, Nat.reduceSub, Nat.reduceLT, Nat.reduceLeDiff, Int.reduceLE, Int.reduceLT, reduceCtorEq]
  have h8 : s' 8 = aI l.length := by rw [ho 8 rfl]; simp only [go_sem, ↓reduceIte, Nat.reduceEqDiff, Nat.reduceAdd, Nat.reduceMul, Nat.reduceBEq, Option.getD_none, Int.reduceToNat, Nat.reduceSub, Nat.reduceLT, Nat.reduceLeDiff, Int.reduceLE, Int.reduceLT, reduceCtorEq]
  clear ho
  unfold impl_areFacts.b0
  by_cases hlt : k < l.length
  · have hi' : (k : Int) < l.length := by omega
    have ga : l[k]? = some l[k] := List.getElem?_eq_getElem hlt
    have gd : l.getD k 0 = l[k] := by simp [hlt]
    have hw : IntKind.i64.wrap (k + 1) = ((k + 1 : Nat) : Int) := wrap_k hlt (by omega)
    simp only [go_sem, ↓reduceIte, Nat.reduceEqDiff, Nat.reduceAdd, Nat.reduceMul, Nat.reduceBEq, Option.getD_none, Int.reduceToNat, Nat.reduceSub, Nat.reduceLT, Nat.reduceLeDiff, Int.reduceLE, Int.reduceLT, reduceCtorEq, h0, h1, h7, h8, h9, hi', ga]
    refine fcW_bool (impl_in.fc _ _ _) ?_
    cases hin : inB l[k] 1 hi with
    | false =>
      have hn : rising 1 hi l = false := ris_not hlt (by simp only [risAt, gd, hin, Bool.false_and])
      simp only [go_sem, ↓reduceIte, Nat.reduceEqDiff, Nat.reduceAdd, Nat.reduceMul, Nat.reduceBEq, Option.getD_none, Int.reduceToNat, Nat.reduceSub, Nat.reduceLT, Nat.reduceLeDiff, Int.reduceLE, Int.reduceLT, reduceCtorEq, hn]
    | true =>
      by_cases hk0 : 0 < k
      · have hk0' : (k : Int) > 0 := by omega
        have gb : l[k - 1]? = some l[k - 1] := List.getElem?_eq_getElem (by omega)
        have gd1 : l.getD (k - 1) 0 = l[k - 1] := by rw [List.getD_eq_getElem?_getD, gb]; rfl
        have hw1 : IntKind.i64.wrap (k - 1) = ((k - 1 : Nat) : Int) := by rw [wrap_in (by omega) (by omega)]; omega
        have hi1 : ((k - 1 : Nat) : Int) < l.length := by omega
        have hr2 : risAt 1 hi l k = !decide (l[k - 1] ≥ l[k]) := by simp only [risAt, gd, gd1, hin, hk0, decide_true, Bool.true_and, ge_iff_le]
        simp only [go_sem, ↓reduceIte, Nat.reduceEqDiff, Nat.reduceAdd, Nat.reduceMul, Nat.reduceBEq, Option.getD_none, Int.reduceToNat, Nat.reduceSub, Nat.reduceLT, Nat.reduceLeDiff, Int.reduceLE, Int.reduceLT, reduceCtorEq, h0, h1, h7, h8, h9, hk0', gb, hw1, hi1]
        refine cdW_dec (fun e => ?_) (fun e => ?_)
        · have hn : rising 1 hi l = false := ris_not hlt (by rw [hr2, decide_eq_true e]; rfl)
          simp only [go_sem, ↓reduceIte, Nat.reduceEqDiff, Nat.reduceAdd, Nat.reduceMul, Nat.reduceBEq, Option.getD_none, Int.reduceToNat, Nat.reduceSub, Nat.reduceLT, Nat.reduceLeDiff, Int.reduceLE, Int.reduceLT, reduceCtorEq, hn]
        · simp only [go_sem, ↓reduceIte, Nat.reduceEqDiff, Nat.reduceAdd, Nat.reduceMul, Nat.reduceBEq, Option.getD_none, Int.reduceToNat, Nat.reduceSub, Nat.reduceLT, Nat.reduceLeDiff, Int.reduceLE, Int.reduceLT, reduceCtorEq, h9, hw]
          exact ⟨k + 1, by dsimp only; omega, by omega, by simp only [go_sem, ↓reduceIte, Nat.reduceEqDiff, Nat.reduceAdd, Nat.reduceMul, Nat.reduceBEq, Option.getD_none, Int.reduceToNat, Nat.reduceSub, Nat.reduceLT, Nat.reduceLeDiff, Int.reduceLE, Int.reduceLT, reduceCtorEq], ris_step hr (by rw [hr2, decide_eq_false e]; rfl)⟩
      · have hk0' : ¬ (k : Int) > 0 := by omega
        simp only [go_sem, ↓reduceIte, Nat.reduceEqDiff, Nat.reduceAdd, Nat.reduceMul, Nat.reduceBEq, Option.getD_none, Int.reduceToNat, Nat.reduceSub, Nat.reduceLT, Nat.reduceLeDiff, Int.reduceLE, Int.reduceLT, reduceCtorEq, h0, h1, h7, h8, h9, hk0', hw]
        exact ⟨k + 1, by dsimp only; omega, by omega, by simp only [go_sem, ↓reduceIte, Nat.reduceEqDiff, Nat.reduceAdd, Nat.reduceMul, Nat.reduceBEq, Option.getD_none, Int.reduceToNat, Nat.reduceSub, Nat.reduceLT, Nat.reduceLeDiff, Int.reduceLE, Int.reduceLT, reduceCtorEq], ris_step hr (by simp only [risAt, gd, hin, hk0, decide_false, Bool.false_and, Bool.not_false, Bool.and_true])⟩
  · have hi' : ¬ (k : Int) < l.length := by omega
    have hkl : k = l.length := by omega
    subst hkl
    simp only [go_sem, ↓reduceIte, Nat.reduceEqDiff, Nat.reduceAdd, Nat.reduceMul, Nat.reduceBEq, Option.getD_none, Int.reduceToNat, Nat.reduceSub, Nat.reduceLT, Nat.reduceLeDiff, Int.reduceLE, Int.reduceLT, reduceCtorEq, h0, h1, h7, h8, h9, hi']
    exact congrArg D.bool hr.symm

/-- is a rule valid? -/
def goodRule (n : Int) (r : RuleD) : Bool := rising 1 n r.ifs && inB r.thn 0 n
theorem impl_GoodRules_c1.fc (r : RuleD) (n : Int) (hl : r.ifs.length ≤ 4294967296) : FCt prog F_impl_GoodRules_c1 [.ro, .ro] [r.d, .ptr (Ii n)] (Bb (!goodRule n r)) [] := by
  refine fct_run impl_GoodRules_c1.ok rfl ?_
  simp only [go_sem, ↓reduceIte, Nat.reduceEqDiff, Nat.reduceAdd, Nat.reduceMul, Nat.reduceBEq, Option.getD_none, Int.reduceToNat, Nat.reduceSub, Nat.reduceLT, Nat.reduceLeDiff, Int.reduceLE, Int.reduceLT, reduceCtorEq]
  refine fcW_bool (impl_areFacts.fc _ _ hl) ?_
  unfold goodRule
  cases h : rising 1 n r.ifs with
  | false => simp only [go_sem, ↓reduceIte, Nat.reduceEqDiff, Nat.reduceAdd, Nat.reduceMul, Nat.reduceBEq, Option.getD_none, Int.reduceToNat, Nat.reduceSub, Nat.reduceLT, Nat.reduceLeDiff, Int.reduceLE, Int.reduceLT, reduceCtorEq]
  | true =>
    simp only [go_sem, ↓reduceIte, Nat.reduceEqDiff, Nat.reduceAdd, Nat.reduceMul, Nat.reduceBEq, Option.getD_none, Int.reduceToNat, Nat.reduceSub, Nat.reduceLT, Nat.reduceLeDiff, Int.reduceLE, Int.reduceLT, reduceCtorEq]
    refine fcW_bool (impl_in.fc _ _ _) ?_
    simp only [go_sem, ↓reduceIte, Nat.reduceEqDiff, Nat.reduceAdd, Nat.reduceMul, Nat.reduceBEq, Option.getD_none, Int.reduceToNat, Nat.reduceSub, Nat.reduceLT, Nat.reduceLeDiff, Int.reduceLE, Int.reduceLT, reduceCtorEq]
theorem slices_IndexFunc__sRule_Rule.fc (l : List RuleD) (f : FuncId) (caps : List D) (p : RuleD → Bool) (hl : l.length ≤ 4294967296)
    (h : ∀ x ∈ l, FCt prog f (.ro :: caps.map fun _ => .ro) (x.d :: caps) (Bb (p x)) []) : FCt prog F_slices_IndexFunc__sRule_Rule [.ro, .ro] [rules l, .clo f caps] (Ii (idxB p l)) [] := by
  refine fct_run slices_IndexFunc__sRule_Rule.ok rfl ?_
  simp only [go_sem, ↓reduceIte, Nat.reduceEqDiff, Nat.reduceAdd, Nat.reduceMul, Nat.reduceBEq, Option.getD_none, Int.reduceToNat, Nat.reduceSub, Nat.reduceLT, Nat.reduceLeDiff, Int.reduceLE, Int.reduceLT, reduceCtorEq]
  refine R_loop (α := Nat) (fun k s' M' => k ≤ l.length ∧ s' 8 = aI k ∧ (l.take k).all (fun x => !p x) = true) (fun k => l.length - k) 0 ⟨by omega, by simp only [go_sem, ↓reduceIte, Nat.reduceEqDiff, Nat.reduceAdd, Nat.reduceMul, Nat.reduceBEq, Option.getD_none, Int.reduceToNat, Nat.reduceSub, Nat.reduceLT, Nat.reduceLeDiff, Int.reduceLE, Int.reduceLT, reduceCtorEq]; rfl, by simp⟩ ?_
  rintro k s' M' ⟨hk, h8, hr⟩ ho
  have h0 : s' 0 = .dat none (rules l) := by rw [ho 0 rfl]; simp only [go_sem, ↓reduceIte, Nat.reduceEqDiff, Nat.reduceAdd, Nat.reduceMul, Nat.reduceBEq, Option.getD_none, Int.reduceToNat, Nat.reduceSub, Nat.reduceLT, Nat.reduceLeDiff, Int.reduceLE, Int.reduceLT, reduceCtorEq]
  have h1 : s' 1 = .clo f (caps.map bindC) := by rw [ho 1 rfl]; simp only [go_sem, ↓reduceIte, Nat.reduceEqDiff, Nat.reduceAdd, Nat.reduceMul, Nat.reduceBEq, Option.getD_none, Int.reduceToNat, Nat.reduceSub, Nat.reduceLT, Nat.reduceLeDiff, Int.reduceLE, Int.reduceLT, reduceCtorEq]
  have h7 : s' 7 = aI l.length := by rw [ho 7 rfl]; simp only [go_sem, ↓reduceIte, Nat.reduceEqDiff, Nat.reduceAdd, Nat.reduceMul, Nat.reduceBEq, Option.getD_none, Int.reduceToNat, Nat.reduceSub, Nat.reduceLT, Nat.reduceLeDiff, Int.reduceLE, Int.reduceLT, reduceCtorEq]
  clear ho
  unfold slices_IndexFunc__sRule_Rule.b0
  by_cases hlt : k < l.length
  · have hi' : (k : Int) < l.length := by omega
    have ga : l[k]? = some l[k] := List.getElem?_eq_getElem hlt
    have hw : IntKind.i64.wrap (k + 1) = ((k + 1 : Nat) : Int) := wrap_k hlt (by omega)
    simp only [go_sem, ↓reduceIte, Nat.reduceEqDiff, Nat.reduceAdd, Nat.reduceMul, Nat.reduceBEq, Option.getD_none, Int.reduceToNat, Nat.reduceSub, Nat.reduceLT, Nat.reduceLeDiff, Int.reduceLE, Int.reduceLT, reduceCtorEq, h0, h1, h7, h8, hi', ga]
    refine ccl_ro (ds := [l[k].d]) (by simp only [go_sem, ↓reduceIte, Nat.reduceEqDiff, Nat.reduceAdd, Nat.reduceMul, Nat.reduceBEq, Option.getD_none, Int.reduceToNat, Nat.reduceSub, Nat.reduceLT, Nat.reduceLeDiff, Int.reduceLE, Int.reduceLT, reduceCtorEq]) ?_
    refine fcW_bool (h _ (List.getElem_mem hlt)) ?_
    cases hp : p l[k] with
    | true => simp only [go_sem, ↓reduceIte, Nat.reduceEqDiff, Nat.reduceAdd, Nat.reduceMul, Nat.reduceBEq, Option.getD_none, Int.reduceToNat, Nat.reduceSub, Nat.reduceLT, Nat.reduceLeDiff, Int.reduceLE, Int.reduceLT, reduceCtorEq, idxB_some hlt hr hp]
    | false =>
      simp only [go_sem, ↓reduceIte, Nat.reduceEqDiff, Nat.reduceAdd, Nat.reduceMul, Nat.reduceBEq, Option.getD_none, Int.reduceToNat, Nat.reduceSub, Nat.reduceLT, Nat.reduceLeDiff, Int.reduceLE, Int.reduceLT, reduceCtorEq, h8, hw]
      exact ⟨k + 1, by dsimp only; omega, by omega, by simp only [go_sem, ↓reduceIte, Nat.reduceEqDiff, Nat.reduceAdd, Nat.reduceMul, Nat.reduceBEq, Option.getD_none, Int.reduceToNat, Nat.reduceSub, Nat.reduceLT, Nat.reduceLeDiff, Int.reduceLE, Int.reduceLT, reduceCtorEq], all_take hlt hr (by simp [hp])⟩
  · have hi' : ¬ (k : Int) < l.length := by omega
    rw [List.take_of_length_le (by omega)] at hr
    simp only [go_sem, ↓reduceIte, Nat.reduceEqDiff, Nat.reduceAdd, Nat.reduceMul, Nat.reduceBEq, Option.getD_none, Int.reduceToNat, Nat.reduceSub, Nat.reduceLT, Nat.reduceLeDiff, Int.reduceLE, Int.reduceLT, reduceCtorEq, h0, h1, h7, h8, hi', idxB_none hr]
theorem slices_ContainsFunc__sRule_Rule.fc (l : List RuleD) (f : FuncId) (caps : List D) (p : RuleD → Bool) (hl : l.length ≤ 4294967296)
    (h : ∀ x ∈ l, FCt prog f (.ro :: caps.map fun _ => .ro) (x.d :: caps) (Bb (p x)) []) : FCt prog F_slices_ContainsFunc__sRule_Rule [.ro, .ro] [rules l, .clo f caps] (Bb (l.any p)) [] := by
  refine fct_run slices_ContainsFunc__sRule_Rule.ok rfl ?_
  simp only [go_sem, ↓reduceIte, Nat.reduceEqDiff, Nat.reduceAdd, Nat.reduceMul, Nat.reduceBEq, Option.getD_none, Int.reduceToNat, Nat.reduceSub, Nat.reduceLT, Nat.reduceLeDiff, Int.reduceLE, Int.reduceLT, reduceCtorEq]
  refine fcW_int (slices_IndexFunc__sRule_Rule.fc l f caps p hl h) ?_
  simp only [go_sem, ↓reduceIte, Nat.reduceEqDiff, Nat.reduceAdd, Nat.reduceMul, Nat.reduceBEq, Option.getD_none, Int.reduceToNat, Nat.reduceSub, Nat.reduceLT, Nat.reduceLeDiff, Int.reduceLE, Int.reduceLT, reduceCtorEq, ge_iff_le, idxB_any]
end Go.Vm.Ytedcnkglldmkbaa
/- Walks: valid rules; rules are compared. -/
namespace Go.Vm.Ytedcnkglldmkbaa
open Go Go.Vm
set_option maxRecDepth 10000
set_option linter.unusedSimpArgs false
set_option linter.unusedVariables false

theorem any_not {α : Type} {p : α → Bool} {l : List α} : (!l.any fun x => !p x) = l.all p := by
  induction l with
  | nil => rfl
  | cons x l ih => simp only [List.any_cons, List.all_cons, ← ih]; cases p x <;> simp
def goodRules (n : Int) (l : List RuleD) : Bool := inB n 1 12 && decide (l.length ≤ 30) && l.all (goodRule n)
theorem impl_GoodRules.fc (l : List RuleD) (n : Int) (hl : l.length ≤ 4294967296) (hr : ∀ r ∈ l, r.ifs.length ≤ 4294967296) : FCt prog F_impl_GoodRules [.ro, .ro] [Ii n, rules l] (Bb (goodRules n l)) [] := by
  refine fct_run impl_GoodRules.ok rfl ?_
  simp only [go_sem, ↓reduceIte, Nat.reduceEqDiff, Nat.reduceAdd, Nat.reduceMul, Nat.reduceBEq, Option.getD_none, Int.reduceToNat, Nat.reduceSub, Nat.reduceLT, Nat.reduceLeDiff, Int.reduceLE, Int.reduceLT, reduceCtorEq]
  refine fcW_bool (impl_in.fc _ _ _) ?_
  unfold goodRules
  cases h1 : inB n 1 12 with
  | false => simp only [go_sem, ↓reduceIte, Nat.reduceEqDiff, Nat.reduceAdd, Nat.reduceMul, Nat.reduceBEq, Option.getD_none, Int.reduceToNat, Nat.reduceSub, Nat.reduceLT, Nat.reduceLeDiff, Int.reduceLE, Int.reduceLT, reduceCtorEq]
  | true =>
    by_cases h2 : l.length ≤ 30
    · have h2' : (l.length : Int) ≤ 30 := by omega
      simp only [go_sem, ↓reduceIte, Nat.reduceEqDiff, Nat.reduceAdd, Nat.reduceMul, Nat.reduceBEq, Option.getD_none, Int.reduceToNat, Nat.reduceSub, Nat.reduceLT, Nat.reduceLeDiff, Int.reduceLE, Int.reduceLT, reduceCtorEq, h2', h2]
      refine fcW_bool (slices_ContainsFunc__sRule_Rule.fc l _ [.ptr (Ii n)] (fun r => !goodRule n r) hl fun r hm => impl_GoodRules_c1.fc r n (hr r hm)) ?_
      simp only [go_sem, ↓reduceIte, Nat.reduceEqDiff, Nat.reduceAdd, Nat.reduceMul, Nat.reduceBEq, Option.getD_none, Int.reduceToNat, Nat.reduceSub, Nat.reduceLT, Nat.reduceLeDiff, Int.reduceLE, Int.reduceLT, reduceCtorEq, any_not, h2]
    · have h2' : ¬ (l.length : Int) ≤ 30 := by omega
      simp only [go_sem, ↓reduceIte, Nat.reduceEqDiff, Nat.reduceAdd, Nat.reduceMul, Nat.reduceBEq, Option.getD_none, Int.reduceToNat, Nat.reduceSub, Nat.reduceLT, Nat.reduceLeDiff, Int.reduceLE, Int.reduceLT, reduceCtorEq, h2', h2]
theorem spec_GoodRules.fc (l : List RuleD) (n : Int) (hl : l.length ≤ 4294967296) (hr : ∀ r ∈ l, r.ifs.length ≤ 4294967296) : FCt prog F_spec_GoodRules [.ro, .ro] [Ii n, rules l] (Bb (goodRules n l)) [] := by
  refine fct_run spec_GoodRules.ok rfl ?_
  simp only [go_sem, ↓reduceIte, Nat.reduceEqDiff, Nat.reduceAdd, Nat.reduceMul, Nat.reduceBEq, Option.getD_none, Int.reduceToNat, Nat.reduceSub, Nat.reduceLT, Nat.reduceLeDiff, Int.reduceLE, Int.reduceLT, reduceCtorEq]
  refine R_loop (α := Nat) (fun k s' M' => k ≤ l.length ∧ s' 9 = aI k ∧ (l.take k).all (goodRule n) = true) (fun k => l.length - k) 0 ⟨by omega, by simp only [go_sem, ↓reduceIte, Nat.reduceEqDiff, Nat.reduceAdd, Nat.reduceMul, Nat.reduceBEq, Option.getD_none, Int.reduceToNat, Nat.reduceSub, Nat.reduceLT, Nat.reduceLeDiff, Int.reduceLE, Int.reduceLT, reduceCtorEq]; rfl, by simp⟩ ?_
  rintro k s' M' ⟨hk, h9, hp⟩ ho
  have h0 : s' 0 = aI n := by rw [ho 0 rfl]; simp only [go_sem, ↓reduceIte, Nat.reduceEqDiff, Nat.reduceAdd, Nat.reduceMul, Nat.reduceBEq, Option.getD_none, Int.reduceToNat, Nat.reduceSub, Nat.reduceLT, Nat.reduceLeDiff, Int.reduceLE, Int.reduceLT, reduceCtorEq]
  have h1 : s' 1 = .dat none (rules l) := by rw [ho 1 rfl]; simp only [go_sem, ↓reduceIte, Nat.reduceEqDiff, Nat.reduceAdd, Nat.reduceMul, Nat.reduceBEq, Option.getD_none, Int.reduceToNat, Nat.reduceSub, Nat.reduceLT, Nat.reduceLeDiff, Int.reduceLE, Int.reduceLT, reduceCtorEq]
  have h7 : s' 7 = .dat none (rules l) := by rw [ho 7 rfl]; simp only [go_sem, ↓reduceIte, Nat.reduceEqDiff, Nat.reduceAdd, Nat.reduceMul, Nat.reduceBEq, Option.getD_none, Int.reduceToNat, Nat.reduceSub, Nat.reduceLT, Nat.reduceLeDiff, Int.reduceLE, Int.reduceLT, reduceCtorEq]
  have h8 : s' 8 = aI l.length := by rw [ho 8 rfl]; simp only [go_sem, ↓reduceIte, Nat.reduceEqDiff, Nat.reduceAdd, Nat.reduceMul, Nat.reduceBEq, Option.getD_none, Int.reduceToNat, Nat.reduceSub, Nat.reduceLT, Nat.reduceLeDiff, Int.reduceLE, Int.reduceLT, reduceCtorEq]
  clear ho
  unfold spec_GoodRules.b0
  by_cases hlt : k < l.length
  · have hi' : (k : Int) < l.length := by omega
    have ga : l[k]? = some l[k] := List.getElem?_eq_getElem hlt
    have hw : IntKind.i64.wrap (k + 1) = ((k + 1 : Nat) : Int) := wrap_k hlt (by omega)
    have bad : goodRule n l[k] = false → goodRules n l = false := fun h => by simp only [goodRules, not_all hlt h, Bool.and_false]
    simp only [go_sem, ↓reduceIte, Nat.reduceEqDiff, Nat.reduceAdd, Nat.reduceMul, Nat.reduceBEq, Option.getD_none, Int.reduceToNat, Nat.reduceSub, Nat.reduceLT, Nat.reduceLeDiff, Int.reduceLE, Int.reduceLT, reduceCtorEq, h0, h1, h7, h8, h9, hi', ga]
    refine fcW_bool (spec_l16Facts.fc _ _ (hr _ (List.getElem_mem hlt))) ?_
    cases h2 : rising 1 n l[k].ifs with
    | false => simp only [go_sem, ↓reduceIte, Nat.reduceEqDiff, Nat.reduceAdd, Nat.reduceMul, Nat.reduceBEq, Option.getD_none, Int.reduceToNat, Nat.reduceSub, Nat.reduceLT, Nat.reduceLeDiff, Int.reduceLE, Int.reduceLT, reduceCtorEq, bad (by simp only [goodRule, h2, Bool.false_and])]
    | true =>
      simp only [go_sem, ↓reduceIte, Nat.reduceEqDiff, Nat.reduceAdd, Nat.reduceMul, Nat.reduceBEq, Option.getD_none, Int.reduceToNat, Nat.reduceSub, Nat.reduceLT, Nat.reduceLeDiff, Int.reduceLE, Int.reduceLT, reduceCtorEq, h0]
      refine fcW_bool (spec_l1In.fc _ _ _) ?_
      cases h3 : inB l[k].thn 0 n with
      | false => simp only [go_sem, ↓reduceIte, Nat.reduceEqDiff, Nat.reduceAdd, Nat.reduceMul, Nat.reduceBEq, Option.getD_none, Int.reduceToNat, Nat.reduceSub, Nat.reduceLT, Nat.reduceLeDiff, Int.reduceLE, Int.reduceLT, reduceCtorEq, bad (by simp only [goodRule, h3, Bool.and_false])]
      | true =>
        simp only [go_sem, ↓reduceIte, Nat.reduceEqDiff, Nat.reduceAdd, Nat.reduceMul, Nat.reduceBEq, Option.getD_none, Int.reduceToNat, Nat.reduceSub, Nat.reduceLT, Nat.reduceLeDiff, Int.reduceLE, Int.reduceLT, reduceCtorEq, h9, hw]
        exact ⟨k + 1, by dsimp only; omega, by omega, by simp only [go_sem, ↓reduceIte, Nat.reduceEqDiff, Nat.reduceAdd, Nat.reduceMul, Nat.reduceBEq, Option.getD_none, Int.reduceToNat, Nat.reduceSub, Nat.reduceLT, Nat.reduceLeDiff, Int.reduceLE, Int.reduceLT, reduceCtorEq], all_take hlt hp (by simp only [goodRule, h2, h3, Bool.and_self])⟩
  · have hi' : ¬ (k : Int) < l.length := by omega
    rw [List.take_of_length_le (by omega)] at hp
    simp only [go_sem, ↓reduceIte, Nat.reduceEqDiff, Nat.reduceAdd, Nat.reduceMul, Nat.reduceBEq, Option.getD_none, Int.reduceToNat, Nat.reduceSub, Nat.reduceLT, Nat.reduceLeDiff, Int.reduceLE, Int.reduceLT, reduceCtorEq, h0, h1, h7, h8, h9, hi']
    refine fcW_bool (spec_l1In.fc _ _ _) ?_
    unfold goodRules
    rw [hp]
    cases h1' : inB n 1 12 with
    | false => simp only [go_sem, ↓reduceIte, Nat.reduceEqDiff, Nat.reduceAdd, Nat.reduceMul, Nat.reduceBEq, Option.getD_none, Int.reduceToNat, Nat.reduceSub, Nat.reduceLT, Nat.reduceLeDiff, Int.reduceLE, Int.reduceLT, reduceCtorEq]
    | true =>
      by_cases h2 : l.length ≤ 30
      · have h2' : (l.length : Int) ≤ 30 := by omega
        simp only [go_sem, ↓reduceIte, Nat.reduceEqDiff, Nat.reduceAdd, Nat.reduceMul, Nat.reduceBEq, Option.getD_none, Int.reduceToNat, Nat.reduceSub, Nat.reduceLT, Nat.reduceLeDiff, Int.reduceLE, Int.reduceLT, reduceCtorEq, h1, h2', h2]
      · have h2' : ¬ (l.length : Int) ≤ 30 := by omega
        simp only [go_sem, ↓reduceIte, Nat.reduceEqDiff, Nat.reduceAdd, Nat.reduceMul, Nat.reduceBEq, Option.getD_none, Int.reduceToNat, Nat.reduceSub, Nat.reduceLT, Nat.reduceLeDiff, Int.reduceLE, Int.reduceLT, reduceCtorEq, h1, h2', h2]
theorem laws_eqRule.fc (a b : RuleD) (ha : a.ifs.length ≤ 4294967296) : FCt prog F_laws_eqRule [.ro, .ro] [a.d, b.d] (Bb (decide (a = b))) [] := by
  refine fct_run laws_eqRule.ok rfl ?_
  obtain ⟨ai, at'⟩ := a
  obtain ⟨bi, bt⟩ := b
  simp only [go_sem, ↓reduceIte, Nat.reduceEqDiff, Nat.reduceAdd, Nat.reduceMul, Nat.reduceBEq, Option.getD_none, Int.reduceToNat, Nat.reduceSub, Nat.reduceLT, Nat.reduceLeDiff, Int.reduceLE, Int.reduceLT, reduceCtorEq]
  refine fcW_bool (laws_eqIntS.fc _ _ ha) ?_
  by_cases h : ai = bi
  · by_cases h2 : at' = bt
    · simp only [go_sem, ↓reduceIte, Nat.reduceEqDiff, Nat.reduceAdd, Nat.reduceMul, Nat.reduceBEq, Option.getD_none, Int.reduceToNat, Nat.reduceSub, Nat.reduceLT, Nat.reduceLeDiff, Int.reduceLE, Int.reduceLT, reduceCtorEq, h, h2]
    · have h3 : (at' != bt) = true := by simpa using h2
      simp only [go_sem, ↓reduceIte, Nat.reduceEqDiff, Nat.reduceAdd, Nat.reduceMul, Nat.reduceBEq, Option.getD_none, Int.reduceToNat, Nat.reduceSub, Nat.reduceLT, Nat.reduceLeDiff, Int.reduceLE, Int.reduceLT, reduceCtorEq, h, h3, RuleD.mk.injEq, h2]
  · simp only [go_sem, ↓reduceIte, Nat.reduceEqDiff, Nat.reduceAdd, Nat.reduceMul, Nat.reduceBEq, Option.getD_none, Int.reduceToNat, Nat.reduceSub, Nat.reduceLT, Nat.reduceLeDiff, Int.reduceLE, Int.reduceLT, reduceCtorEq, h, RuleD.mk.injEq]
theorem laws_eqRuleS.fc (a b : List RuleD) (hb : a.length ≤ 4294967296) (hr : ∀ r ∈ a, r.ifs.length ≤ 4294967296) : FCt prog F_laws_eqRuleS [.ro, .ro] [rules a, rules b] (Bb (decide (a = b))) [] := by
  refine fct_run laws_eqRuleS.ok rfl ?_
  by_cases h : a.length = b.length
  · simp only [go_sem, ↓reduceIte, Nat.reduceEqDiff, Nat.reduceAdd, Nat.reduceMul, Nat.reduceBEq, Option.getD_none, Int.reduceToNat, Nat.reduceSub, Nat.reduceLT, Nat.reduceLeDiff, Int.reduceLE, Int.reduceLT, reduceCtorEq, h]
    refine R_loop (α := Nat) (fun k s' M' => k ≤ a.length ∧ s' 5 = aI k ∧ a.take k = b.take k) (fun k => a.length - k) 0 ⟨by omega, by simp only [go_sem, ↓reduceIte, Nat.reduceEqDiff, Nat.reduceAdd, Nat.reduceMul, Nat.reduceBEq, Option.getD_none, Int.reduceToNat, Nat.reduceSub, Nat.reduceLT, Nat.reduceLeDiff, Int.reduceLE, Int.reduceLT, reduceCtorEq]; rfl, by simp⟩ ?_
    rintro k s' M' ⟨hk, h5, hp⟩ ho
    have h0 : s' 0 = .dat none (rules a) := by rw [ho 0 rfl]; simp only [go_sem, ↓reduceIte, Nat.reduceEqDiff, Nat.reduceAdd, Nat.reduceMul, Nat.reduceBEq, Option.getD_none, Int.reduceToNat, Nat.reduceSub, Nat.reduceLT, Nat.reduceLeDiff, Int.reduceLE, Int.reduceLT, reduceCtorEq]
    have h1 : s' 1 = .dat none (rules b) := by rw [ho 1 rfl]; simp only [go_sem, ↓reduceIte, Nat.reduceEqDiff, Nat.reduceAdd, Nat.reduceMul, Nat.reduceBEq, Option.getD_none, Int.reduceToNat, Nat.reduceSub, Nat.reduceLT, Nat.reduceLeDiff, Int.reduceLE, Int.reduceLT, reduceCtorEq]
    clear ho
    unfold laws_eqRuleS.b0
    by_cases hlt : k < a.length
    · have hi : (k : Int) < b.length := by omega
      have ga : a[k]? = some a[k] := List.getElem?_eq_getElem hlt
      have gb : b[k]? = some b[k] := List.getElem?_eq_getElem (by omega)
      have hw : IntKind.i64.wrap (k + 1) = ((k + 1 : Nat) : Int) := wrap_k hlt (by omega)
      simp only [go_sem, ↓reduceIte, Nat.reduceEqDiff, Nat.reduceAdd, Nat.reduceMul, Nat.reduceBEq, Option.getD_none, Int.reduceToNat, Nat.reduceSub, Nat.reduceLT, Nat.reduceLeDiff, Int.reduceLE, Int.reduceLT, reduceCtorEq, h5, h0, h1, hi, ga, gb, h]
      refine fcW_bool (laws_eqRule.fc _ _ (hr _ (List.getElem_mem hlt))) ?_
      by_cases e : a[k] = b[k]
      · simp only [go_sem, ↓reduceIte, Nat.reduceEqDiff, Nat.reduceAdd, Nat.reduceMul, Nat.reduceBEq, Option.getD_none, Int.reduceToNat, Nat.reduceSub, Nat.reduceLT, Nat.reduceLeDiff, Int.reduceLE, Int.reduceLT, reduceCtorEq, e, h5, hw]
        exact ⟨k + 1, by dsimp only; omega, by omega, by simp only [go_sem, ↓reduceIte, Nat.reduceEqDiff, Nat.reduceAdd, Nat.reduceMul, Nat.reduceBEq, Option.getD_none, Int.reduceToNat, Nat.reduceSub, Nat.reduceLT, Nat.reduceLeDiff, Int.reduceLE, Int.reduceLT, reduceCtorEq], by rw [take_succ' hlt, take_succ' (by omega), hp, e]⟩
      · have : a ≠ b := fun hh => by subst hh; exact e rfl
        simp only [go_sem, ↓reduceIte, Nat.reduceEqDiff, Nat.reduceAdd, Nat.reduceMul, Nat.reduceBEq, Option.getD_none, Int.reduceToNat, Nat.reduceSub, Nat.reduceLT, Nat.reduceLeDiff, Int.reduceLE, Int.reduceLT, reduceCtorEq, e, this]
    · have hi : ¬ (k : Int) < b.length := by omega
      have hab : a = b := by
        rw [List.take_of_length_le (by omega), List.take_of_length_le (by omega)] at hp
        exact hp
      simp only [go_sem, ↓reduceIte, Nat.reduceEqDiff, Nat.reduceAdd, Nat.reduceMul, Nat.reduceBEq, Option.getD_none, Int.reduceToNat, Nat.reduceSub, Nat.reduceLT, Nat.reduceLeDiff, Int.reduceLE, Int.reduceLT, reduceCtorEq, h5, h0, h1, hi, h, hab]
  · have hne : ((a.length : Int) != (b.length : Int)) = true := by simp; omega
    have hab : a ≠ b := fun hh => h (by rw [hh])
    simp only [go_sem, ↓reduceIte, Nat.reduceEqDiff, Nat.reduceAdd, Nat.reduceMul, Nat.reduceBEq, Option.getD_none, Int.reduceToNat, Nat.reduceSub, Nat.reduceLT, Nat.reduceLeDiff, Int.reduceLE, Int.reduceLT, reduceCtorEq, hne, hab]
end Go.Vm.Ytedcnkglldmkbaa
/- Walks: results are marked and read again. -/
namespace Go.Vm.Ytedcnkglldmkbaa
open Go Go.Vm
set_option maxRecDepth 10000
set_option linter.unusedSimpArgs false
set_option linter.unusedVariables false

theorem laws_markIntS.fc (l : List Int) (n : Int) (hl : l.length ≤ 4294967296) (hn : 0 ≤ n ∧ n ≤ 1152921504606846976) :
    FCt prog F_laws_markIntS [.io, .ro] [ints l, Ii n] (Ii (n + l.length)) [ints (upFrom n l.length)] := by
  refine fct_run laws_markIntS.ok rfl ?_
  have hL : ((upFrom n l.length).map Ii).length = (l.map Ii).length := by simp [upFrom_len]
  simp only [go_sem, ↓reduceIte, Nat.reduceEqDiff, Nat.reduceAdd, Nat.reduceMul, Nat.reduceBEq, Option.getD_none, Int.reduceToNat, Nat.reduceSub, Nat.reduceLT, Nat.reduceLeDiff, Int.reduceLE, Int.reduceLT, reduceCtorEq]
  refine R_loop (α := Nat) (fun k s' M' => k ≤ l.length ∧ s' 5 = aI k ∧ s' 1 = aI (n + k) ∧ M'.m 0 = some (.arr 0 true 1 (ovr ((upFrom n l.length).map Ii) (l.map Ii) k))) (fun k => l.length - k) 0
    ⟨by omega, by simp only [go_sem, ↓reduceIte, Nat.reduceEqDiff, Nat.reduceAdd, Nat.reduceMul, Nat.reduceBEq, Option.getD_none, Int.reduceToNat, Nat.reduceSub, Nat.reduceLT, Nat.reduceLeDiff, Int.reduceLE, Int.reduceLT, reduceCtorEq]; rfl, by simp only [go_sem, ↓reduceIte, Nat.reduceEqDiff, Nat.reduceAdd, Nat.reduceMul, Nat.reduceBEq, Option.getD_none, Int.reduceToNat, Nat.reduceSub, Nat.reduceLT, Nat.reduceLeDiff, Int.reduceLE, Int.reduceLT, reduceCtorEq]; simp, by simp only [go_sem, ↓reduceIte, Nat.reduceEqDiff, Nat.reduceAdd, Nat.reduceMul, Nat.reduceBEq, Option.getD_none, Int.reduceToNat, Nat.reduceSub, Nat.reduceLT, Nat.reduceLeDiff, Int.reduceLE, Int.reduceLT, reduceCtorEq]; simp [ovr_zero]⟩ ?_
  rintro k s' M' ⟨hk, h5, h1, hm⟩ ho
  have h0 : s' 0 = .sl 0 0 0 l.length 1 := by rw [ho 0 rfl]; simp only [go_sem, ↓reduceIte, Nat.reduceEqDiff, Nat.reduceAdd, Nat.reduceMul, Nat.reduceBEq, Option.getD_none, Int.reduceToNat, Nat.reduceSub, Nat.reduceLT, Nat.reduceLeDiff, Int.reduceLE, Int.reduceLT, reduceCtorEq]
  clear ho
  unfold laws_markIntS.b0
  by_cases hlt : k < l.length
  · have hi : (k : Int) < l.length := by omega
    have hw : IntKind.i64.wrap (k + 1) = ((k + 1 : Nat) : Int) := wrap_k hlt (by omega)
    have hw2 : IntKind.i64.wrap (n + k + 1) = n + (k + 1 : Nat) := by rw [wrap_in (by omega) (by omega)]; omega
    have hg : (ovr ((upFrom n l.length).map Ii) (l.map Ii) k)[k]? = some (Ii l[k]) := by rw [ovr_get hL (by simpa using hlt)]; simp [hlt]
    have hs : (ovr ((upFrom n l.length).map Ii) (l.map Ii) k).set k (Ii (n + k)) = ovr ((upFrom n l.length).map Ii) (l.map Ii) (k + 1) := ovr_set hL (by simpa using hlt) (by simp [upFrom_get hlt])
    simp only [go_sem, ↓reduceIte, Nat.reduceEqDiff, Nat.reduceAdd, Nat.reduceMul, Nat.reduceBEq, Option.getD_none, Int.reduceToNat, Nat.reduceSub, Nat.reduceLT, Nat.reduceLeDiff, Int.reduceLE, Int.reduceLT, reduceCtorEq, h0, h1, h5, hm, hi, hw, hw2, hg, hs]
    exact ⟨k + 1, by dsimp only; omega, by omega, by simp only [go_sem, ↓reduceIte, Nat.reduceEqDiff, Nat.reduceAdd, Nat.reduceMul, Nat.reduceBEq, Option.getD_none, Int.reduceToNat, Nat.reduceSub, Nat.reduceLT, Nat.reduceLeDiff, Int.reduceLE, Int.reduceLT, reduceCtorEq], by simp only [go_sem, ↓reduceIte, Nat.reduceEqDiff, Nat.reduceAdd, Nat.reduceMul, Nat.reduceBEq, Option.getD_none, Int.reduceToNat, Nat.reduceSub, Nat.reduceLT, Nat.reduceLeDiff, Int.reduceLE, Int.reduceLT, reduceCtorEq], by simp only [go_sem, ↓reduceIte, Nat.reduceEqDiff, Nat.reduceAdd, Nat.reduceMul, Nat.reduceBEq, Option.getD_none, Int.reduceToNat, Nat.reduceSub, Nat.reduceLT, Nat.reduceLeDiff, Int.reduceLE, Int.reduceLT, reduceCtorEq]⟩
  · have hi : ¬ (k : Int) < l.length := by omega
    have hkl : k = l.length := by omega
    subst hkl
    have hall : ovr ((upFrom n l.length).map Ii) (l.map Ii) l.length = (upFrom n l.length).map Ii := by have := ovr_all hL; simpa using this
    simp only [go_sem, ↓reduceIte, Nat.reduceEqDiff, Nat.reduceAdd, Nat.reduceMul, Nat.reduceBEq, Option.getD_none, Int.reduceToNat, Nat.reduceSub, Nat.reduceLT, Nat.reduceLeDiff, Int.reduceLE, Int.reduceLT, reduceCtorEq, h0, h1, h5, hm, hi, hall, upFrom_len]
    simp [upFrom_len, List.take_of_length_le]
theorem laws_heldIntS.fc (n : Int) (m : Nat) (hl : m ≤ 4294967296) (hn : 0 ≤ n ∧ n ≤ 1152921504606846976) :
    FCt prog F_laws_heldIntS [.ro, .ro] [ints (upFrom n m), Ii n] (Ii (n + m)) [] := by
  refine fct_run laws_heldIntS.ok rfl ?_
  simp only [go_sem, ↓reduceIte, Nat.reduceEqDiff, Nat.reduceAdd, Nat.reduceMul, Nat.reduceBEq, Option.getD_none, Int.reduceToNat, Nat.reduceSub, Nat.reduceLT, Nat.reduceLeDiff, Int.reduceLE, Int.reduceLT, reduceCtorEq]
  refine R_loop (α := Nat) (fun k s' M' => k ≤ m ∧ s' 5 = aI k ∧ s' 1 = aI (n + k)) (fun k => m - k) 0 ⟨by omega, by simp only [go_sem, ↓reduceIte, Nat.reduceEqDiff, Nat.reduceAdd, Nat.reduceMul, Nat.reduceBEq, Option.getD_none, Int.reduceToNat, Nat.reduceSub, Nat.reduceLT, Nat.reduceLeDiff, Int.reduceLE, Int.reduceLT, reduceCtorEq]; rfl, by simp only [go_sem, ↓reduceIte, Nat.reduceEqDiff, Nat.reduceAdd, Nat.reduceMul, Nat.reduceBEq, Option.getD_none, Int.reduceToNat, Nat.reduceSub, Nat.reduceLT, Nat.reduceLeDiff, Int.reduceLE, Int.reduceLT, reduceCtorEq]; simp⟩ ?_
  rintro k s' M' ⟨hk, h5, h1⟩ ho
  have h0 : s' 0 = .dat none (ints (upFrom n m)) := by rw [ho 0 rfl]; simp only [go_sem, ↓reduceIte, Nat.reduceEqDiff, Nat.reduceAdd, Nat.reduceMul, Nat.reduceBEq, Option.getD_none, Int.reduceToNat, Nat.reduceSub, Nat.reduceLT, Nat.reduceLeDiff, Int.reduceLE, Int.reduceLT, reduceCtorEq]
  clear ho
  unfold laws_heldIntS.b0
  by_cases hlt : k < m
  · have hi : (k : Int) < m := by omega
    have hw : IntKind.i64.wrap (k + 1) = ((k + 1 : Nat) : Int) := wrap_k hlt (by omega)
    have hw2 : IntKind.i64.wrap (n + k + 1) = n + (k + 1 : Nat) := by rw [wrap_in (by omega) (by omega)]; omega
    simp only [go_sem, ↓reduceIte, Nat.reduceEqDiff, Nat.reduceAdd, Nat.reduceMul, Nat.reduceBEq, Option.getD_none, Int.reduceToNat, Nat.reduceSub, Nat.reduceLT, Nat.reduceLeDiff, Int.reduceLE, Int.reduceLT, reduceCtorEq, h0, h1, h5, hi, hw, hw2, upFrom_len, upFrom_get hlt]
    exact ⟨k + 1, by dsimp only; omega, by omega, by simp only [go_sem, ↓reduceIte, Nat.reduceEqDiff, Nat.reduceAdd, Nat.reduceMul, Nat.reduceBEq, Option.getD_none, Int.reduceToNat, Nat.reduceSub, Nat.reduceLT, Nat.reduceLeDiff, Int.reduceLE, Int.reduceLT, reduceCtorEq], by simp only [go_sem, ↓reduceIte, Nat.reduceEqDiff, Nat.reduceAdd, Nat.reduceMul, Nat.reduceBEq, Option.getD_none, Int.reduceToNat, Nat.reduceSub, Nat.reduceLT, Nat.reduceLeDiff, Int.reduceLE, Int.reduceLT, reduceCtorEq]⟩
  · have hi : ¬ (k : Int) < m := by omega
    have hkl : k = m := by omega
    subst hkl
    simp only [go_sem, ↓reduceIte, Nat.reduceEqDiff, Nat.reduceAdd, Nat.reduceMul, Nat.reduceBEq, Option.getD_none, Int.reduceToNat, Nat.reduceSub, Nat.reduceLT, Nat.reduceLeDiff, Int.reduceLE, Int.reduceLT, reduceCtorEq, h0, h1, h5, hi, upFrom_len]
end Go.Vm.Ytedcnkglldmkbaa
/- Walks: rows of rows; clauses. -/
namespace Go.Vm.Ytedcnkglldmkbaa
open Go Go.Vm
set_option maxRecDepth 10000
set_option linter.unusedSimpArgs false
set_option linter.unusedVariables false

abbrev intss (l : List (List Int)) : D := .sl 1 (l.map ints)
theorem noRs_intss {l : List (List Int)} : noRs (intss l) = true := noRs_sl (by
  intro d hd
  obtain ⟨r, _, rfl⟩ := List.mem_map.1 hd
  exact noRs_ints)
theorem slices_IndexFunc__sint_int.fc (l : List Int) (f : FuncId) (caps : List D) (p : Int → Bool) (hl : l.length ≤ 4294967296)
    (h : ∀ x ∈ l, FCt prog f (.ro :: caps.map fun _ => .ro) (Ii x :: caps) (Bb (p x)) []) : FCt prog F_slices_IndexFunc__sint_int [.ro, .ro] [ints l, .clo f caps] (Ii (idxB p l)) [] := by
  refine fct_run slices_IndexFunc__sint_int.ok rfl ?_
  simp only [go_sem, ↓reduceIte, Nat.reduceEqDiff, Nat.reduceAdd, Nat.reduceMul, Nat.reduceBEq, Option.getD_none, Int.reduceToNat, Nat.reduceSub, Nat.reduceLT, Nat.reduceLeDiff, Int.reduceLE, Int.reduceLT, reduceCtorEq]
  refine R_loop (α := Nat) (fun k s' M' => k ≤ l.length ∧ s' 8 = aI k ∧ (l.take k).all (fun x => !p x) = true) (fun k => l.length - k) 0 ⟨by omega, by simp only [go_sem, ↓reduceIte, Nat.reduceEqDiff, Nat.reduceAdd, Nat.reduceMul, Nat.reduceBEq, Option.getD_none, Int.reduceToNat, Nat.reduceSub, Nat.reduceLT, Nat.reduceLeDiff, Int.reduceLE, Int.reduceLT, reduceCtorEq]; rfl, by simp⟩ ?_
  rintro k s' M' ⟨hk, h8, hr⟩ ho
  have h0 : s' 0 = .dat none (ints l) := by rw [ho 0 rfl]; simp only [go_sem, ↓reduceIte, Nat.reduceEqDiff, Nat.reduceAdd, Nat.reduceMul, Nat.reduceBEq, Option.getD_none, Int.reduceToNat, Nat.reduceSub, Nat.reduceLT, Nat.reduceLeDiff, Int.reduceLE, Int.reduceLT, reduceCtorEq]
  have h1 : s' 1 = .clo f (caps.map bindC) := by rw [ho 1 rfl]; simp only [go_sem, ↓reduceIte, Nat.reduceEqDiff, Nat.reduceAdd, Nat.reduceMul, Nat.reduceBEq, Option.getD_none, Int.reduceToNat, Nat.reduceSub, Nat.reduceLT, Nat.reduceLeDiff, Int.reduceLE, Int.reduceLT, reduceCtorEq]
  have h7 : s' 7 = aI l.length := by rw [ho 7 rfl]; simp only [go_sem, ↓reduceIte, Nat.reduceEqDiff, Nat.reduceAdd, Nat.reduceMul, Nat.reduceBEq, Option.getD_none, Int.reduceToNat, Nat.reduceSub, Nat.reduceLT, Nat.reduceLeDiff, Int.reduceLE, Int.reduceLT, reduceCtorEq]
  clear ho
  unfold slices_IndexFunc__sint_int.b0
  by_cases hlt : k < l.length
  · have hi' : (k : Int) < l.length := by omega
    have ga : l[k]? = some l[k] := List.getElem?_eq_getElem hlt
    have hw : IntKind.i64.wrap (k + 1) = ((k + 1 : Nat) : Int) := wrap_k hlt (by omega)
    simp only [go_sem, ↓reduceIte, Nat.reduceEqDiff, Nat.reduceAdd, Nat.reduceMul, Nat.reduceBEq, Option.getD_none, Int.reduceToNat, Nat.reduceSub, Nat.reduceLT, Nat.reduceLeDiff, Int.reduceLE, Int.reduceLT, reduceCtorEq, h0, h1, h7, h8, hi', ga]
    refine ccl_ro (ds := [Ii l[k]]) (by simp only [go_sem, ↓reduceIte, Nat.reduceEqDiff, Nat.reduceAdd, Nat.reduceMul, Nat.reduceBEq, Option.getD_none, Int.reduceToNat, Nat.reduceSub, Nat.reduceLT, Nat.reduceLeDiff, Int.reduceLE, Int.reduceLT, reduceCtorEq]) ?_
    refine fcW_bool (h _ (List.getElem_mem hlt)) ?_
    cases hp : p l[k] with
    | true => simp only [go_sem, ↓reduceIte, Nat.reduceEqDiff, Nat.reduceAdd, Nat.reduceMul, Nat.reduceBEq, Option.getD_none, Int.reduceToNat, Nat.reduceSub, Nat.reduceLT, Nat.reduceLeDiff, Int.reduceLE, Int.reduceLT, reduceCtorEq, idxB_some hlt hr hp]
    | false =>
      simp only [go_sem, ↓reduceIte, Nat.reduceEqDiff, Nat.reduceAdd, Nat.reduceMul, Nat.reduceBEq, Option.getD_none, Int.reduceToNat, Nat.reduceSub, Nat.reduceLT, Nat.reduceLeDiff, Int.reduceLE, Int.reduceLT, reduceCtorEq, h8, hw]
      exact ⟨k + 1, by dsimp only; omega, by omega, by simp only [go_sem, ↓reduceIte, Nat.reduceEqDiff, Nat.reduceAdd, Nat.reduceMul, Nat.reduceBEq, Option.getD_none, Int.reduceToNat, Nat.reduceSub, Nat.reduceLT, Nat.reduceLeDiff, Int.reduceLE, Int.reduceLT, reduceCtorEq], all_take hlt hr (by simp [hp])⟩
  · have hi' : ¬ (k : Int) < l.length := by omega
    rw [List.take_of_length_le (by omega)] at hr
    simp only [go_sem, ↓reduceIte, Nat.reduceEqDiff, Nat.reduceAdd, Nat.reduceMul, Nat.reduceBEq, Option.getD_none, Int.reduceToNat, Nat.reduceSub, Nat.reduceLT, Nat.reduceLeDiff, Int.reduceLE, Int.reduceLT, reduceCtorEq, h0, h1, h7, h8, hi', idxB_none hr]
theorem slices_ContainsFunc__sint_int.fc (l : List Int) (f : FuncId) (caps : List D) (p : Int → Bool) (hl : l.length ≤ 4294967296)
    (h : ∀ x ∈ l, FCt prog f (.ro :: caps.map fun _ => .ro) (Ii x :: caps) (Bb (p x)) []) : FCt prog F_slices_ContainsFunc__sint_int [.ro, .ro] [ints l, .clo f caps] (Bb (l.any p)) [] := by
  refine fct_run slices_ContainsFunc__sint_int.ok rfl ?_
  simp only [go_sem, ↓reduceIte, Nat.reduceEqDiff, Nat.reduceAdd, Nat.reduceMul, Nat.reduceBEq, Option.getD_none, Int.reduceToNat, Nat.reduceSub, Nat.reduceLT, Nat.reduceLeDiff, Int.reduceLE, Int.reduceLT, reduceCtorEq]
  refine fcW_int (slices_IndexFunc__sint_int.fc l f caps p hl h) ?_
  simp only [go_sem, ↓reduceIte, Nat.reduceEqDiff, Nat.reduceAdd, Nat.reduceMul, Nat.reduceBEq, Option.getD_none, Int.reduceToNat, Nat.reduceSub, Nat.reduceLT, Nat.reduceLeDiff, Int.reduceLE, Int.reduceLT, reduceCtorEq, ge_iff_le, idxB_any]

theorem slices_IndexFunc__ssint_sint.fc (l : List (List Int)) (f : FuncId) (caps : List D) (p : (List Int) → Bool) (hl : l.length ≤ 4294967296)
    (h : ∀ x ∈ l, FCt prog f (.ro :: caps.map fun _ => .ro) (ints x :: caps) (Bb (p x)) []) : FCt prog F_slices_IndexFunc__ssint_sint [.ro, .ro] [intss l, .clo f caps] (Ii (idxB p l)) [] := by
  refine fct_run slices_IndexFunc__ssint_sint.ok rfl ?_
  simp only [go_sem, ↓reduceIte, Nat.reduceEqDiff, Nat.reduceAdd, Nat.reduceMul, Nat.reduceBEq, Option.getD_none, Int.reduceToNat, Nat.reduceSub, Nat.reduceLT, Nat.reduceLeDiff, Int.reduceLE, Int.reduceLT, reduceCtorEq]
  refine R_loop (α := Nat) (fun k s' M' => k ≤ l.length ∧ s' 8 = aI k ∧ (l.take k).all (fun x => !p x) = true) (fun k => l.length - k) 0 ⟨by omega, by simp only [go_sem, ↓reduceIte, Nat.reduceEqDiff, Nat.reduceAdd, Nat.reduceMul, Nat.reduceBEq, Option.getD_none, Int.reduceToNat, Nat.reduceSub, Nat.reduceLT, Nat.reduceLeDiff, Int.reduceLE, Int.reduceLT, reduceCtorEq]; rfl, by simp⟩ ?_
  rintro k s' M' ⟨hk, h8, hr⟩ ho
  have h0 : s' 0 = .dat none (intss l) := by rw [ho 0 rfl]; simp only [go_sem, ↓reduceIte, Nat.reduceEqDiff, Nat.reduceAdd, Nat.reduceMul, Nat.reduceBEq, Option.getD_none, Int.reduceToNat, Nat.reduceSub, Nat.reduceLT, Nat.reduceLeDiff, Int.reduceLE, Int.reduceLT, reduceCtorEq]
  have h1 : s' 1 = .clo f (caps.map bindC) := by rw [ho 1 rfl]; simp only [go_sem, ↓reduceIte, Nat.reduceEqDiff, Nat.reduceAdd, Nat.reduceMul, Nat.reduceBEq, Option.getD_none, Int.reduceToNat, Nat.reduceSub, Nat.reduceLT, Nat.reduceLeDiff, Int.reduceLE, Int.reduceLT, reduceCtorEq]
  have h7 : s' 7 = aI l.length := by rw [ho 7 rfl]; simp only [go_sem, ↓reduceIte, Nat.reduceEqDiff, Nat.reduceAdd, Nat.reduceMul, Nat.reduceBEq, Option.getD_none, Int.reduceToNat, Nat.reduceSub, Nat.reduceLT, Nat.reduceLeDiff, Int.reduceLE, Int.reduceLT, reduceCtorEq]
  clear ho
  unfold slices_IndexFunc__ssint_sint.b0
  by_cases hlt : k < l.length
  · have hi' : (k : Int) < l.length := by omega
    have ga : l[k]? = some l[k] := List.getElem?_eq_getElem hlt
    have hw : IntKind.i64.wrap (k + 1) = ((k + 1 : Nat) : Int) := wrap_k hlt (by omega)
    simp only [go_sem, ↓reduceIte, Nat.reduceEqDiff, Nat.reduceAdd, Nat.reduceMul, Nat.reduceBEq, Option.getD_none, Int.reduceToNat, Nat.reduceSub, Nat.reduceLT, Nat.reduceLeDiff, Int.reduceLE, Int.reduceLT, reduceCtorEq, h0, h1, h7, h8, hi', ga]
    refine ccl_ro (ds := [ints l[k]]) (by simp only [go_sem, ↓reduceIte, Nat.reduceEqDiff, Nat.reduceAdd, Nat.reduceMul, Nat.reduceBEq, Option.getD_none, Int.reduceToNat, Nat.reduceSub, Nat.reduceLT, Nat.reduceLeDiff, Int.reduceLE, Int.reduceLT, reduceCtorEq]) ?_
    refine fcW_bool (h _ (List.getElem_mem hlt)) ?_
    cases hp : p l[k] with
    | true => simp only [go_sem, ↓reduceIte, Nat.reduceEqDiff, Nat.reduceAdd, Nat.reduceMul, Nat.reduceBEq, Option.getD_none, Int.reduceToNat, Nat.reduceSub, Nat.reduceLT, Nat.reduceLeDiff, Int.reduceLE, Int.reduceLT, reduceCtorEq, idxB_some hlt hr hp]
    | false =>
      simp only [go_sem, ↓reduceIte, Nat.reduceEqDiff, Nat.reduceAdd, Nat.reduceMul, Nat.reduceBEq, Option.getD_none, Int.reduceToNat, Nat.reduceSub, Nat.reduceLT, Nat.reduceLeDiff, Int.reduceLE, Int.reduceLT, reduceCtorEq, h8, hw]
      exact ⟨k + 1, by dsimp only; omega, by omega, by simp only [go_sem, ↓reduceIte, Nat.reduceEqDiff, Nat.reduceAdd, Nat.reduceMul, Nat.reduceBEq, Option.getD_none, Int.reduceToNat, Nat.reduceSub, Nat.reduceLT, Nat.reduceLeDiff, Int.reduceLE, Int.reduceLT, reduceCtorEq], all_take hlt hr (by simp [hp])⟩
  · have hi' : ¬ (k : Int) < l.length := by omega
    rw [List.take_of_length_le (by omega)] at hr
    simp only [go_sem, ↓reduceIte, Nat.reduceEqDiff, Nat.reduceAdd, Nat.reduceMul, Nat.reduceBEq, Option.getD_none, Int.reduceToNat, Nat.reduceSub, Nat.reduceLT, Nat.reduceLeDiff, Int.reduceLE, Int.reduceLT, reduceCtorEq, h0, h1, h7, h8, hi', idxB_none hr]
theorem slices_ContainsFunc__ssint_sint.fc (l : List (List Int)) (f : FuncId) (caps : List D) (p : (List Int) → Bool) (hl : l.length ≤ 4294967296)
    (h : ∀ x ∈ l, FCt prog f (.ro :: caps.map fun _ => .ro) (ints x :: caps) (Bb (p x)) []) : FCt prog F_slices_ContainsFunc__ssint_sint [.ro, .ro] [intss l, .clo f caps] (Bb (l.any p)) [] := by
  refine fct_run slices_ContainsFunc__ssint_sint.ok rfl ?_
  simp only [go_sem, ↓reduceIte, Nat.reduceEqDiff, Nat.reduceAdd, Nat.reduceMul, Nat.reduceBEq, Option.getD_none, Int.reduceToNat, Nat.reduceSub, Nat.reduceLT, Nat.reduceLeDiff, Int.reduceLE, Int.reduceLT, reduceCtorEq]
  refine fcW_int (slices_IndexFunc__ssint_sint.fc l f caps p hl h) ?_
  simp only [go_sem, ↓reduceIte, Nat.reduceEqDiff, Nat.reduceAdd, Nat.reduceMul, Nat.reduceBEq, Option.getD_none, Int.reduceToNat, Nat.reduceSub, Nat.reduceLT, Nat.reduceLeDiff, Int.reduceLE, Int.reduceLT, reduceCtorEq, ge_iff_le, idxB_any]

theorem laws_toIntSS.fc (l : List (List Int)) (hl : l.length ≤ 4294967296) (hr : ∀ r ∈ l, r.length ≤ 4294967296) : FCt prog F_laws_toIntSS [.ro] [intss l] (intss l) [] := by
  refine fct_run laws_toIntSS.ok rfl ?_
  have c1 : (l.length : Int) * (24 : Nat) ≤ 70368744177664 := by omega
  simp only [go_sem, ↓reduceIte, Nat.reduceEqDiff, Nat.reduceAdd, Nat.reduceMul, Nat.reduceBEq, Option.getD_none, Int.reduceToNat, Nat.reduceSub, Nat.reduceLT, Nat.reduceLeDiff, Int.reduceLE, Int.reduceLT, reduceCtorEq, Int.le_refl, c1]
  refine R_loop (α := Nat) (fun k s' M' => k ≤ l.length ∧ s' 4 = aI k ∧ ∃ v, s' 3 = .sl 256 v 0 l.length 1 ∧ M'.m 256 = some (.arr v true 1 (fill ints (.sl 1 []) l k))) (fun k => l.length - k) 0
    ⟨by omega, by simp only [go_sem, ↓reduceIte, Nat.reduceEqDiff, Nat.reduceAdd, Nat.reduceMul, Nat.reduceBEq, Option.getD_none, Int.reduceToNat, Nat.reduceSub, Nat.reduceLT, Nat.reduceLeDiff, Int.reduceLE, Int.reduceLT, reduceCtorEq]; rfl, _, by simp only [go_sem, ↓reduceIte, Nat.reduceEqDiff, Nat.reduceAdd, Nat.reduceMul, Nat.reduceBEq, Option.getD_none, Int.reduceToNat, Nat.reduceSub, Nat.reduceLT, Nat.reduceLeDiff, Int.reduceLE, Int.reduceLT, reduceCtorEq]; rfl, by simp only [go_sem, ↓reduceIte, Nat.reduceEqDiff, Nat.reduceAdd, Nat.reduceMul, Nat.reduceBEq, Option.getD_none, Int.reduceToNat, Nat.reduceSub, Nat.reduceLT, Nat.reduceLeDiff, Int.reduceLE, Int.reduceLT, reduceCtorEq]; rw [fill_zero]⟩ ?_
  rintro k s' M' ⟨hk, h4, v, h3, hm⟩ ho
  have h0 : s' 0 = .dat none (intss l) := by rw [ho 0 rfl]; simp only [go_sem, ↓reduceIte, Nat.reduceEqDiff, Nat.reduceAdd, Nat.reduceMul, Nat.reduceBEq, Option.getD_none, Int.reduceToNat, Nat.reduceSub, Nat.reduceLT, Nat.reduceLeDiff, Int.reduceLE, Int.reduceLT, reduceCtorEq]
  clear ho
  unfold laws_toIntSS.b0
  by_cases hlt : k < l.length
  · have hi' : (k : Int) < l.length := by omega
    have ga : l[k]? = some l[k] := List.getElem?_eq_getElem hlt
    have hw : IntKind.i64.wrap (k + 1) = ((k + 1 : Nat) : Int) := wrap_k hlt (by omega)
    have hf := fill_get (f := ints) (z := (.sl 1 [])) hlt
    simp only [go_sem, ↓reduceIte, Nat.reduceEqDiff, Nat.reduceAdd, Nat.reduceMul, Nat.reduceBEq, Option.getD_none, Int.reduceToNat, Nat.reduceSub, Nat.reduceLT, Nat.reduceLeDiff, Int.reduceLE, Int.reduceLT, reduceCtorEq, h4, h3, h0, hi', ga, hw, hm, hf]
    refine fcW_bd (laws_toIntS.fc _ (hr _ (List.getElem_mem hlt))) (noRs_ints) ?_
    simp only [go_sem, ↓reduceIte, Nat.reduceEqDiff, Nat.reduceAdd, Nat.reduceMul, Nat.reduceBEq, Option.getD_none, Int.reduceToNat, Nat.reduceSub, Nat.reduceLT, Nat.reduceLeDiff, Int.reduceLE, Int.reduceLT, reduceCtorEq, h4, h3, h0, hi', ga, hw, hm, hf, take_map_len]
    refine ⟨k + 1, by dsimp only; omega, by omega, by simp only [go_sem, ↓reduceIte, Nat.reduceEqDiff, Nat.reduceAdd, Nat.reduceMul, Nat.reduceBEq, Option.getD_none, Int.reduceToNat, Nat.reduceSub, Nat.reduceLT, Nat.reduceLeDiff, Int.reduceLE, Int.reduceLT, reduceCtorEq], v, by simp only [go_sem, ↓reduceIte, Nat.reduceEqDiff, Nat.reduceAdd, Nat.reduceMul, Nat.reduceBEq, Option.getD_none, Int.reduceToNat, Nat.reduceSub, Nat.reduceLT, Nat.reduceLeDiff, Int.reduceLE, Int.reduceLT, reduceCtorEq, h3], by simp only [go_sem, ↓reduceIte, Nat.reduceEqDiff, Nat.reduceAdd, Nat.reduceMul, Nat.reduceBEq, Option.getD_none, Int.reduceToNat, Nat.reduceSub, Nat.reduceLT, Nat.reduceLeDiff, Int.reduceLE, Int.reduceLT, reduceCtorEq]; rw [← fill_set hlt]⟩
  · have hi' : ¬ (k : Int) < l.length := by omega
    have hkl : k = l.length := by omega
    subst hkl
    have hlen := fill_len (f := ints) (z := (.sl 1 [])) (Nat.le_refl l.length)
    simp only [go_sem, ↓reduceIte, Nat.reduceEqDiff, Nat.reduceAdd, Nat.reduceMul, Nat.reduceBEq, Option.getD_none, Int.reduceToNat, Nat.reduceSub, Nat.reduceLT, Nat.reduceLeDiff, Int.reduceLE, Int.reduceLT, reduceCtorEq, h4, h3, h0, hi', hm, hlen, fill_all, take_map_len]

theorem laws_eqIntSS.fc (a b : List (List Int)) (ha : a.length ≤ 4294967296) (hb : b.length ≤ 4294967296) (hr : ∀ r ∈ a, r.length ≤ 4294967296) : FCt prog F_laws_eqIntSS [.ro, .ro] [intss a, intss b] (Bb (decide (a = b))) [] := by
  refine fct_run laws_eqIntSS.ok rfl ?_
  by_cases h : a.length = b.length
  · simp only [go_sem, ↓reduceIte, Nat.reduceEqDiff, Nat.reduceAdd, Nat.reduceMul, Nat.reduceBEq, Option.getD_none, Int.reduceToNat, Nat.reduceSub, Nat.reduceLT, Nat.reduceLeDiff, Int.reduceLE, Int.reduceLT, reduceCtorEq, h]
    refine R_loop (α := Nat) (fun k s' M' => k ≤ a.length ∧ s' 5 = aI k ∧ a.take k = b.take k) (fun k => a.length - k) 0 ⟨by omega, by simp only [go_sem, ↓reduceIte, Nat.reduceEqDiff, Nat.reduceAdd, Nat.reduceMul, Nat.reduceBEq, Option.getD_none, Int.reduceToNat, Nat.reduceSub, Nat.reduceLT, Nat.reduceLeDiff, Int.reduceLE, Int.reduceLT, reduceCtorEq]; rfl, by simp⟩ ?_
    rintro k s' M' ⟨hk, h5, hp⟩ ho
    have h0 : s' 0 = .dat none (intss a) := by rw [ho 0 rfl]; simp only [go_sem, ↓reduceIte, Nat.reduceEqDiff, Nat.reduceAdd, Nat.reduceMul, Nat.reduceBEq, Option.getD_none, Int.reduceToNat, Nat.reduceSub, Nat.reduceLT, Nat.reduceLeDiff, Int.reduceLE, Int.reduceLT, reduceCtorEq]
    have h1 : s' 1 = .dat none (intss b) := by rw [ho 1 rfl]; simp only [go_sem, ↓reduceIte, Nat.reduceEqDiff, Nat.reduceAdd, Nat.reduceMul, Nat.reduceBEq, Option.getD_none, Int.reduceToNat, Nat.reduceSub, Nat.reduceLT, Nat.reduceLeDiff, Int.reduceLE, Int.reduceLT, reduceCtorEq]
    clear ho
    unfold laws_eqIntSS.b0
    by_cases hlt : k < a.length
    · have hi : (k : Int) < b.length := by omega
      have ga : a[k]? = some a[k] := List.getElem?_eq_getElem hlt
      have gb : b[k]? = some b[k] := List.getElem?_eq_getElem (by omega)
      have hw : IntKind.i64.wrap (k + 1) = ((k + 1 : Nat) : Int) := wrap_k hlt (by omega)
      simp only [go_sem, ↓reduceIte, Nat.reduceEqDiff, Nat.reduceAdd, Nat.reduceMul, Nat.reduceBEq, Option.getD_none, Int.reduceToNat, Nat.reduceSub, Nat.reduceLT, Nat.reduceLeDiff, Int.reduceLE, Int.reduceLT, reduceCtorEq, h5, h0, h1, hi, ga, gb, h, hw]
      refine fcW_bool (laws_eqIntS.fc _ _ (hr _ (List.getElem_mem hlt))) ?_
      by_cases e : a[k] = b[k]
      · simp only [go_sem, ↓reduceIte, Nat.reduceEqDiff, Nat.reduceAdd, Nat.reduceMul, Nat.reduceBEq, Option.getD_none, Int.reduceToNat, Nat.reduceSub, Nat.reduceLT, Nat.reduceLeDiff, Int.reduceLE, Int.reduceLT, reduceCtorEq, decide_eq_true e, h5, hw]
        refine ⟨k + 1, by dsimp only; omega, by omega, by simp only [go_sem, ↓reduceIte, Nat.reduceEqDiff, Nat.reduceAdd, Nat.reduceMul, Nat.reduceBEq, Option.getD_none, Int.reduceToNat, Nat.reduceSub, Nat.reduceLT, Nat.reduceLeDiff, Int.reduceLE, Int.reduceLT, reduceCtorEq], ?_⟩
        rw [take_succ' hlt, take_succ' (by omega), hp, e]
      · have : a ≠ b := fun hh => by subst hh; exact e rfl
        simp only [go_sem, ↓reduceIte, Nat.reduceEqDiff, Nat.reduceAdd, Nat.reduceMul, Nat.reduceBEq, Option.getD_none, Int.reduceToNat, Nat.reduceSub, Nat.reduceLT, Nat.reduceLeDiff, Int.reduceLE, Int.reduceLT, reduceCtorEq, decide_eq_false e, this]
    · have hi : ¬ (k : Int) < b.length := by omega
      have hab : a = b := by
        rw [List.take_of_length_le (by omega), List.take_of_length_le (by omega)] at hp
        exact hp
      simp only [go_sem, ↓reduceIte, Nat.reduceEqDiff, Nat.reduceAdd, Nat.reduceMul, Nat.reduceBEq, Option.getD_none, Int.reduceToNat, Nat.reduceSub, Nat.reduceLT, Nat.reduceLeDiff, Int.reduceLE, Int.reduceLT, reduceCtorEq, h5, h0, h1, hi, h]
      simp [hab]
  · have hne : ((a.length : Int) != (b.length : Int)) = true := by simp; omega
    have hab : a ≠ b := fun hh => h (by rw [hh])
    simp only [go_sem, ↓reduceIte, Nat.reduceEqDiff, Nat.reduceAdd, Nat.reduceMul, Nat.reduceBEq, Option.getD_none, Int.reduceToNat, Nat.reduceSub, Nat.reduceLT, Nat.reduceLeDiff, Int.reduceLE, Int.reduceLT, reduceCtorEq, hne, hab]

theorem laws_szIntSS.fc (l : List (List Int)) (n : Int) (hn : 0 ≤ n ∧ n ≤ 1048576) (hl : l.length ≤ 9223372036854775807) (ha : ∀ r ∈ l, List.length r ≤ 9223372036854775807) :
    FCt prog F_laws_szIntSS [.ro, .ro] [intss l, Ii n] (Ii (if n - l.length < 0 then -1 else szL List.length l (n - l.length))) [] := by
  refine fct_run laws_szIntSS.ok rfl ?_
  have hw : IntKind.i64.wrap (n - l.length) = n - l.length := wrap_in (by omega) (by omega)
  by_cases h : n - l.length < 0
  · simp only [go_sem, ↓reduceIte, Nat.reduceEqDiff, Nat.reduceAdd, Nat.reduceMul, Nat.reduceBEq, Option.getD_none, Int.reduceToNat, Nat.reduceSub, Nat.reduceLT, Nat.reduceLeDiff, Int.reduceLE, Int.reduceLT, reduceCtorEq, hw, h]
  · simp only [go_sem, ↓reduceIte, Nat.reduceEqDiff, Nat.reduceAdd, Nat.reduceMul, Nat.reduceBEq, Option.getD_none, Int.reduceToNat, Nat.reduceSub, Nat.reduceLT, Nat.reduceLeDiff, Int.reduceLE, Int.reduceLT, reduceCtorEq, hw, h]
    refine R_loop (α := Nat × Int) (fun a s' M' => a.1 ≤ l.length ∧ s' 5 = aI a.1 ∧ s' 1 = aI a.2 ∧ 0 ≤ a.2 ∧ a.2 ≤ 1048576 ∧ szL List.length (l.drop a.1) a.2 = szL List.length l (n - l.length)) (fun a => l.length - a.1) (0, n - l.length)
      ⟨Nat.zero_le _, by simp only [go_sem, ↓reduceIte, Nat.reduceEqDiff, Nat.reduceAdd, Nat.reduceMul, Nat.reduceBEq, Option.getD_none, Int.reduceToNat, Nat.reduceSub, Nat.reduceLT, Nat.reduceLeDiff, Int.reduceLE, Int.reduceLT, reduceCtorEq]; rfl, by simp only [go_sem, ↓reduceIte, Nat.reduceEqDiff, Nat.reduceAdd, Nat.reduceMul, Nat.reduceBEq, Option.getD_none, Int.reduceToNat, Nat.reduceSub, Nat.reduceLT, Nat.reduceLeDiff, Int.reduceLE, Int.reduceLT, reduceCtorEq], by omega, by omega, by simp⟩ ?_
    rintro ⟨k, m⟩ s' M' ⟨hk, h5, h1, hm0, hm1, hs⟩ ho
    have h0 : s' 0 = .dat none (intss l) := by rw [ho 0 rfl]; simp only [go_sem, ↓reduceIte, Nat.reduceEqDiff, Nat.reduceAdd, Nat.reduceMul, Nat.reduceBEq, Option.getD_none, Int.reduceToNat, Nat.reduceSub, Nat.reduceLT, Nat.reduceLeDiff, Int.reduceLE, Int.reduceLT, reduceCtorEq]
    clear ho
    unfold laws_szIntSS.b0
    simp only at hk h5 h1 hm0 hm1 hs
    by_cases hlt : k < l.length
    · have hi' : (k : Int) < l.length := by omega
      have ga : l[k]? = some l[k] := List.getElem?_eq_getElem hlt
      have hw : IntKind.i64.wrap (k + 1) = ((k + 1 : Nat) : Int) := wrap_k hlt (by omega)
      have hd : l.drop k = l[k] :: l.drop (k + 1) := List.drop_eq_getElem_cons hlt
      rw [hd, szL] at hs
      simp only [go_sem, ↓reduceIte, Nat.reduceEqDiff, Nat.reduceAdd, Nat.reduceMul, Nat.reduceBEq, Option.getD_none, Int.reduceToNat, Nat.reduceSub, Nat.reduceLT, Nat.reduceLeDiff, Int.reduceLE, Int.reduceLT, reduceCtorEq, h5, h1, h0, hi', ga]
      refine fcW_int (laws_szIntS.fc _ _ ⟨hm0, hm1⟩ (ha _ (List.getElem_mem hlt))) ?_
      by_cases h2 : m - (List.length l[k] : Nat) < 0
      · rw [if_pos h2] at hs
        simp only [go_sem, ↓reduceIte, Nat.reduceEqDiff, Nat.reduceAdd, Nat.reduceMul, Nat.reduceBEq, Option.getD_none, Int.reduceToNat, Nat.reduceSub, Nat.reduceLT, Nat.reduceLeDiff, Int.reduceLE, Int.reduceLT, reduceCtorEq, h2, ← hs, h]
      · rw [if_neg h2] at hs
        simp only [go_sem, ↓reduceIte, Nat.reduceEqDiff, Nat.reduceAdd, Nat.reduceMul, Nat.reduceBEq, Option.getD_none, Int.reduceToNat, Nat.reduceSub, Nat.reduceLT, Nat.reduceLeDiff, Int.reduceLE, Int.reduceLT, reduceCtorEq, h2, h5, hw]
        exact ⟨(k + 1, m - (List.length l[k] : Nat)), by dsimp only; omega, by dsimp only; omega, by simp only [go_sem, ↓reduceIte, Nat.reduceEqDiff, Nat.reduceAdd, Nat.reduceMul, Nat.reduceBEq, Option.getD_none, Int.reduceToNat, Nat.reduceSub, Nat.reduceLT, Nat.reduceLeDiff, Int.reduceLE, Int.reduceLT, reduceCtorEq], by simp only [go_sem, ↓reduceIte, Nat.reduceEqDiff, Nat.reduceAdd, Nat.reduceMul, Nat.reduceBEq, Option.getD_none, Int.reduceToNat, Nat.reduceSub, Nat.reduceLT, Nat.reduceLeDiff, Int.reduceLE, Int.reduceLT, reduceCtorEq], by dsimp only; omega, by dsimp only; omega, hs⟩
    · have hi' : ¬ (k : Int) < l.length := by omega
      have hkl : k = l.length := by omega
      subst hkl
      simp only [List.drop_length, szL] at hs
      simp only [go_sem, ↓reduceIte, Nat.reduceEqDiff, Nat.reduceAdd, Nat.reduceMul, Nat.reduceBEq, Option.getD_none, Int.reduceToNat, Nat.reduceSub, Nat.reduceLT, Nat.reduceLeDiff, Int.reduceLE, Int.reduceLT, reduceCtorEq, h5, h1, h0, hi', hs, h]

theorem spec_l1Has.fc (l : List Int) (n : Int) (hl : l.length ≤ 4294967296) : FCt prog F_spec_l1Has [.ro, .ro] [ints l, Ii n] (Bb (l.any (· == n))) [] := by
  refine fct_run spec_l1Has.ok rfl ?_
  simp only [go_sem, ↓reduceIte, Nat.reduceEqDiff, Nat.reduceAdd, Nat.reduceMul, Nat.reduceBEq, Option.getD_none, Int.reduceToNat, Nat.reduceSub, Nat.reduceLT, Nat.reduceLeDiff, Int.reduceLE, Int.reduceLT, reduceCtorEq]
  refine R_loop (α := Nat) (fun k s' M' => k ≤ l.length ∧ s' 9 = aI k ∧ (l.take k).all (fun x => !(x == n)) = true) (fun k => l.length - k) 0 ⟨by omega, by simp only [go_sem, ↓reduceIte, Nat.reduceEqDiff, Nat.reduceAdd, Nat.reduceMul, Nat.reduceBEq, Option.getD_none, Int.reduceToNat, Nat.reduceSub, Nat.reduceLT, Nat.reduceLeDiff, Int.reduceLE, Int.reduceLT, reduceCtorEq]; rfl, by simp⟩ ?_
  rintro k s' M' ⟨hk, h9, hr⟩ ho
  have h1 : s' 1 = aI n := by rw [ho 1 rfl]; simp only [go_sem, ↓reduceIte, Nat.reduceEqDiff, Nat.reduceAdd, Nat.reduceMul, Nat.reduceBEq, Option.getD_none, Int.reduceToNat, Nat.reduceSub, Nat.reduceLT, Nat.reduceLeDiff, Int.reduceLE, Int.reduceLT, reduceCtorEq]
  have h7 : s' 7 = .dat none (ints l) := by rw [ho 7 rfl]; simp only [go_sem, ↓reduceIte, Nat.reduceEqDiff, Nat.reduceAdd, Nat.reduceMul, Nat.reduceBEq, Option.getD_none, Int.reduceToNat, Nat.reduceSub, Nat.reduceLT, Nat.reduceLeDiff, Int.reduceLE, Int.reduceLT, reduceCtorEq]
  have h8 : s' 8 = aI l.length := by rw [ho 8 rfl]; simp only [go_sem, ↓reduceIte, Nat.reduceEqDiff, Nat.reduceAdd, Nat.reduceMul, Nat.reduceBEq, Option.getD_none, Int.reduceToNat, Nat.reduceSub, Nat.reduceLT, Nat.reduceLeDiff, Int.reduceLE, Int.reduceLT, reduceCtorEq]
  clear ho
  unfold spec_l1Has.b0
  by_cases hlt : k < l.length
  · have hi' : (k : Int) < l.length := by omega
    have ga : l[k]? = some l[k] := List.getElem?_eq_getElem hlt
    have hw : IntKind.i64.wrap (k + 1) = ((k + 1 : Nat) : Int) := wrap_k hlt (by omega)
    simp only [go_sem, ↓reduceIte, Nat.reduceEqDiff, Nat.reduceAdd, Nat.reduceMul, Nat.reduceBEq, Option.getD_none, Int.reduceToNat, Nat.reduceSub, Nat.reduceLT, Nat.reduceLeDiff, Int.reduceLE, Int.reduceLT, reduceCtorEq, h1, h7, h8, h9, hi', ga]
    refine cdW_any (fun e => ?_) (fun e => ?_)
    · have : l.any (· == n) = true := List.any_eq_true.2 ⟨l[k], List.getElem_mem hlt, e⟩
      simp only [go_sem, ↓reduceIte, Nat.reduceEqDiff, Nat.reduceAdd, Nat.reduceMul, Nat.reduceBEq, Option.getD_none, Int.reduceToNat, Nat.reduceSub, Nat.reduceLT, Nat.reduceLeDiff, Int.reduceLE, Int.reduceLT, reduceCtorEq, this]
    · simp only [go_sem, ↓reduceIte, Nat.reduceEqDiff, Nat.reduceAdd, Nat.reduceMul, Nat.reduceBEq, Option.getD_none, Int.reduceToNat, Nat.reduceSub, Nat.reduceLT, Nat.reduceLeDiff, Int.reduceLE, Int.reduceLT, reduceCtorEq, h9, hw]
      exact ⟨k + 1, by dsimp only; omega, by omega, by simp only [go_sem, ↓reduceIte, Nat.reduceEqDiff, Nat.reduceAdd, Nat.reduceMul, Nat.reduceBEq, Option.getD_none, Int.reduceToNat, Nat.reduceSub, Nat.reduceLT, Nat.reduceLeDiff, Int.reduceLE, Int.reduceLT, reduceCtorEq], all_take hlt hr (by simp [e])⟩
  · have hi' : ¬ (k : Int) < l.length := by omega
    rw [List.take_of_length_le (by omega)] at hr
    have : l.any (· == n) = false := by
      rw [List.any_eq_false]; intro x hx; have := List.all_eq_true.1 hr x hx; simpa using this
    simp only [go_sem, ↓reduceIte, Nat.reduceEqDiff, Nat.reduceAdd, Nat.reduceMul, Nat.reduceBEq, Option.getD_none, Int.reduceToNat, Nat.reduceSub, Nat.reduceLT, Nat.reduceLeDiff, Int.reduceLE, Int.reduceLT, reduceCtorEq, h1, h7, h8, h9, hi', this]
end Go.Vm.Ytedcnkglldmkbaa
/- Walks: facts and rules that hold. -/
namespace Go.Vm.Ytedcnkglldmkbaa
open Go Go.Vm
set_option maxRecDepth 10000
set_option linter.unusedSimpArgs false
set_option linter.unusedVariables false

abbrev bools (l : List Bool) : D := .sl 1 (l.map Bb)
def hasI (so : List Int) (x : Int) : Bool := so.any (· == x)
theorem spec_l16All.fc (so l : List Int) (hs : so.length ≤ 4294967296) (hl : l.length ≤ 4294967296) : FCt prog F_spec_l16All [.ro, .ro] [ints so, ints l] (Bb (l.all (hasI so))) [] := by
  refine fct_run spec_l16All.ok rfl ?_
  simp only [go_sem, ↓reduceIte, Nat.reduceEqDiff, Nat.reduceAdd, Nat.reduceMul, Nat.reduceBEq, Option.getD_none, Int.reduceToNat, Nat.reduceSub, Nat.reduceLT, Nat.reduceLeDiff, Int.reduceLE, Int.reduceLT, reduceCtorEq]
  refine R_loop (α := Nat) (fun k s' M' => k ≤ l.length ∧ s' 9 = aI k ∧ (l.take k).all (hasI so) = true) (fun k => l.length - k) 0 ⟨by omega, by simp only [go_sem, ↓reduceIte, Nat.reduceEqDiff, Nat.reduceAdd, Nat.reduceMul, Nat.reduceBEq, Option.getD_none, Int.reduceToNat, Nat.reduceSub, Nat.reduceLT, Nat.reduceLeDiff, Int.reduceLE, Int.reduceLT, reduceCtorEq]; rfl, by simp⟩ ?_
  rintro k s' M' ⟨hk, h9, hr⟩ ho
  have h0 : s' 0 = .dat none (ints so) := by rw [ho 0 rfl]; simp only [go_sem, ↓reduceIte, Nat.reduceEqDiff, Nat.reduceAdd, Nat.reduceMul, Nat.reduceBEq, Option.getD_none, Int.reduceToNat, Nat.reduceSub, Nat.reduceLT, Nat.reduceLeDiff, Int.reduceLE, Int.reduceLT, reduceCtorEq]
  have h7 : s' 7 = .dat none (ints l) := by rw [ho 7 rfl]; simp only [go_sem, ↓reduceIte, Nat.reduceEqDiff, Nat.reduceAdd, Nat.reduceMul, Nat.reduceBEq, Option.getD_none, Int.reduceToNat, Nat.reduceSub, Nat.reduceLT, Nat.reduceLeDiff, Int.reduceLE, Int.reduceLT, reduceCtorEq]
  have h8 : s' 8 = aI l.length := by rw [ho 8 rfl]; simp only [go_sem, ↓reduceIte, Nat.reduceEqDiff, Nat.reduceAdd, Nat.reduceMul, Nat.reduceBEq, Option.getD_none, Int.reduceToNat, Nat.reduceSub, Nat.reduceLT, Nat.reduceLeDiff, Int.reduceLE, Int.reduceLT, reduceCtorEq]
  clear ho
  unfold spec_l16All.b0
  by_cases hlt : k < l.length
  · have hi' : (k : Int) < l.length := by omega
    have ga : l[k]? = some l[k] := List.getElem?_eq_getElem hlt
    have hw : IntKind.i64.wrap (k + 1) = ((k + 1 : Nat) : Int) := wrap_k hlt (by omega)
    simp only [go_sem, ↓reduceIte, Nat.reduceEqDiff, Nat.reduceAdd, Nat.reduceMul, Nat.reduceBEq, Option.getD_none, Int.reduceToNat, Nat.reduceSub, Nat.reduceLT, Nat.reduceLeDiff, Int.reduceLE, Int.reduceLT, reduceCtorEq, hi', ga, h0, h7, h8, h9]
    refine fcW_bool (spec_l1Has.fc so l[k] hs) ?_
    cases hc : so.any (· == l[k]) with
    | false => simp only [go_sem, ↓reduceIte, Nat.reduceEqDiff, Nat.reduceAdd, Nat.reduceMul, Nat.reduceBEq, Option.getD_none, Int.reduceToNat, Nat.reduceSub, Nat.reduceLT, Nat.reduceLeDiff, Int.reduceLE, Int.reduceLT, reduceCtorEq, not_all (p := hasI so) hlt hc, h0, h7, h8, h9]
    | true =>
      simp only [go_sem, ↓reduceIte, Nat.reduceEqDiff, Nat.reduceAdd, Nat.reduceMul, Nat.reduceBEq, Option.getD_none, Int.reduceToNat, Nat.reduceSub, Nat.reduceLT, Nat.reduceLeDiff, Int.reduceLE, Int.reduceLT, reduceCtorEq, hw, h0, h7, h8, h9]
      exact ⟨k + 1, by dsimp only; omega, by omega, by simp only [go_sem, ↓reduceIte, Nat.reduceEqDiff, Nat.reduceAdd, Nat.reduceMul, Nat.reduceBEq, Option.getD_none, Int.reduceToNat, Nat.reduceSub, Nat.reduceLT, Nat.reduceLeDiff, Int.reduceLE, Int.reduceLT, reduceCtorEq, h0, h7, h8, h9], all_take hlt hr hc⟩
  · have hi' : ¬ (k : Int) < l.length := by omega
    rw [List.take_of_length_le (by omega)] at hr
    simp only [go_sem, ↓reduceIte, Nat.reduceEqDiff, Nat.reduceAdd, Nat.reduceMul, Nat.reduceBEq, Option.getD_none, Int.reduceToNat, Nat.reduceSub, Nat.reduceLT, Nat.reduceLeDiff, Int.reduceLE, Int.reduceLT, reduceCtorEq, hi', hr, h0, h7, h8, h9]
/-- a row of marks: which numbers up to n are there -/
def isRow (n : Nat) (so : List Int) : List Bool := (List.range (n + 1)).map fun (i : Nat) => hasI so (i : Int)
theorem isRow_len {n : Nat} {so : List Int} : (isRow n so).length = n + 1 := by simp [isRow]
theorem isRow_get {n : Nat} {so : List Int} {x : Int} (h : 0 ≤ x ∧ x ≤ n) : (isRow n so)[x.toNat]? = some (hasI so x) := by
  have h1 : x.toNat < n + 1 := by omega
  have e : ((x.toNat : Nat) : Int) = x := by omega
  simp only [isRow, List.getElem?_map, List.getElem?_range h1, Option.map_some, e]
theorem impl_Rule_met_c1.fc (x : Int) (n : Nat) (so : List Int) (h : 0 ≤ x ∧ x ≤ n) : FCt prog F_impl_Rule_met_c1 [.ro, .ro] [Ii x, .ptr (bools (isRow n so))] (Bb (!hasI so x)) [] := by
  refine fct_run impl_Rule_met_c1.ok rfl ?_
  have hg := isRow_get (so := so) h
  have h0 := h.1
  have h1 : x < ((n + 1 : Nat) : Int) := by omega
  simp only [go_sem, ↓reduceIte, Nat.reduceEqDiff, Nat.reduceAdd, Nat.reduceMul, Nat.reduceBEq, Option.getD_none, Int.reduceToNat, Nat.reduceSub, Nat.reduceLT, Nat.reduceLeDiff, Int.reduceLE, Int.reduceLT, reduceCtorEq, isRow_len, hg, h0, h1]
theorem ris_mem {lo hi : Int} {l : List Int} (h : rising lo hi l = true) : ∀ x ∈ l, lo ≤ x ∧ x ≤ hi := by
  intro x hx
  obtain ⟨i, hi', rfl⟩ := List.getElem_of_mem hx
  have := List.all_eq_true.1 h i (by simpa using hi')
  simp only [risAt, inB, Bool.and_eq_true, decide_eq_true_eq] at this
  have e : l.getD i 0 = l[i] := by rw [List.getD_eq_getElem?_getD, List.getElem?_eq_getElem hi']; rfl
  rw [e] at this
  exact this.1
theorem impl_Rule_met.fc (r : RuleD) (n : Nat) (so : List Int) (hl : r.ifs.length ≤ 4294967296) (h : ∀ x ∈ r.ifs, 0 ≤ x ∧ x ≤ n) : FCt prog F_impl_Rule_met [.ro, .ro] [r.d, bools (isRow n so)] (Bb (r.ifs.all (hasI so))) [] := by
  refine fct_run impl_Rule_met.ok rfl ?_
  simp only [go_sem, ↓reduceIte, Nat.reduceEqDiff, Nat.reduceAdd, Nat.reduceMul, Nat.reduceBEq, Option.getD_none, Int.reduceToNat, Nat.reduceSub, Nat.reduceLT, Nat.reduceLeDiff, Int.reduceLE, Int.reduceLT, reduceCtorEq]
  refine fcW_bool (slices_ContainsFunc__sint_int.fc r.ifs F_impl_Rule_met_c1 [.ptr (bools (isRow n so))] (fun x => !hasI so x) hl (fun x hx => impl_Rule_met_c1.fc x n so (h x hx))) ?_
  have e : r.ifs.any (fun x => !hasI so x) = !r.ifs.all (hasI so) := by rw [List.not_all_eq_any_not]
  simp only [go_sem, ↓reduceIte, Nat.reduceEqDiff, Nat.reduceAdd, Nat.reduceMul, Nat.reduceBEq, Option.getD_none, Int.reduceToNat, Nat.reduceSub, Nat.reduceLT, Nat.reduceLeDiff, Int.reduceLE, Int.reduceLT, reduceCtorEq, e, Bool.not_not]
/-- a rule that holds among facts -/
def okR (so : List Int) (r : RuleD) : Bool := !(r.ifs.all (hasI so) && !hasI so r.thn)
theorem impl_HoldsIn_c1.fc (r : RuleD) (n : Nat) (so : List Int) (hl : r.ifs.length ≤ 4294967296) (h : goodRule n r = true) : FCt prog F_impl_HoldsIn_c1 [.ro, .ro] [r.d, .ptr (bools (isRow n so))] (Bb (!okR so r)) [] := by
  refine fct_run impl_HoldsIn_c1.ok rfl ?_
  simp only [goodRule, inB, Bool.and_eq_true, decide_eq_true_eq] at h
  have hm : ∀ x ∈ r.ifs, 0 ≤ x ∧ x ≤ n := fun x hx => by have := ris_mem h.1 x hx; omega
  have hg := isRow_get (so := so) h.2
  have h0 := h.2.1
  have h1 : r.thn < ((n + 1 : Nat) : Int) := by omega
  unfold okR
  simp only [go_sem, ↓reduceIte, Nat.reduceEqDiff, Nat.reduceAdd, Nat.reduceMul, Nat.reduceBEq, Option.getD_none, Int.reduceToNat, Nat.reduceSub, Nat.reduceLT, Nat.reduceLeDiff, Int.reduceLE, Int.reduceLT, reduceCtorEq]
  refine fcW_bool (impl_Rule_met.fc r n so hl hm) ?_
  cases hmet : r.ifs.all (hasI so)
  · simp only [go_sem, ↓reduceIte, Nat.reduceEqDiff, Nat.reduceAdd, Nat.reduceMul, Nat.reduceBEq, Option.getD_none, Int.reduceToNat, Nat.reduceSub, Nat.reduceLT, Nat.reduceLeDiff, Int.reduceLE, Int.reduceLT, reduceCtorEq]
  · simp only [go_sem, ↓reduceIte, Nat.reduceEqDiff, Nat.reduceAdd, Nat.reduceMul, Nat.reduceBEq, Option.getD_none, Int.reduceToNat, Nat.reduceSub, Nat.reduceLT, Nat.reduceLeDiff, Int.reduceLE, Int.reduceLT, reduceCtorEq, isRow_len, hg, h0, h1, Bool.not_not]
end Go.Vm.Ytedcnkglldmkbaa
/- Walks: do rules hold among facts? -/
namespace Go.Vm.Ytedcnkglldmkbaa
open Go Go.Vm
set_option maxRecDepth 10000
set_option linter.unusedSimpArgs false
set_option linter.unusedVariables false

theorem isRow_set {n : Nat} {so : List Int} {k : Nat} (hk : k < so.length) (h : 0 ≤ so[k] ∧ so[k] ≤ n) : ((isRow n (so.take k)).map Bb).set so[k].toNat (.bool true) = (isRow n (so.take (k + 1))).map Bb := by
  refine List.ext_getElem? fun i => ?_
  rw [List.getElem?_set, take_succ' hk]
  by_cases hi : i < n + 1
  · simp only [isRow, List.length_map, List.length_range, List.getElem?_map, List.getElem?_range hi, Option.map_some, hasI, List.any_append, List.any_cons, List.any_nil, Bool.or_false]
    by_cases e : so[k].toNat = i
    · have e' : (so[k] == (i : Int)) = true := by simp; omega
      rw [if_pos e, if_pos (by omega), e', Bool.or_true]
    · have e' : (so[k] == (i : Int)) = false := by simp; omega
      rw [if_neg e, e', Bool.or_false]
  · have hn : ∀ l, ((isRow n l).map Bb)[i]? = none := fun l => by rw [List.getElem?_eq_none]; simp [isRow]; omega
    rw [hn, hn]
    split
    · rw [if_neg (by simp [isRow]; omega)]
    · rfl
theorem isRow_zero {n : Nat} : List.replicate (n + 1) (D.bool false) = (isRow n []).map Bb := by
  refine List.ext_getElem? fun i => ?_
  by_cases hi : i < n + 1
  · simp [isRow, hi, hasI]
  · simp [isRow, hi]
/-- do all rules hold? -/
def holdsI (n : Int) (l : List RuleD) (so : List Int) : D := if goodRules n l && rising 1 n so then .tup [Bb (l.all (okR so)), Bb true] else .tup [Bb false, Bb false]
theorem impl_HoldsIn.fc (n : Int) (l : List RuleD) (so : List Int) (hl : l.length ≤ 4294967296) (hr : ∀ r ∈ l, r.ifs.length ≤ 4294967296) (hs : so.length ≤ 4294967296) :
    FCt prog F_impl_HoldsIn [.ro, .ro, .ro] [Ii n, rules l, ints so] (holdsI n l so) [] := by
  refine fct_run impl_HoldsIn.ok rfl ?_
  unfold holdsI
  simp only [go_sem, ↓reduceIte, Nat.reduceEqDiff, Nat.reduceAdd, Nat.reduceMul, Nat.reduceBEq, Option.getD_none, Int.reduceToNat, Nat.reduceSub, Nat.reduceLT, Nat.reduceLeDiff, Int.reduceLE, Int.reduceLT, reduceCtorEq]
  refine fcW_bool (impl_GoodRules.fc l n hl hr) ?_
  cases hg : goodRules n l with
  | false => simp only [go_sem, ↓reduceIte, Nat.reduceEqDiff, Nat.reduceAdd, Nat.reduceMul, Nat.reduceBEq, Option.getD_none, Int.reduceToNat, Nat.reduceSub, Nat.reduceLT, Nat.reduceLeDiff, Int.reduceLE, Int.reduceLT, reduceCtorEq]
  | true =>
    simp only [go_sem, ↓reduceIte, Nat.reduceEqDiff, Nat.reduceAdd, Nat.reduceMul, Nat.reduceBEq, Option.getD_none, Int.reduceToNat, Nat.reduceSub, Nat.reduceLT, Nat.reduceLeDiff, Int.reduceLE, Int.reduceLT, reduceCtorEq]
    refine fcW_bool (impl_areFacts.fc so n hs) ?_
    cases hf : rising 1 n so with
    | false => simp only [go_sem, ↓reduceIte, Nat.reduceEqDiff, Nat.reduceAdd, Nat.reduceMul, Nat.reduceBEq, Option.getD_none, Int.reduceToNat, Nat.reduceSub, Nat.reduceLT, Nat.reduceLeDiff, Int.reduceLE, Int.reduceLT, reduceCtorEq]
    | true =>
      have hgg := hg
      simp only [goodRules, Bool.and_eq_true, List.all_eq_true] at hgg
      obtain ⟨⟨hn, _⟩, hrl⟩ := hgg
      simp only [inB, Bool.and_eq_true, decide_eq_true_eq] at hn
      obtain ⟨N, rfl⟩ : ∃ N : Nat, n = N := ⟨n.toNat, by omega⟩
      have hw1 : IntKind.i64.wrap ((N : Int) + 1) = ((N + 1 : Nat) : Int) := by rw [wrap_in (by omega) (by omega)]; omega
      have hb : ((N + 1 : Nat) : Int) * (1 : Nat) ≤ 70368744177664 := by omega
      have hm := ris_mem hf
      simp only [go_sem, ↓reduceIte, Nat.reduceEqDiff, Nat.reduceAdd, Nat.reduceMul, Nat.reduceBEq, Option.getD_none, Int.reduceToNat, Nat.reduceSub, Nat.reduceLT, Nat.reduceLeDiff, Int.reduceLE, Int.reduceLT, reduceCtorEq, hw1, hb, Int.le_refl, isRow_zero]
      refine R_loop (α := Nat) (fun k s' M' => k ≤ so.length ∧ s' 26 = aI k ∧ ∃ w v, M'.m 1152 = some (.box w (.sl 1088 v 0 (N + 1) 1)) ∧ s' 8 = .ptr 1152 w 0 none ∧ M'.m 1088 = some (.arr v true 1 ((isRow N (so.take k)).map Bb))) (fun k => so.length - k) 0
        ⟨by omega, by simp only [go_sem, ↓reduceIte, Nat.reduceEqDiff, Nat.reduceAdd, Nat.reduceMul, Nat.reduceBEq, Option.getD_none, Int.reduceToNat, Nat.reduceSub, Nat.reduceLT, Nat.reduceLeDiff, Int.reduceLE, Int.reduceLT, reduceCtorEq]; rfl, _, _, by simp only [go_sem, ↓reduceIte, Nat.reduceEqDiff, Nat.reduceAdd, Nat.reduceMul, Nat.reduceBEq, Option.getD_none, Int.reduceToNat, Nat.reduceSub, Nat.reduceLT, Nat.reduceLeDiff, Int.reduceLE, Int.reduceLT, reduceCtorEq]; rfl, by simp only [go_sem, ↓reduceIte, Nat.reduceEqDiff, Nat.reduceAdd, Nat.reduceMul, Nat.reduceBEq, Option.getD_none, Int.reduceToNat, Nat.reduceSub, Nat.reduceLT, Nat.reduceLeDiff, Int.reduceLE, Int.reduceLT, reduceCtorEq], by simp only [go_sem, ↓reduceIte, Nat.reduceEqDiff, Nat.reduceAdd, Nat.reduceMul, Nat.reduceBEq, Option.getD_none, Int.reduceToNat, Nat.reduceSub, Nat.reduceLT, Nat.reduceLeDiff, Int.reduceLE, Int.reduceLT, reduceCtorEq]⟩ ?_
      rintro k s' M' ⟨hk, h26, w, v, hbx, h8, hmr⟩ ho
      have h1 : s' 1 = .dat none (rules l) := by rw [ho 1 rfl]; simp only [go_sem, ↓reduceIte, Nat.reduceEqDiff, Nat.reduceAdd, Nat.reduceMul, Nat.reduceBEq, Option.getD_none, Int.reduceToNat, Nat.reduceSub, Nat.reduceLT, Nat.reduceLeDiff, Int.reduceLE, Int.reduceLT, reduceCtorEq]
      have h24 : s' 24 = .dat none (ints so) := by rw [ho 24 rfl]; simp only [go_sem, ↓reduceIte, Nat.reduceEqDiff, Nat.reduceAdd, Nat.reduceMul, Nat.reduceBEq, Option.getD_none, Int.reduceToNat, Nat.reduceSub, Nat.reduceLT, Nat.reduceLeDiff, Int.reduceLE, Int.reduceLT, reduceCtorEq]
      have h25 : s' 25 = aI so.length := by rw [ho 25 rfl]; simp only [go_sem, ↓reduceIte, Nat.reduceEqDiff, Nat.reduceAdd, Nat.reduceMul, Nat.reduceBEq, Option.getD_none, Int.reduceToNat, Nat.reduceSub, Nat.reduceLT, Nat.reduceLeDiff, Int.reduceLE, Int.reduceLT, reduceCtorEq]
      clear ho
      unfold impl_HoldsIn.b0
      by_cases hlt : k < so.length
      · have hi' : (k : Int) < so.length := by omega
        have ga : so[k]? = some so[k] := List.getElem?_eq_getElem hlt
        have hw : IntKind.i64.wrap (k + 1) = ((k + 1 : Nat) : Int) := wrap_k hlt (by omega)
        have hx := hm _ (List.getElem_mem hlt)
        have hx0 : 0 ≤ so[k] := by omega
        have hx1 : so[k] < ((N + 1 : Nat) : Int) := by omega
        have hgt : ((isRow N (so.take k)).map Bb)[so[k].toNat]? = some (Bb (hasI (so.take k) so[k])) := by rw [List.getElem?_map, isRow_get (by omega)]; rfl
        have hset := isRow_set hlt (n := N) (by omega)
        simp only [go_sem, ↓reduceIte, Nat.reduceEqDiff, Nat.reduceAdd, Nat.reduceMul, Nat.reduceBEq, Option.getD_none, Int.reduceToNat, Nat.reduceSub, Nat.reduceLT, Nat.reduceLeDiff, Int.reduceLE, Int.reduceLT, reduceCtorEq, hi', ga, hx0, hx1, hgt, hset, hw, h1, h24, h25, h26, h8, hbx, hmr]
        exact ⟨k + 1, by dsimp only; omega, by omega, by simp only [go_sem, ↓reduceIte, Nat.reduceEqDiff, Nat.reduceAdd, Nat.reduceMul, Nat.reduceBEq, Option.getD_none, Int.reduceToNat, Nat.reduceSub, Nat.reduceLT, Nat.reduceLeDiff, Int.reduceLE, Int.reduceLT, reduceCtorEq, h1, h24, h25, h26, h8, hbx, hmr], w, v, by simp only [go_sem, ↓reduceIte, Nat.reduceEqDiff, Nat.reduceAdd, Nat.reduceMul, Nat.reduceBEq, Option.getD_none, Int.reduceToNat, Nat.reduceSub, Nat.reduceLT, Nat.reduceLeDiff, Int.reduceLE, Int.reduceLT, reduceCtorEq, h1, h24, h25, h26, h8, hbx, hmr], by simp only [go_sem, ↓reduceIte, Nat.reduceEqDiff, Nat.reduceAdd, Nat.reduceMul, Nat.reduceBEq, Option.getD_none, Int.reduceToNat, Nat.reduceSub, Nat.reduceLT, Nat.reduceLeDiff, Int.reduceLE, Int.reduceLT, reduceCtorEq, h1, h24, h25, h26, h8, hbx, hmr], by simp only [go_sem, ↓reduceIte, Nat.reduceEqDiff, Nat.reduceAdd, Nat.reduceMul, Nat.reduceBEq, Option.getD_none, Int.reduceToNat, Nat.reduceSub, Nat.reduceLT, Nat.reduceLeDiff, Int.reduceLE, Int.reduceLT, reduceCtorEq, h1, h24, h25, h26, h8, hbx, hmr]⟩
      · have hi' : ¬ (k : Int) < so.length := by omega
        have hkl : k = so.length := by omega
        subst hkl
        rw [List.take_length] at hmr
        have hlen : ((isRow N so).map Bb).length = N + 1 := by simp [isRow]
        have hlen2 : (isRow N so).length = N + 1 := by simp [isRow]
        have htk : ((isRow N so).map Bb).take (N + 1) = (isRow N so).map Bb := List.take_of_length_le (by omega)
        simp only [go_sem, ↓reduceIte, Nat.reduceEqDiff, Nat.reduceAdd, Nat.reduceMul, Nat.reduceBEq, Option.getD_none, Int.reduceToNat, Nat.reduceSub, Nat.reduceLT, Nat.reduceLeDiff, Int.reduceLE, Int.reduceLT, reduceCtorEq, hi', hlen, hlen2, htk, h1, h24, h25, h26, h8, hbx, hmr]
        refine fcW_bool (slices_ContainsFunc__sRule_Rule.fc l F_impl_HoldsIn_c1 [.ptr (bools (isRow N so))] (fun r => !okR so r) hl (fun r hm => impl_HoldsIn_c1.fc r N so (hr r hm) (hrl r hm))) ?_
        have e : l.any (fun r => !okR so r) = !l.all (okR so) := by rw [List.not_all_eq_any_not]
        simp only [go_sem, ↓reduceIte, Nat.reduceEqDiff, Nat.reduceAdd, Nat.reduceMul, Nat.reduceBEq, Option.getD_none, Int.reduceToNat, Nat.reduceSub, Nat.reduceLT, Nat.reduceLeDiff, Int.reduceLE, Int.reduceLT, reduceCtorEq, e, Bool.not_not, h1, h24, h25, h26, h8, hbx, hmr]
theorem spec_HoldsIn.fc (n : Int) (l : List RuleD) (so : List Int) (hl : l.length ≤ 4294967296) (hr : ∀ r ∈ l, r.ifs.length ≤ 4294967296) (hs : so.length ≤ 4294967296) :
    FCt prog F_spec_HoldsIn [.ro, .ro, .ro] [Ii n, rules l, ints so] (holdsI n l so) [] := by
  refine fct_run spec_HoldsIn.ok rfl ?_
  unfold holdsI
  simp only [go_sem, ↓reduceIte, Nat.reduceEqDiff, Nat.reduceAdd, Nat.reduceMul, Nat.reduceBEq, Option.getD_none, Int.reduceToNat, Nat.reduceSub, Nat.reduceLT, Nat.reduceLeDiff, Int.reduceLE, Int.reduceLT, reduceCtorEq]
  refine fcW_bool (spec_GoodRules.fc l n hl hr) ?_
  cases hg : goodRules n l with
  | false => simp only [go_sem, ↓reduceIte, Nat.reduceEqDiff, Nat.reduceAdd, Nat.reduceMul, Nat.reduceBEq, Option.getD_none, Int.reduceToNat, Nat.reduceSub, Nat.reduceLT, Nat.reduceLeDiff, Int.reduceLE, Int.reduceLT, reduceCtorEq]
  | true =>
    simp only [go_sem, ↓reduceIte, Nat.reduceEqDiff, Nat.reduceAdd, Nat.reduceMul, Nat.reduceBEq, Option.getD_none, Int.reduceToNat, Nat.reduceSub, Nat.reduceLT, Nat.reduceLeDiff, Int.reduceLE, Int.reduceLT, reduceCtorEq]
    refine fcW_bool (spec_l16Facts.fc so n hs) ?_
    cases hf : rising 1 n so with
    | false => simp only [go_sem, ↓reduceIte, Nat.reduceEqDiff, Nat.reduceAdd, Nat.reduceMul, Nat.reduceBEq, Option.getD_none, Int.reduceToNat, Nat.reduceSub, Nat.reduceLT, Nat.reduceLeDiff, Int.reduceLE, Int.reduceLT, reduceCtorEq]
    | true =>
      simp only [go_sem, ↓reduceIte, Nat.reduceEqDiff, Nat.reduceAdd, Nat.reduceMul, Nat.reduceBEq, Option.getD_none, Int.reduceToNat, Nat.reduceSub, Nat.reduceLT, Nat.reduceLeDiff, Int.reduceLE, Int.reduceLT, reduceCtorEq]
      refine R_loop (α := Nat) (fun k s' M' => k ≤ l.length ∧ s' 22 = aI k ∧ (l.take k).all (okR so) = true) (fun k => l.length - k) 0 ⟨by omega, by simp only [go_sem, ↓reduceIte, Nat.reduceEqDiff, Nat.reduceAdd, Nat.reduceMul, Nat.reduceBEq, Option.getD_none, Int.reduceToNat, Nat.reduceSub, Nat.reduceLT, Nat.reduceLeDiff, Int.reduceLE, Int.reduceLT, reduceCtorEq]; rfl, by simp⟩ ?_
      rintro k s' M' ⟨hk, h22, hrr⟩ ho
      have h2 : s' 2 = .dat none (ints so) := by rw [ho 2 rfl]; simp only [go_sem, ↓reduceIte, Nat.reduceEqDiff, Nat.reduceAdd, Nat.reduceMul, Nat.reduceBEq, Option.getD_none, Int.reduceToNat, Nat.reduceSub, Nat.reduceLT, Nat.reduceLeDiff, Int.reduceLE, Int.reduceLT, reduceCtorEq]
      have h20 : s' 20 = .dat none (rules l) := by rw [ho 20 rfl]; simp only [go_sem, ↓reduceIte, Nat.reduceEqDiff, Nat.reduceAdd, Nat.reduceMul, Nat.reduceBEq, Option.getD_none, Int.reduceToNat, Nat.reduceSub, Nat.reduceLT, Nat.reduceLeDiff, Int.reduceLE, Int.reduceLT, reduceCtorEq]
      have h21 : s' 21 = aI l.length := by rw [ho 21 rfl]; simp only [go_sem, ↓reduceIte, Nat.reduceEqDiff, Nat.reduceAdd, Nat.reduceMul, Nat.reduceBEq, Option.getD_none, Int.reduceToNat, Nat.reduceSub, Nat.reduceLT, Nat.reduceLeDiff, Int.reduceLE, Int.reduceLT, reduceCtorEq]
      clear ho
      unfold spec_HoldsIn.b0
      by_cases hlt : k < l.length
      · have hi' : (k : Int) < l.length := by omega
        have ga : l[k]? = some l[k] := List.getElem?_eq_getElem hlt
        have hw : IntKind.i64.wrap (k + 1) = ((k + 1 : Nat) : Int) := wrap_k hlt (by omega)
        simp only [go_sem, ↓reduceIte, Nat.reduceEqDiff, Nat.reduceAdd, Nat.reduceMul, Nat.reduceBEq, Option.getD_none, Int.reduceToNat, Nat.reduceSub, Nat.reduceLT, Nat.reduceLeDiff, Int.reduceLE, Int.reduceLT, reduceCtorEq, hi', ga, h2, h20, h21, h22]
        refine fcW_bool (spec_l16All.fc so l[k].ifs hs (hr _ (List.getElem_mem hlt))) ?_
        cases hc : l[k].ifs.all (hasI so) with
        | false =>
          simp only [go_sem, ↓reduceIte, Nat.reduceEqDiff, Nat.reduceAdd, Nat.reduceMul, Nat.reduceBEq, Option.getD_none, Int.reduceToNat, Nat.reduceSub, Nat.reduceLT, Nat.reduceLeDiff, Int.reduceLE, Int.reduceLT, reduceCtorEq, hw, h2, h20, h21, h22]
          exact ⟨k + 1, by dsimp only; omega, by omega, by simp only [go_sem, ↓reduceIte, Nat.reduceEqDiff, Nat.reduceAdd, Nat.reduceMul, Nat.reduceBEq, Option.getD_none, Int.reduceToNat, Nat.reduceSub, Nat.reduceLT, Nat.reduceLeDiff, Int.reduceLE, Int.reduceLT, reduceCtorEq, h2, h20, h21, h22], all_take hlt hrr (by simp [okR, hc])⟩
        | true =>
          simp only [go_sem, ↓reduceIte, Nat.reduceEqDiff, Nat.reduceAdd, Nat.reduceMul, Nat.reduceBEq, Option.getD_none, Int.reduceToNat, Nat.reduceSub, Nat.reduceLT, Nat.reduceLeDiff, Int.reduceLE, Int.reduceLT, reduceCtorEq, h2, h20, h21, h22]
          refine fcW_bool (spec_l1Has.fc so _ hs) ?_
          cases hh : so.any (· == l[k].thn) with
          | false =>
            have hh' : hasI so l[k].thn = false := hh
            simp only [go_sem, ↓reduceIte, Nat.reduceEqDiff, Nat.reduceAdd, Nat.reduceMul, Nat.reduceBEq, Option.getD_none, Int.reduceToNat, Nat.reduceSub, Nat.reduceLT, Nat.reduceLeDiff, Int.reduceLE, Int.reduceLT, reduceCtorEq, not_all (p := okR so) hlt (by simp [okR, hc, hh', h2, h20, h21, h22])]
          | true =>
            have hh' : hasI so l[k].thn = true := hh
            simp only [go_sem, ↓reduceIte, Nat.reduceEqDiff, Nat.reduceAdd, Nat.reduceMul, Nat.reduceBEq, Option.getD_none, Int.reduceToNat, Nat.reduceSub, Nat.reduceLT, Nat.reduceLeDiff, Int.reduceLE, Int.reduceLT, reduceCtorEq, hw, h2, h20, h21, h22]
            exact ⟨k + 1, by dsimp only; omega, by omega, by simp only [go_sem, ↓reduceIte, Nat.reduceEqDiff, Nat.reduceAdd, Nat.reduceMul, Nat.reduceBEq, Option.getD_none, Int.reduceToNat, Nat.reduceSub, Nat.reduceLT, Nat.reduceLeDiff, Int.reduceLE, Int.reduceLT, reduceCtorEq, h2, h20, h21, h22], all_take hlt hrr (by simp [okR, hh'])⟩
      · have hi' : ¬ (k : Int) < l.length := by omega
        rw [List.take_of_length_le (by omega)] at hrr
        simp only [go_sem, ↓reduceIte, Nat.reduceEqDiff, Nat.reduceAdd, Nat.reduceMul, Nat.reduceBEq, Option.getD_none, Int.reduceToNat, Nat.reduceSub, Nat.reduceLT, Nat.reduceLeDiff, Int.reduceLE, Int.reduceLT, reduceCtorEq, hi', hrr, h2, h20, h21, h22]
end Go.Vm.Ytedcnkglldmkbaa
