/- What the functions that the law reaches return: part 1 (the conditions stand at each). -/
import Derived.Test.YtdembjfpgfaheaaIr
import Derived.Tactics
import Derived.Tactics2
import Derived.StillTactics
import Derived.Laws.Pointers
/- Words for data: whole numbers, rows of them. -/
namespace Go.Vm
open Go
set_option linter.unusedSimpArgs false
set_option linter.unusedVariables false

abbrev Ii (n : Int) : D := .int .i64 n
abbrev Bb (b : Bool) : D := .bool b
abbrev ints (l : List Int) : D := .sl 1 (l.map Ii)
abbrev aI (n : Int) : AV := .dat none (.int .i64 n)
/-- a whole number of 64 bits -/
def i64 (n : Int) : Prop := -9223372036854775808 ≤ n ∧ n ≤ 9223372036854775807
theorem wrap_k {k m : Nat} (h : k < m) (hm : m ≤ 9223372036854775807) : IntKind.i64.wrap ((k : Int) + 1) = ((k + 1 : Nat) : Int) := by
  rw [wrap_in (by omega) (by omega)]; rfl
theorem hasInt {d : D} (h : HasTy (.int .i64) d) : ∃ n, d = Ii n ∧ i64 n := by
  simp only [HasTy] at h
  obtain ⟨n, rfl, h⟩ := h
  refine ⟨n, rfl, ?_⟩
  simp [Lit.wf, IntKind.has, IntKind.min, IntKind.max, IntKind.signed, IntKind.bits] at h
  exact ⟨by omega, by omega⟩
theorem take_succ' {α : Type} {l : List α} {k : Nat} (h : k < l.length) : l.take (k + 1) = l.take k ++ [l[k]] := by
  rw [List.take_succ_eq_append_getElem h]
theorem all_take {α : Type} {p : α → Bool} {l : List α} {k : Nat} (h : k < l.length) (h1 : (l.take k).all p = true) (h2 : p l[k] = true) : (l.take (k + 1)).all p = true := by
  rw [take_succ' h, List.all_append, h1]; simpa using h2
theorem not_all {α : Type} {p : α → Bool} {l : List α} {k : Nat} (h : k < l.length) (h2 : p l[k] = false) : l.all p = false := by
  rw [← Bool.not_eq_true, List.all_eq_true]
  intro hh
  have := hh _ (List.getElem_mem h)
  rw [h2] at this; cases this
/-- a row that is filled from the left -/
def fill {α : Type} (f : α → D) (z : D) (l : List α) (k : Nat) : List D := (l.take k).map f ++ List.replicate (l.length - k) z
section
variable {α : Type} {f : α → D} {z : D} {l : List α} {k : Nat}
theorem fill_zero : List.replicate l.length z = fill f z l 0 := by simp [fill]
theorem fill_len (h : k ≤ l.length) : (fill f z l k).length = l.length := by simp [fill]; omega
theorem fill_get (h : k < l.length) : (fill f z l k)[k]? = some z := by
  simp only [fill]
  have e0 : ((l.take k).map f).length = k := by rw [List.length_map, List.length_take]; omega
  rw [List.getElem?_append_right (by omega), e0, Nat.sub_self, List.getElem?_replicate, if_pos (by omega)]
theorem fill_set (h : k < l.length) : (fill f z l k).set k (f l[k]) = fill f z l (k + 1) := by
  simp only [fill]
  have e0 : ((l.take k).map f).length = k := by rw [List.length_map, List.length_take]; omega
  have e2 : l.length - k = (l.length - (k + 1)) + 1 := by omega
  rw [List.set_append_right _ _ (by omega), take_succ' h, e0, Nat.sub_self, e2, List.replicate_succ, List.set_cons_zero, List.map_append, List.append_assoc]
  rfl
theorem fill_all : fill f z l l.length = l.map f := by simp [fill]
theorem take_map_len : (l.map f).take l.length = l.map f := by rw [List.take_of_length_le (by simp)]
end
/-- a row that is written over from the left -/
def ovr {α : Type} (A B : List α) (k : Nat) : List α := A.take k ++ B.drop k
section
variable {α : Type} {A B : List α} {k : Nat}
theorem ovr_zero : ovr A B 0 = B := by simp [ovr]
theorem ovr_all (h : A.length = B.length) : ovr A B B.length = A := by simp [ovr, ← h]
theorem ovr_len (h : A.length = B.length) (hk : k ≤ B.length) : (ovr A B k).length = B.length := by simp [ovr]; omega
theorem ovr_get (h : A.length = B.length) (hk : k < B.length) : (ovr A B k)[k]? = B[k]? := by
  have e : (A.take k).length = k := by rw [List.length_take]; omega
  rw [ovr, List.getElem?_append_right (by omega), e, Nat.sub_self, List.getElem?_drop]; rfl
theorem ovr_set {x : α} (h : A.length = B.length) (hk : k < B.length) (hx : A[k]? = some x) : (ovr A B k).set k x = ovr A B (k + 1) := by
  have e : (A.take k).length = k := by rw [List.length_take]; omega
  have hd : B.drop k = B[k] :: B.drop (k + 1) := List.drop_eq_getElem_cons hk
  have hkA : k < A.length := by omega
  have hx' : A[k] = x := by rw [List.getElem?_eq_getElem hkA] at hx; exact Option.some.inj hx
  rw [ovr, ovr, List.set_append_right _ _ (by omega), e, Nat.sub_self, hd, List.set_cons_zero, take_succ' hkA, hx', List.append_assoc]; rfl
end
def upFrom (n : Int) (m : Nat) : List Int := (List.range m).map fun i => n + (i : Nat)
theorem upFrom_len {n : Int} {m : Nat} : (upFrom n m).length = m := by simp [upFrom]
theorem upFrom_get {n : Int} {m k : Nat} (h : k < m) : (upFrom n m)[k]? = some (n + k) := by simp [upFrom, h]
/-- a row that grows: nil at first, then under one name -/
def RowAt (x : AV) (M : Mem) (nm sz : Nat) (ds : List D) : Prop := (ds = [] ∧ x = .nil sz) ∨ ∃ v, x = .sl nm v 0 ds.length sz ∧ M.m nm = some (.arr v true sz ds)
theorem RowAt.nil {M : Mem} {nm sz : Nat} : RowAt (.nil sz) M nm sz [] := .inl ⟨rfl, rfl⟩
theorem RowAt.sl {x : AV} {M : Mem} {nm sz v n : Nat} {ds : List D} (hx : x = .sl nm v 0 n sz) (hn : n = ds.length) (hm : M.m nm = some (.arr v true sz ds)) : RowAt x M nm sz ds := .inr ⟨v, by rw [hx, hn], hm⟩
/-- marks that go on from element to element -/
def accC {α : Type} (c : α → Nat) : List α → Nat
  | [] => 0
  | x :: l => c x + accC c l
def accM {α : Type} (f : Int → α → α) (c : α → Nat) : Int → List α → List α
  | _, [] => []
  | n, x :: l => f n x :: accM f c (n + c x) l
section
variable {α : Type} {f : Int → α → α} {c : α → Nat}
theorem accM_len : ∀ {l : List α} {n : Int}, (accM f c n l).length = l.length
  | [], _ => rfl
  | x :: l, n => by simp only [accM, List.length_cons, accM_len]
theorem accC_app : ∀ {l r : List α}, accC c (l ++ r) = accC c l + accC c r
  | [], r => by simp [accC]
  | x :: l, r => by simp only [List.cons_append, accC, accC_app (l := l)]; omega
theorem accC_step {l : List α} {k : Nat} (h : k < l.length) : accC c (l.take (k + 1)) = accC c (l.take k) + c l[k] := by rw [take_succ' h, accC_app]; simp [accC]
theorem accC_le {l : List α} {k : Nat} : accC c (l.take k) ≤ accC c l := by
  have : accC c l = accC c (l.take k) + accC c (l.drop k) := by rw [← accC_app, List.take_append_drop]
  omega
theorem accC_mem : ∀ {l : List α} {x : α}, x ∈ l → c x ≤ accC c l
  | y :: l, x, h => by
    simp only [accC]
    rcases List.mem_cons.1 h with rfl | h
    · omega
    · have := accC_mem h; omega
theorem accM_get : ∀ {l : List α} {n : Int} {k : Nat} (h : k < l.length), (accM f c n l)[k]? = some (f (n + accC c (l.take k)) l[k])
  | x :: l, n, 0, _ => by simp [accM, accC]
  | x :: l, n, k + 1, h => by
    simp only [accM, List.getElem?_cons_succ, List.take_succ_cons, accC, List.getElem_cons_succ]
    rw [accM_get (l := l) (by simpa using h)]
    congr 2
    omega
end
theorem noRsL_all : ∀ {ds : List D}, (∀ d ∈ ds, noRs d = true) → noRsL ds = true
  | [], _ => rfl
  | d :: ds, h => by simp only [noRsL, Bool.and_eq_true]; exact ⟨h d List.mem_cons_self, noRsL_all fun x hx => h x (List.mem_cons_of_mem _ hx)⟩
theorem noRs_sl {sz : Nat} {ds : List D} (h : ∀ d ∈ ds, noRs d = true) : noRs (.sl sz ds) = true := by simp only [noRs]; exact noRsL_all h
theorem noRs_ints {l : List Int} : noRs (ints l) = true := noRs_sl (by simp [noRs])

/-! ### function values -/
section
variable {P : Program} {s : Nat → AV} {M : Mem} {nb ib : Nat}
end
end Go.Vm
/- Walks: small functions. -/
namespace Go.Vm.Ytdembjfpgfaheaa
open Go Go.Vm
set_option maxRecDepth 10000
set_option maxHeartbeats 4000000
set_option linter.unusedSimpArgs false
set_option linter.unusedVariables false

def inB (n lo hi : Int) : Bool := decide (lo ≤ n) && decide (n ≤ hi)
theorem impl_in.fc (n lo hi : Int) : FCt prog F_impl_in [.ro, .ro, .ro] [Ii n, Ii lo, Ii hi] (Bb (inB n lo hi)) [] := by
  refine fct_run impl_in.ok rfl ?_
  unfold inB
  by_cases h : lo ≤ n
  · simp only [go_sem, ↓reduceIte, Nat.reduceEqDiff, Nat.reduceAdd, Nat.reduceMul, Nat.reduceBEq, Option.getD_none, Int.reduceToNat, Nat.reduceSub, Nat.reduceLT, Nat.reduceLeDiff, Int.reduceLE, Int.reduceLT, reduceCtorEq, ge_iff_le, h]
  · simp only [go_sem, ↓reduceIte, Nat.reduceEqDiff, Nat.reduceAdd, Nat.reduceMul, Nat.reduceBEq, Option.getD_none, Int.reduceToNat, Nat.reduceSub, Nat.reduceLT, Nat.reduceLeDiff, Int.reduceLE, Int.reduceLT, reduceCtorEq, ge_iff_le, h]
theorem spec_l1In.fc (n lo hi : Int) : FCt prog F_spec_l1In [.ro, .ro, .ro] [Ii n, Ii lo, Ii hi] (Bb (inB n lo hi)) [] := by
  refine fct_run spec_l1In.ok rfl ?_
  unfold inB
  by_cases h : lo ≤ n
  · simp only [go_sem, ↓reduceIte, Nat.reduceEqDiff, Nat.reduceAdd, Nat.reduceMul, Nat.reduceBEq, Option.getD_none, Int.reduceToNat, Nat.reduceSub, Nat.reduceLT, Nat.reduceLeDiff, Int.reduceLE, Int.reduceLT, reduceCtorEq, ge_iff_le, h]
  · simp only [go_sem, ↓reduceIte, Nat.reduceEqDiff, Nat.reduceAdd, Nat.reduceMul, Nat.reduceBEq, Option.getD_none, Int.reduceToNat, Nat.reduceSub, Nat.reduceLT, Nat.reduceLeDiff, Int.reduceLE, Int.reduceLT, reduceCtorEq, ge_iff_le, h]

end Go.Vm.Ytdembjfpgfaheaa
/- Walks: rules are copied and weighed. -/
namespace Go.Vm.Ytdembjfpgfaheaa
open Go Go.Vm
set_option maxRecDepth 10000
set_option maxHeartbeats 4000000
set_option linter.unusedSimpArgs false
set_option linter.unusedVariables false

/-- a rule -/
structure RuleD where
  ifs : List Int
  thn : Int
  deriving DecidableEq
abbrev RuleD.d (r : RuleD) : D := .agg [ints r.ifs, Ii r.thn]
abbrev rules (l : List RuleD) : D := .sl 2 (l.map RuleD.d)
end Go.Vm.Ytdembjfpgfaheaa
/- Walks: rules are looked at. -/
namespace Go.Vm.Ytdembjfpgfaheaa
open Go Go.Vm
set_option maxRecDepth 10000
set_option maxHeartbeats 4000000
set_option linter.unusedSimpArgs false
set_option linter.unusedVariables false

end Go.Vm.Ytdembjfpgfaheaa
/- Walks: rules are looked at, by the program and by the reference. -/
namespace Go.Vm.Ytdembjfpgfaheaa
open Go Go.Vm
set_option maxRecDepth 10000
set_option maxHeartbeats 4000000
set_option linter.unusedSimpArgs false
set_option linter.unusedVariables false

end Go.Vm.Ytdembjfpgfaheaa
/- Walks: valid rules; rules are compared. -/
namespace Go.Vm.Ytdembjfpgfaheaa
open Go Go.Vm
set_option maxRecDepth 10000
set_option maxHeartbeats 4000000
set_option linter.unusedSimpArgs false
set_option linter.unusedVariables false

end Go.Vm.Ytdembjfpgfaheaa
/- Walks: results are marked and read again. -/
namespace Go.Vm.Ytdembjfpgfaheaa
open Go Go.Vm
set_option maxRecDepth 10000
set_option maxHeartbeats 4000000
set_option linter.unusedSimpArgs false
set_option linter.unusedVariables false

end Go.Vm.Ytdembjfpgfaheaa
/- Walks: intervals and known bits, reduced by each other. -/
namespace Go.Vm.Ytdembjfpgfaheaa
open Go Go.Vm
set_option maxRecDepth 10000
set_option maxHeartbeats 4000000
set_option linter.unusedSimpArgs false
set_option linter.unusedVariables false

abbrev pr (a b : Int) : D := .agg [Ii a, Ii b]
def goodS (a b : Int) : Bool := inB a 0 65535 && inB b 0 65535 && decide (a ≤ b)
def andI (a b : Int) : Int := IntKind.i64.wrap (BitVec.ofInt IntKind.i64.bits a &&& BitVec.ofInt IntKind.i64.bits b).toNat
def goodK (a b : Int) : Bool := inB a 0 65535 && inB b 0 65535 && (andI a b == 0)
end Go.Vm.Ytdembjfpgfaheaa
/- Walks: arcs. -/
namespace Go.Vm.Ytdembjfpgfaheaa
open Go Go.Vm
set_option maxRecDepth 10000
set_option maxHeartbeats 4000000
set_option linter.unusedSimpArgs false
set_option linter.unusedVariables false

abbrev arcD (a : Int × Int) : D := pr a.1 a.2
abbrev arcs (l : List (Int × Int)) : D := .sl 2 (l.map arcD)
end Go.Vm.Ytdembjfpgfaheaa
/- Walks: valid arcs. -/
namespace Go.Vm.Ytdembjfpgfaheaa
open Go Go.Vm
set_option maxRecDepth 10000
set_option maxHeartbeats 4000000
set_option linter.unusedSimpArgs false
set_option linter.unusedVariables false

end Go.Vm.Ytdembjfpgfaheaa
/- Walks: rows of rows; clauses. -/
namespace Go.Vm.Ytdembjfpgfaheaa
open Go Go.Vm
set_option maxRecDepth 10000
set_option maxHeartbeats 4000000
set_option linter.unusedSimpArgs false
set_option linter.unusedVariables false

end Go.Vm.Ytdembjfpgfaheaa
/- Walks: sorted rows. -/
namespace Go.Vm.Ytdembjfpgfaheaa
open Go Go.Vm
set_option maxRecDepth 10000
set_option maxHeartbeats 4000000
set_option linter.unusedSimpArgs false
set_option linter.unusedVariables false

/-- where x belongs -/
def putK (l : List Int) (x : Int) : Nat := l.findIdx (fun y => !decide (y < x))
def putI (l : List Int) (x : Int) : List Int := if l[putK l x]? = some x then l else l.take (putK l x) ++ x :: l.drop (putK l x)
theorem allSc {l : List Int} : (l.map Ii).all isSc = true := by
  rw [List.all_eq_true]; intro d hd; obtain ⟨x, _, rfl⟩ := List.mem_map.1 hd; rfl
end Go.Vm.Ytdembjfpgfaheaa
/- Walks: what is reached. -/
namespace Go.Vm.Ytdembjfpgfaheaa
open Go Go.Vm
set_option maxRecDepth 10000
set_option maxHeartbeats 4000000
set_option linter.unusedSimpArgs false
set_option linter.unusedVariables false

theorem putI_len (l : List Int) (x : Int) : (putI l x).length ≤ l.length + 1 := by
  unfold putI
  split
  · omega
  · simp; omega
end Go.Vm.Ytdembjfpgfaheaa
/- Walks: facts and rules that hold. -/
namespace Go.Vm.Ytdembjfpgfaheaa
open Go Go.Vm
set_option maxRecDepth 10000
set_option maxHeartbeats 4000000
set_option linter.unusedSimpArgs false
set_option linter.unusedVariables false

abbrev bools (l : List Bool) : D := .sl 1 (l.map Bb)
def hasI (so : List Int) (x : Int) : Bool := so.any (· == x)
end Go.Vm.Ytdembjfpgfaheaa
/- Walks: lists of the places where a condition holds. -/
namespace Go.Vm.Ytdembjfpgfaheaa
open Go Go.Vm
set_option maxRecDepth 10000
set_option maxHeartbeats 4000000
set_option linter.unusedSimpArgs false
set_option linter.unusedVariables false

/-- the numbers below n for which p holds -/
def listI (n : Nat) (p : Nat → Bool) : List Int := ((List.range n).filter p).map fun (i : Nat) => (i : Int)
theorem noRs_bools {l : List Bool} : noRs (bools l) = true := noRs_sl (by
  intro d hd; obtain ⟨x, _, rfl⟩ := List.mem_map.1 hd; rfl)
theorem allScB {l : List Bool} : (l.map Bb).all isSc = true := by
  rw [List.all_eq_true]; intro d hd; obtain ⟨x, _, rfl⟩ := List.mem_map.1 hd; rfl
end Go.Vm.Ytdembjfpgfaheaa
/- Walks: what is reached, by rows of marks. -/
namespace Go.Vm.Ytdembjfpgfaheaa
open Go Go.Vm
set_option maxRecDepth 10000
set_option maxHeartbeats 4000000
set_option linter.unusedSimpArgs false
set_option linter.unusedVariables false

end Go.Vm.Ytdembjfpgfaheaa
/- Plain law: rows of marks and sorted rows. -/
namespace Go.Vm.Ytdembjfpgfaheaa
open Go Go.Vm
set_option maxRecDepth 10000
set_option maxHeartbeats 4000000
set_option linter.unusedSimpArgs false
set_option linter.unusedVariables false

/-- the numbers from a on, b of them, for which p holds -/
def segI (a b : Nat) (p : Nat → Bool) : List Int := ((List.range' a b).filter p).map fun (i : Nat) => (i : Int)
theorem listI_seg (n : Nat) (p : Nat → Bool) : listI n p = segI 0 n p := by simp only [listI, segI, List.range_eq_range']
theorem segI_split {a b c : Nat} {p : Nat → Bool} : segI a (b + c) p = segI a b p ++ segI (a + b) c p := by
  simp only [segI]
  rw [← List.range'_append_1, List.filter_append, List.map_append]
theorem segI_mem {a b : Nat} {p : Nat → Bool} {x : Int} (h : x ∈ segI a b p) : ∃ i : Nat, x = i ∧ a ≤ i ∧ i < a + b ∧ p i = true := by
  simp only [segI, List.mem_map, List.mem_filter, List.mem_range'_1] at h
  obtain ⟨i, ⟨hi, hp⟩, rfl⟩ := h
  exact ⟨i, rfl, hi.1, hi.2, hp⟩
theorem segI_congr {a b : Nat} {p q : Nat → Bool} (h : ∀ i, a ≤ i → i < a + b → p i = q i) : segI a b p = segI a b q := by
  simp only [segI]
  congr 1
  exact List.filter_congr fun i hi => by rw [List.mem_range'_1] at hi; exact h i hi.1 hi.2
theorem putK_app {A C : List Int} {x : Int} (hA : ∀ y ∈ A, y < x) (hC : ∀ y ∈ C, ¬ y < x) : putK (A ++ C) x = A.length := by
  unfold putK
  have h1 : A.findIdx (fun y => !decide (y < x)) = A.length := by
    rw [List.findIdx_eq_length]; intro y hy; simp [hA y hy]
  rw [List.findIdx_append, h1, if_neg (by omega)]
  cases C with
  | nil => simp
  | cons c C =>
    have := hC c List.mem_cons_self
    simp only [List.findIdx_cons, this, decide_false, Bool.not_false, cond_true, Nat.zero_add]
theorem putI_app {A C : List Int} {x : Int} (hA : ∀ y ∈ A, y < x) (hC : ∀ y ∈ C, x < y) : putI (A ++ C) x = A ++ x :: C ∧ putI (A ++ x :: C) x = A ++ x :: C := by
  constructor
  · unfold putI
    rw [putK_app hA (fun y hy => by have := hC y hy; omega)]
    have : (A ++ C)[A.length]? ≠ some x := by
      rw [List.getElem?_append_right (Nat.le_refl _), Nat.sub_self]
      cases C with
      | nil => simp
      | cons c C => have := hC c List.mem_cons_self; simp; omega
    rw [if_neg this]
    simp
  · unfold putI
    rw [putK_app hA (fun y hy => by
      rcases List.mem_cons.1 hy with rfl | hy
      · omega
      · have := hC y hy; omega)]
    simp
theorem putI_list {n : Nat} {p : Nat → Bool} {x : Nat} (hx : x < n) : putI (listI n p) x = listI n (fun i => if i = x then true else p i) := by
  obtain ⟨m, rfl⟩ : ∃ m, n = x + (1 + m) := ⟨n - x - 1, by omega⟩
  rw [listI_seg, listI_seg, segI_split (p := p), segI_split (p := p) (b := 1), segI_split (p := fun i => if i = x then true else p i), segI_split (p := fun i => if i = x then true else p i) (b := 1)]
  simp only [Nat.zero_add]
  have hA : ∀ q, ∀ y ∈ segI 0 x q, y < (x : Int) := fun q y hy => by obtain ⟨i, rfl, _, h, _⟩ := segI_mem hy; omega
  have hC : ∀ q, ∀ y ∈ segI (x + 1) m q, (x : Int) < y := fun q y hy => by obtain ⟨i, rfl, h, _, _⟩ := segI_mem hy; omega
  have e1 : segI 0 x (fun i => if i = x then true else p i) = segI 0 x p := segI_congr fun i _ h => by rw [if_neg (by omega)]
  have e2 : segI (x + 1) m (fun i => if i = x then true else p i) = segI (x + 1) m p := segI_congr fun i h _ => by rw [if_neg (by omega)]
  have e3 : segI x 1 (fun i => if i = x then true else p i) = [(x : Int)] := by simp [segI]
  rw [e1, e2, e3]
  cases hp : p x with
  | true =>
    have e4 : segI x 1 p = [(x : Int)] := by simp [segI, hp]
    rw [e4]
    exact (putI_app (hA p) (hC p)).2
  | false =>
    have e4 : segI x 1 p = [] := by simp [segI, hp]
    rw [e4, List.nil_append]
    exact (putI_app (hA p) (hC p)).1
theorem listI_congr {n : Nat} {p q : Nat → Bool} (h : ∀ i, i < n → p i = q i) : listI n p = listI n q := by
  rw [listI_seg, listI_seg]; exact segI_congr fun i _ hi => h i (by omega)
end Go.Vm.Ytdembjfpgfaheaa
/- Walks: what is reached within so many steps. -/
namespace Go.Vm.Ytdembjfpgfaheaa
open Go Go.Vm
set_option maxRecDepth 10000
set_option maxHeartbeats 4000000
set_option linter.unusedSimpArgs false
set_option linter.unusedVariables false

end Go.Vm.Ytdembjfpgfaheaa
/- Walks: arcs that lead back. -/
namespace Go.Vm.Ytdembjfpgfaheaa
open Go Go.Vm
set_option maxRecDepth 10000
set_option maxHeartbeats 4000000
set_option linter.unusedSimpArgs false
set_option linter.unusedVariables false

end Go.Vm.Ytdembjfpgfaheaa
/- Walks: the laws' own helpers, in one form. -/
namespace Go.Vm.Ytdembjfpgfaheaa
open Go Go.Vm
set_option maxRecDepth 10000
set_option maxHeartbeats 4000000
set_option linter.unusedSimpArgs false
set_option linter.unusedVariables false

theorem noRs_agg {fs : List D} (h : ∀ d ∈ fs, noRs d = true) : noRs (.agg fs) = true := by simp only [noRs]; exact noRsL_all h
theorem hasSl {α : Type} {f : α → D} {p : α → Prop} {T : Ty} (one : ∀ x, HasTy T x → ∃ a, x = f a ∧ p a) {d : D} (h : HasTy (.sl T) d) : ∃ l : List α, d = .sl T.cells (l.map f) ∧ l.length ≤ 9223372036854775807 ∧ ∀ a ∈ l, p a := by
  simp only [HasTy] at h
  obtain ⟨xs, rfl, hl, h⟩ := h
  have : ∀ xs : List D, (∀ x ∈ xs, HasTy T x) → ∃ l : List α, xs = l.map f ∧ ∀ a ∈ l, p a := by
    intro xs
    induction xs with
    | nil => intro _; exact ⟨[], rfl, by simp⟩
    | cons x xs ih =>
      intro h
      obtain ⟨a, rfl, hp⟩ := one x (h x List.mem_cons_self)
      obtain ⟨l, rfl, hl⟩ := ih fun y hy => h y (List.mem_cons_of_mem _ hy)
      exact ⟨a :: l, rfl, fun b hb => by
        rcases List.mem_cons.1 hb with rfl | hb
        · exact hp
        · exact hl b hb⟩
  obtain ⟨l, rfl, hp⟩ := this xs h
  exact ⟨l, rfl, by simpa [maxLen] using hl, hp⟩
theorem noRs_t2 {a b : D} (h1 : noRs a = true) (h2 : noRs b = true) : noRs (.tup [a, b]) = true := by simp only [noRs, noRsL, h1, h2, Bool.and_self]
theorem accC_le8 {α : Type} {c w : α → Nat} (h : ∀ x, c x ≤ 8 * w x + 8) : ∀ {l : List α}, accC c l ≤ 8 * (l.length + accC w l)
  | [] => by simp [accC]
  | x :: l => by have := h x; have := accC_le8 h (l := l); simp only [accC, List.length_cons]; omega
def mkIntS (n : Int) (l : List Int) : List Int := upFrom n l.length
theorem mkIntS_len {n : Int} {l : List Int} : (mkIntS n l).length = l.length := by simp [mkIntS, upFrom_len]
theorem laws_eqIntS.fcu (x : List Int) (h : x.length ≤ 1048576) :
    FCt prog F_laws_eqIntS [.ro, .ro] [ints x, ints x] (Bb true) [] := by
  refine fct_run laws_eqIntS.ok rfl ?_
  have h0 := h
  simp only [go_sem, ↓reduceIte, Nat.reduceEqDiff, Nat.reduceAdd, Nat.reduceMul, Nat.reduceBEq, Option.getD_none, Int.reduceToNat, Nat.reduceSub, Nat.reduceLT, Nat.reduceLeDiff, Int.reduceLE, Int.reduceLT, reduceCtorEq]
  refine R_loop (α := Nat) (fun k s' M' => k ≤ x.length ∧ s' 5 = aI k) (fun k => x.length - k) 0 ⟨by omega, by simp only [go_sem, ↓reduceIte, Nat.reduceEqDiff, Nat.reduceAdd, Nat.reduceMul, Nat.reduceBEq, Option.getD_none, Int.reduceToNat, Nat.reduceSub, Nat.reduceLT, Nat.reduceLeDiff, Int.reduceLE, Int.reduceLT, reduceCtorEq]; rfl⟩ ?_
  rintro k s' M' ⟨hk, h5⟩ ho
  unfold laws_eqIntS.b0
  have k0 : s' 0 = .dat none (ints x) := by rw [ho 0 rfl]; simp only [go_sem, ↓reduceIte, Nat.reduceEqDiff, Nat.reduceAdd, Nat.reduceMul, Nat.reduceBEq, Option.getD_none, Int.reduceToNat, Nat.reduceSub, Nat.reduceLT, Nat.reduceLeDiff, Int.reduceLE, Int.reduceLT, reduceCtorEq]
  have k1 : s' 1 = .dat none (ints x) := by rw [ho 1 rfl]; simp only [go_sem, ↓reduceIte, Nat.reduceEqDiff, Nat.reduceAdd, Nat.reduceMul, Nat.reduceBEq, Option.getD_none, Int.reduceToNat, Nat.reduceSub, Nat.reduceLT, Nat.reduceLeDiff, Int.reduceLE, Int.reduceLT, reduceCtorEq]
  clear ho
  by_cases hlt : k < x.length
  · have hi' : (k : Int) < x.length := by omega
    have ga : x[k]? = some x[k] := List.getElem?_eq_getElem hlt
    have hw : IntKind.i64.wrap (k + 1) = ((k + 1 : Nat) : Int) := wrap_k hlt (by omega)
    simp only [go_sem, ↓reduceIte, Nat.reduceEqDiff, Nat.reduceAdd, Nat.reduceMul, Nat.reduceBEq, Option.getD_none, Int.reduceToNat, Nat.reduceSub, Nat.reduceLT, Nat.reduceLeDiff, Int.reduceLE, Int.reduceLT, reduceCtorEq, h5, hi', ga, hw, k0, k1]
    exact ⟨k + 1, by dsimp only; omega, by omega, by simp only [go_sem, ↓reduceIte, Nat.reduceEqDiff, Nat.reduceAdd, Nat.reduceMul, Nat.reduceBEq, Option.getD_none, Int.reduceToNat, Nat.reduceSub, Nat.reduceLT, Nat.reduceLeDiff, Int.reduceLE, Int.reduceLT, reduceCtorEq, k0, k1]⟩
  · have hi' : ¬ (k : Int) < x.length := by omega
    obtain rfl : k = x.length := by omega
    simp only [go_sem, ↓reduceIte, Nat.reduceEqDiff, Nat.reduceAdd, Nat.reduceMul, Nat.reduceBEq, Option.getD_none, Int.reduceToNat, Nat.reduceSub, Nat.reduceLT, Nat.reduceLeDiff, Int.reduceLE, Int.reduceLT, reduceCtorEq, h5, hi', k0, k1]
theorem laws_markIntS.fcu (x : List Int) (n : Int) (h : x.length ≤ 1048576) (hc : x.length ≤ 16777216) (hn : 0 ≤ n ∧ n + (x.length : Nat) ≤ 576460752303423488) :
    FCt prog F_laws_markIntS [.io, .ro] [ints x, Ii n] (Ii (n + (x.length : Nat))) [ints (mkIntS n x)] := by
  refine fct_run laws_markIntS.ok rfl ?_
  have hL : ((mkIntS n x).map Ii).length = (x.map Ii).length := by simp [mkIntS_len]
  simp only [go_sem, ↓reduceIte, Nat.reduceEqDiff, Nat.reduceAdd, Nat.reduceMul, Nat.reduceBEq, Option.getD_none, Int.reduceToNat, Nat.reduceSub, Nat.reduceLT, Nat.reduceLeDiff, Int.reduceLE, Int.reduceLT, reduceCtorEq]
  refine R_loop (α := Nat) (fun k s' M' => k ≤ x.length ∧ s' 5 = aI k ∧ s' 1 = aI (n + k) ∧ M'.m 0 = some (.arr 0 true 1 (ovr ((mkIntS n x).map Ii) (x.map Ii) k))) (fun k => x.length - k) 0
    ⟨by omega, by simp only [go_sem, ↓reduceIte, Nat.reduceEqDiff, Nat.reduceAdd, Nat.reduceMul, Nat.reduceBEq, Option.getD_none, Int.reduceToNat, Nat.reduceSub, Nat.reduceLT, Nat.reduceLeDiff, Int.reduceLE, Int.reduceLT, reduceCtorEq]; rfl, by simp only [go_sem, ↓reduceIte, Nat.reduceEqDiff, Nat.reduceAdd, Nat.reduceMul, Nat.reduceBEq, Option.getD_none, Int.reduceToNat, Nat.reduceSub, Nat.reduceLT, Nat.reduceLeDiff, Int.reduceLE, Int.reduceLT, reduceCtorEq]; simp, by simp only [go_sem, ↓reduceIte, Nat.reduceEqDiff, Nat.reduceAdd, Nat.reduceMul, Nat.reduceBEq, Option.getD_none, Int.reduceToNat, Nat.reduceSub, Nat.reduceLT, Nat.reduceLeDiff, Int.reduceLE, Int.reduceLT, reduceCtorEq]; simp [ovr_zero]⟩ ?_
  rintro k s' M' ⟨hk, h5, h1, hm⟩ ho
  unfold laws_markIntS.b0
  have k0 : s' 0 = .sl 0 0 0 x.length 1 := by rw [ho 0 rfl]; simp only [go_sem, ↓reduceIte, Nat.reduceEqDiff, Nat.reduceAdd, Nat.reduceMul, Nat.reduceBEq, Option.getD_none, Int.reduceToNat, Nat.reduceSub, Nat.reduceLT, Nat.reduceLeDiff, Int.reduceLE, Int.reduceLT, reduceCtorEq]
  clear ho
  by_cases hlt : k < x.length
  · have hi' : (k : Int) < x.length := by omega
    have ga : x[k]? = some x[k] := List.getElem?_eq_getElem hlt
    have hw : IntKind.i64.wrap (k + 1) = ((k + 1 : Nat) : Int) := wrap_k hlt (by omega)
    have hw1 : IntKind.i64.wrap (n + k + 1) = n + (k + 1 : Nat) := by rw [wrap_in (by omega) (by omega)]; try omega
    have hmk : (mkIntS n x)[k]? = some (n + k) := upFrom_get hlt
    have hg : (ovr ((mkIntS n x).map Ii) (x.map Ii) k)[k]? = some (Ii x[k]) := by rw [ovr_get hL (by simpa using hlt)]; simp [hlt]
    have hkl : k < (ovr ((mkIntS n x).map Ii) (x.map Ii) k).length := by rw [ovr_len hL (by simp; omega)]; simpa using hlt
    have hg2 : ∀ d, ((ovr ((mkIntS n x).map Ii) (x.map Ii) k).set k d)[k]? = some d := fun d => by rw [List.getElem?_set, if_pos rfl, if_pos hkl]
    have hs : (ovr ((mkIntS n x).map Ii) (x.map Ii) k).set k (.int .i64 (n + k)) = ovr ((mkIntS n x).map Ii) (x.map Ii) (k + 1) := ovr_set hL (by simpa using hlt) (by rw [List.getElem?_map, hmk]; rfl)
    simp only [go_sem, ↓reduceIte, Nat.reduceEqDiff, Nat.reduceAdd, Nat.reduceMul, Nat.reduceBEq, Option.getD_none, Int.reduceToNat, Nat.reduceSub, Nat.reduceLT, Nat.reduceLeDiff, Int.reduceLE, Int.reduceLT, reduceCtorEq, hi', hw, hw1, hg, hg2, List.set_set, hs, k0, h1, h5, hm]
    exact ⟨k + 1, by dsimp only; omega, by omega, by simp only [go_sem, ↓reduceIte, Nat.reduceEqDiff, Nat.reduceAdd, Nat.reduceMul, Nat.reduceBEq, Option.getD_none, Int.reduceToNat, Nat.reduceSub, Nat.reduceLT, Nat.reduceLeDiff, Int.reduceLE, Int.reduceLT, reduceCtorEq, k0, h1, h5, hm], by simp only [go_sem, ↓reduceIte, Nat.reduceEqDiff, Nat.reduceAdd, Nat.reduceMul, Nat.reduceBEq, Option.getD_none, Int.reduceToNat, Nat.reduceSub, Nat.reduceLT, Nat.reduceLeDiff, Int.reduceLE, Int.reduceLT, reduceCtorEq, k0, h1, h5, hm], by simp only [go_sem, ↓reduceIte, Nat.reduceEqDiff, Nat.reduceAdd, Nat.reduceMul, Nat.reduceBEq, Option.getD_none, Int.reduceToNat, Nat.reduceSub, Nat.reduceLT, Nat.reduceLeDiff, Int.reduceLE, Int.reduceLT, reduceCtorEq, k0, h1, h5, hm]⟩
  · have hi' : ¬ (k : Int) < x.length := by omega
    obtain rfl : k = x.length := by omega
    have hall : ovr ((mkIntS n x).map Ii) (x.map Ii) x.length = (mkIntS n x).map Ii := by have := ovr_all hL; simpa using this
    have htk : ((mkIntS n x).map Ii).take x.length = (mkIntS n x).map Ii := List.take_of_length_le (by simp [mkIntS_len])
    have hce : ((x.length : Nat) : Int) = x.length := by omega
    simp only [go_sem, ↓reduceIte, Nat.reduceEqDiff, Nat.reduceAdd, Nat.reduceMul, Nat.reduceBEq, Option.getD_none, Int.reduceToNat, Nat.reduceSub, Nat.reduceLT, Nat.reduceLeDiff, Int.reduceLE, Int.reduceLT, reduceCtorEq, hi', hall, mkIntS_len, htk, hce, k0, h1, h5, hm]
    try rfl
theorem laws_heldIntS.fcu (x : List Int) (n : Int) (h : x.length ≤ 1048576) (hc : x.length ≤ 16777216) (hn : 0 ≤ n ∧ n + (x.length : Nat) ≤ 576460752303423488) :
    FCt prog F_laws_heldIntS [.ro, .ro] [ints (mkIntS n x), Ii n] (Ii (n + (x.length : Nat))) [] := by
  refine fct_run laws_heldIntS.ok rfl ?_
  simp only [go_sem, ↓reduceIte, Nat.reduceEqDiff, Nat.reduceAdd, Nat.reduceMul, Nat.reduceBEq, Option.getD_none, Int.reduceToNat, Nat.reduceSub, Nat.reduceLT, Nat.reduceLeDiff, Int.reduceLE, Int.reduceLT, reduceCtorEq]
  refine R_loop (α := Nat) (fun k s' M' => k ≤ x.length ∧ s' 5 = aI k ∧ s' 1 = aI (n + k)) (fun k => x.length - k) 0 ⟨by omega, by simp only [go_sem, ↓reduceIte, Nat.reduceEqDiff, Nat.reduceAdd, Nat.reduceMul, Nat.reduceBEq, Option.getD_none, Int.reduceToNat, Nat.reduceSub, Nat.reduceLT, Nat.reduceLeDiff, Int.reduceLE, Int.reduceLT, reduceCtorEq]; rfl, by simp only [go_sem, ↓reduceIte, Nat.reduceEqDiff, Nat.reduceAdd, Nat.reduceMul, Nat.reduceBEq, Option.getD_none, Int.reduceToNat, Nat.reduceSub, Nat.reduceLT, Nat.reduceLeDiff, Int.reduceLE, Int.reduceLT, reduceCtorEq]; simp⟩ ?_
  rintro k s' M' ⟨hk, h5, h1⟩ ho
  unfold laws_heldIntS.b0
  have k0 : s' 0 = .dat none (ints (mkIntS n x)) := by rw [ho 0 rfl]; simp only [go_sem, ↓reduceIte, Nat.reduceEqDiff, Nat.reduceAdd, Nat.reduceMul, Nat.reduceBEq, Option.getD_none, Int.reduceToNat, Nat.reduceSub, Nat.reduceLT, Nat.reduceLeDiff, Int.reduceLE, Int.reduceLT, reduceCtorEq]
  clear ho
  by_cases hlt : k < x.length
  · have hi' : (k : Int) < x.length := by omega
    have hw : IntKind.i64.wrap (k + 1) = ((k + 1 : Nat) : Int) := wrap_k hlt (by omega)
    have hw1 : IntKind.i64.wrap (n + k + 1) = n + (k + 1 : Nat) := by rw [wrap_in (by omega) (by omega)]; try omega
    have hmk : (mkIntS n x)[k]? = some (n + k) := upFrom_get hlt
    simp only [go_sem, ↓reduceIte, Nat.reduceEqDiff, Nat.reduceAdd, Nat.reduceMul, Nat.reduceBEq, Option.getD_none, Int.reduceToNat, Nat.reduceSub, Nat.reduceLT, Nat.reduceLeDiff, Int.reduceLE, Int.reduceLT, reduceCtorEq, hi', hw, hw1, hmk, k0, h1, h5, mkIntS_len]
    exact ⟨k + 1, by dsimp only; omega, by omega, by simp only [go_sem, ↓reduceIte, Nat.reduceEqDiff, Nat.reduceAdd, Nat.reduceMul, Nat.reduceBEq, Option.getD_none, Int.reduceToNat, Nat.reduceSub, Nat.reduceLT, Nat.reduceLeDiff, Int.reduceLE, Int.reduceLT, reduceCtorEq, k0, h1, h5, mkIntS_len], by simp only [go_sem, ↓reduceIte, Nat.reduceEqDiff, Nat.reduceAdd, Nat.reduceMul, Nat.reduceBEq, Option.getD_none, Int.reduceToNat, Nat.reduceSub, Nat.reduceLT, Nat.reduceLeDiff, Int.reduceLE, Int.reduceLT, reduceCtorEq, k0, h1, h5, mkIntS_len]⟩
  · have hi' : ¬ (k : Int) < x.length := by omega
    obtain rfl : k = x.length := by omega
    have hce : ((x.length : Nat) : Int) = x.length := by omega
    simp only [go_sem, ↓reduceIte, Nat.reduceEqDiff, Nat.reduceAdd, Nat.reduceMul, Nat.reduceBEq, Option.getD_none, Int.reduceToNat, Nat.reduceSub, Nat.reduceLT, Nat.reduceLeDiff, Int.reduceLE, Int.reduceLT, reduceCtorEq, hi', hce, k0, h1, h5, mkIntS_len]

end Go.Vm.Ytdembjfpgfaheaa
/- Walks: the laws' own helpers, in one form: rules, rows of rows. -/
namespace Go.Vm.Ytdembjfpgfaheaa
open Go Go.Vm
set_option maxRecDepth 10000
set_option maxHeartbeats 4000000
set_option linter.unusedSimpArgs false
set_option linter.unusedVariables false

end Go.Vm.Ytdembjfpgfaheaa
/- Walks: what is put into a row that is handed over; the least facts. -/
namespace Go.Vm.Ytdembjfpgfaheaa
open Go Go.Vm
set_option maxRecDepth 10000
set_option maxHeartbeats 4000000
set_option linter.unusedSimpArgs false
set_option linter.unusedVariables false

end Go.Vm.Ytdembjfpgfaheaa
/- Walks: do rules hold among facts? -/
namespace Go.Vm.Ytdembjfpgfaheaa
open Go Go.Vm
set_option maxRecDepth 10000
set_option maxHeartbeats 4000000
set_option linter.unusedSimpArgs false
set_option linter.unusedVariables false

end Go.Vm.Ytdembjfpgfaheaa
/- Plain law: the least facts. -/
namespace Go.Vm.Ytdembjfpgfaheaa
open Go Go.Vm
set_option maxRecDepth 10000
set_option maxHeartbeats 4000000
set_option linter.unusedSimpArgs false
set_option linter.unusedVariables false

theorem mem_putI {l : List Int} {x y : Int} : y ∈ putI l x ↔ y = x ∨ y ∈ l := by
  unfold putI
  split
  · rename_i h
    have := List.mem_of_getElem? h
    constructor
    · exact .inr
    · rintro (rfl | h)
      · exact this
      · exact h
  · rw [List.mem_append, List.mem_cons]
    have : y ∈ l ↔ y ∈ l.take (putK l x) ∨ y ∈ l.drop (putK l x) := by rw [← List.mem_append, List.take_append_drop]
    rw [this]
    constructor
    · rintro (h | rfl | h)
      · exact .inr (.inl h)
      · exact .inl rfl
      · exact .inr (.inr h)
    · rintro (rfl | h | h)
      · exact .inr (.inl rfl)
      · exact .inl h
      · exact .inr (.inr h)
theorem hasI_iff {l : List Int} {x : Int} : hasI l x = true ↔ x ∈ l := by
  unfold hasI
  rw [List.any_eq_true]
  exact ⟨fun ⟨y, h, e⟩ => by rw [← (by simpa using e : y = x)]; exact h, fun h => ⟨x, h, by simp⟩⟩
theorem hasI_put {l : List Int} {x y : Int} : hasI (putI l x) y = (decide (y = x) || hasI l y) := by
  rw [Bool.eq_iff_iff, hasI_iff, mem_putI, Bool.or_eq_true, decide_eq_true_eq, hasI_iff]
/-- how many are not there -/
def lackN (n : Nat) (so : List Int) : Nat := ((List.range (n + 1)).filter fun (i : Nat) => !hasI so (i : Int)).length
theorem filter_lt {α : Type} {p q : α → Bool} {l : List α} {z : α} (hz : z ∈ l) (hp : p z = true) (hq : q z = false) (h : ∀ y, q y = true → p y = true) : (l.filter q).length < (l.filter p).length := by
  have e : l.filter q = (l.filter p).filter q := by
    rw [List.filter_filter]
    refine List.filter_congr fun y _ => ?_
    cases hh : q y with
    | false => simp
    | true => simp [h y hh]
  rw [e]
  exact List.length_filter_lt_length_iff_exists.2 ⟨z, List.mem_filter.2 ⟨hz, hp⟩, by simp [hq]⟩
theorem lack_put {n : Nat} {so : List Int} {x : Int} (hx : 0 ≤ x ∧ x ≤ n) (h : hasI so x = false) : lackN n (putI so x) + 1 ≤ lackN n so := by
  unfold lackN
  have e : ((x.toNat : Nat) : Int) = x := by omega
  refine Nat.succ_le_of_lt (filter_lt (z := x.toNat) (by simp; omega) ?_ ?_ fun y hy => ?_)
  · rw [e, h]; rfl
  · rw [e, hasI_put]; simp
  · rw [hasI_put] at hy; simp at hy; simp [hy.2]
theorem lack_le {n : Nat} {so : List Int} : lackN n so ≤ n + 1 := by
  unfold lackN
  exact Nat.le_trans (List.length_filter_le _ _) (by simp)
/-- a rule that gives a new fact -/
def readyR (so : List Int) (r : RuleD) : Bool := decide (r.thn > 0) && !hasI so r.thn && r.ifs.all (hasI so)
def ruleAt (l : List RuleD) (i : Nat) : RuleD := l.getD i ⟨[], 0⟩
def leastI (l : List RuleD) : Nat → List Int → List Int → List Int × List Int
  | 0, so, ap => (so, ap)
  | f + 1, so, ap => match l.findIdx? (readyR so) with
    | none => (so, ap)
    | some i => leastI l f (putI so (ruleAt l i).thn) (ap ++ [(i : Int)])
theorem ruleAt_get {l : List RuleD} {i : Nat} (h : i < l.length) : ruleAt l i = l[i] := by
  unfold ruleAt; rw [List.getD_eq_getElem?_getD, List.getElem?_eq_getElem h]; rfl
theorem ready_at {l : List RuleD} {so : List Int} {i : Nat} (h : l.findIdx? (readyR so) = some i) : i < l.length ∧ readyR so (ruleAt l i) = true := by
  rw [List.findIdx?_eq_some_iff_getElem] at h
  obtain ⟨hi, h, _⟩ := h
  exact ⟨hi, by rw [ruleAt_get hi]; exact h⟩
theorem ready_thn {so : List Int} {r : RuleD} (h : readyR so r = true) : 0 < r.thn ∧ hasI so r.thn = false := by
  simp only [readyR, Bool.and_eq_true, decide_eq_true_eq, Bool.not_eq_true'] at h
  exact ⟨h.1.1, h.1.2⟩
theorem ready_lack {n : Nat} {l : List RuleD} {so : List Int} {i : Nat} (hr : ∀ r ∈ l, r.thn ≤ n) (h : l.findIdx? (readyR so) = some i) : lackN n (putI so (ruleAt l i).thn) + 1 ≤ lackN n so := by
  obtain ⟨hi, h⟩ := ready_at h
  have := ready_thn h
  exact lack_put ⟨by omega, hr _ (by rw [ruleAt_get hi]; exact List.getElem_mem hi)⟩ this.2
theorem least_fuel {n : Nat} {l : List RuleD} (hr : ∀ r ∈ l, r.thn ≤ n) : ∀ (f g : Nat) (so ap : List Int), lackN n so ≤ f → lackN n so ≤ g → leastI l f so ap = leastI l g so ap := by
  intro f
  induction f with
  | zero =>
    intro g so ap hf hg
    cases g with
    | zero => rfl
    | succ g =>
      simp only [leastI]
      cases h : l.findIdx? (readyR so) with
      | none => rfl
      | some i => have := ready_lack hr h; omega
  | succ f ih =>
    intro g so ap hf hg
    cases g with
    | zero =>
      simp only [leastI]
      cases h : l.findIdx? (readyR so) with
      | none => rfl
      | some i => have := ready_lack hr h; omega
    | succ g =>
      simp only [leastI]
      cases h : l.findIdx? (readyR so) with
      | none => rfl
      | some i =>
        have := ready_lack hr h
        exact ih g _ _ (by omega) (by omega)
/-- the least facts and what was applied -/
def leastP (l : List RuleD) : List Int × List Int := leastI l 14 [] []
theorem least_step {n : Nat} {l : List RuleD} (hn : n ≤ 12) (hr : ∀ r ∈ l, r.thn ≤ n) {so ap : List Int} {i : Nat} (h : l.findIdx? (readyR so) = some i) : leastI l 14 (putI so (ruleAt l i).thn) (ap ++ [(i : Int)]) = leastI l 14 so ap := by
  have h1 : leastI l 15 so ap = leastI l 14 (putI so (ruleAt l i).thn) (ap ++ [(i : Int)]) := by simp only [leastI, h]
  have hl := lack_le (n := n) (so := so)
  rw [← h1]
  exact least_fuel hr _ _ _ _ (by omega) (by omega)
/-- what is known all along -/
structure LeastOk (n : Nat) (l : List RuleD) (so ap : List Int) : Prop where
  same : leastI l 14 so ap = leastP l
  sort : so = listI (n + 1) fun i => hasI so (i : Int)
  few : so.length ≤ ap.length
  left : ap.length + lackN n so ≤ n + 1
  apl : ∀ i ∈ ap, 0 ≤ i ∧ i < l.length ∧ 0 < (ruleAt l i.toNat).thn
theorem LeastOk.start {n : Nat} {l : List RuleD} : LeastOk n l [] [] where
  same := rfl
  sort := by
    have : listI (n + 1) (fun i => hasI [] (i : Int)) = [] := by
      unfold listI; rw [List.filter_eq_nil_iff.2 (by intro i _; simp [hasI])]; rfl
    rw [this]
  few := by simp
  left := by have := lack_le (n := n) (so := []); simpa using this
  apl := by simp
theorem LeastOk.next {n : Nat} {l : List RuleD} {so ap : List Int} (hn : n ≤ 12) (hr : ∀ r ∈ l, r.thn ≤ n) (h : LeastOk n l so ap) {i : Nat} (hi : l.findIdx? (readyR so) = some i) : LeastOk n l (putI so (ruleAt l i).thn) (ap ++ [(i : Int)]) where
  same := by rw [least_step hn hr hi]; exact h.same
  sort := by
    obtain ⟨h1, h2⟩ := ready_at hi
    have h3 := ready_thn h2
    have h4 : (ruleAt l i).thn ≤ n := hr _ (by rw [ruleAt_get h1]; exact List.getElem_mem h1)
    have hp := putI_list (n := n + 1) (p := fun i => hasI so (i : Int)) (x := (ruleAt l i).thn.toNat) (by omega)
    rw [← h.sort, show (((ruleAt l i).thn.toNat : Nat) : Int) = (ruleAt l i).thn by omega] at hp
    rw [hp]
    refine listI_congr fun j hj => ?_
    rw [← hp, hasI_put]
    by_cases e : j = (ruleAt l i).thn.toNat
    · rw [if_pos e]; simp; omega
    · rw [if_neg e]
      have : ¬ ((j : Int) = (ruleAt l i).thn) := by omega
      simp [this]
  few := by have := putI_len so (ruleAt l i).thn; have := h.few; simp; omega
  left := by have := ready_lack hr hi; have := h.left; simp; omega
  apl := fun j hj => by
    rcases List.mem_append.1 hj with hj | hj
    · exact h.apl j hj
    · obtain ⟨h1, h2⟩ := ready_at hi
      have : j = i := by simpa using hj
      subst this
      exact ⟨by omega, by omega, by rw [Int.toNat_natCast]; exact (ready_thn h2).1⟩
theorem LeastOk.len {n : Nat} {l : List RuleD} {so ap : List Int} (h : LeastOk n l so ap) (hn : n ≤ 12) : so.length ≤ 13 ∧ ap.length ≤ 13 := by
  have := h.few; have := h.left; omega
end Go.Vm.Ytdembjfpgfaheaa
/- Walks: the least facts. -/
namespace Go.Vm.Ytdembjfpgfaheaa
open Go Go.Vm
set_option maxRecDepth 10000
set_option maxHeartbeats 4000000
set_option linter.unusedSimpArgs false
set_option linter.unusedVariables false

end Go.Vm.Ytdembjfpgfaheaa
/- Walks: the least facts by the reference; why a fact holds. -/
namespace Go.Vm.Ytdembjfpgfaheaa
open Go Go.Vm
set_option maxRecDepth 10000
set_option maxHeartbeats 4000000
set_option linter.unusedSimpArgs false
set_option linter.unusedVariables false

end Go.Vm.Ytdembjfpgfaheaa
/- Walks: literals and clauses. -/
namespace Go.Vm.Ytdembjfpgfaheaa
open Go Go.Vm
set_option maxRecDepth 10000
set_option maxHeartbeats 4000000
set_option linter.unusedSimpArgs false
set_option linter.unusedVariables false

end Go.Vm.Ytdembjfpgfaheaa
/- Walks: rules as clauses. -/
namespace Go.Vm.Ytdembjfpgfaheaa
open Go Go.Vm
set_option maxRecDepth 10000
set_option maxHeartbeats 4000000
set_option linter.unusedSimpArgs false
set_option linter.unusedVariables false

theorem accC_bound {α : Type} {c : α → Nat} {b : Nat} : ∀ {l : List α}, (∀ x ∈ l, c x ≤ b) → accC c l ≤ b * l.length
  | [], _ => by simp [accC]
  | x :: l, h => by
    have h1 := h x List.mem_cons_self
    have h2 := accC_bound (l := l) fun y hy => h y (List.mem_cons_of_mem _ hy)
    simp only [accC, List.length_cons, Nat.mul_add]; omega
end Go.Vm.Ytdembjfpgfaheaa
/- Walks: copies, and what is struck out of a row. -/
namespace Go.Vm.Ytdembjfpgfaheaa
open Go Go.Vm
set_option maxRecDepth 10000
set_option maxHeartbeats 4000000
set_option linter.unusedSimpArgs false
set_option linter.unusedVariables false

theorem slices_Clone__sint_int.fc (l : List Int) (hl : l.length ≤ 4294967296) : FCt prog F_slices_Clone__sint_int [.ro] [ints l] (ints l) [] := by
  refine fct_run slices_Clone__sint_int.ok rfl ?_
  have hsc : (l.map Ii).all isSc = true := by rw [List.all_eq_true]; intro d hd; obtain ⟨x, _, rfl⟩ := List.mem_map.1 hd; rfl
  cases l with
  | nil => simp only [go_sem, ↓reduceIte, Nat.reduceEqDiff, Nat.reduceAdd, Nat.reduceMul, Nat.reduceBEq, Option.getD_none, Int.reduceToNat, Nat.reduceSub, Nat.reduceLT, Nat.reduceLeDiff, Int.reduceLE, Int.reduceLT, reduceCtorEq, List.length_nil, List.map_nil, List.all_nil]; try rfl
  | cons b l =>
    have hb : (l.length + 1) * 8 ≤ 70368744177664 := by simp only [List.length_cons] at hl; omega
    have htk : (l.map Ii).take l.length = l.map Ii := List.take_of_length_le (by simp)
    simp only [List.map_cons, List.all_cons, Bool.and_eq_true] at hsc
    have h1 := hsc.1
    have h2 := hsc.2
    simp only [go_sem, ↓reduceIte, Nat.reduceEqDiff, Nat.reduceAdd, Nat.reduceMul, Nat.reduceBEq, Option.getD_none, Int.reduceToNat, Nat.reduceSub, Nat.reduceLT, Nat.reduceLeDiff, Int.reduceLE, Int.reduceLT, reduceCtorEq, h1, h2, hb, Nat.zero_le, htk]
    try rfl

end Go.Vm.Ytdembjfpgfaheaa
/- Walks: what two sets of facts share; Horn clauses. -/
namespace Go.Vm.Ytdembjfpgfaheaa
open Go Go.Vm
set_option maxRecDepth 10000
set_option maxHeartbeats 4000000
set_option linter.unusedSimpArgs false
set_option linter.unusedVariables false

end Go.Vm.Ytdembjfpgfaheaa
/- Walks: the laws' own helpers for what may be. -/
namespace Go.Vm.Ytdembjfpgfaheaa
open Go Go.Vm
set_option maxRecDepth 10000
set_option maxHeartbeats 4000000
set_option linter.unusedSimpArgs false
set_option linter.unusedVariables false

abbrev strD (x : (Int × Int)) : D := .agg [Ii x.1, Ii x.2]
abbrev knownD (x : (Int × Int)) : D := .agg [Ii x.1, Ii x.2]
abbrev strs (l : List (Int × Int)) : D := .sl 2 (l.map strD)
abbrev knowns (l : List (Int × Int)) : D := .sl 2 (l.map knownD)
def mkBoolS (n : Int) (l : List Bool) : List Bool := (List.range l.length).map fun (i : Nat) => (n + (i : Int)).tmod 3 == 0
theorem mkBoolS_len {n : Int} {l : List Bool} : (mkBoolS n l).length = l.length := by simp [mkBoolS]
theorem laws_eqBoolS.fcu (x : List Bool) (h : x.length ≤ 1048576) :
    FCt prog F_laws_eqBoolS [.ro, .ro] [bools x, bools x] (Bb true) [] := by
  refine fct_run laws_eqBoolS.ok rfl ?_
  have h0 := h
  simp only [go_sem, ↓reduceIte, Nat.reduceEqDiff, Nat.reduceAdd, Nat.reduceMul, Nat.reduceBEq, Option.getD_none, Int.reduceToNat, Nat.reduceSub, Nat.reduceLT, Nat.reduceLeDiff, Int.reduceLE, Int.reduceLT, reduceCtorEq]
  refine R_loop (α := Nat) (fun k s' M' => k ≤ x.length ∧ s' 5 = aI k) (fun k => x.length - k) 0 ⟨by omega, by simp only [go_sem, ↓reduceIte, Nat.reduceEqDiff, Nat.reduceAdd, Nat.reduceMul, Nat.reduceBEq, Option.getD_none, Int.reduceToNat, Nat.reduceSub, Nat.reduceLT, Nat.reduceLeDiff, Int.reduceLE, Int.reduceLT, reduceCtorEq]; rfl⟩ ?_
  rintro k s' M' ⟨hk, h5⟩ ho
  unfold laws_eqBoolS.b0
  have k0 : s' 0 = .dat none (bools x) := by rw [ho 0 rfl]; simp only [go_sem, ↓reduceIte, Nat.reduceEqDiff, Nat.reduceAdd, Nat.reduceMul, Nat.reduceBEq, Option.getD_none, Int.reduceToNat, Nat.reduceSub, Nat.reduceLT, Nat.reduceLeDiff, Int.reduceLE, Int.reduceLT, reduceCtorEq]
  have k1 : s' 1 = .dat none (bools x) := by rw [ho 1 rfl]; simp only [go_sem, ↓reduceIte, Nat.reduceEqDiff, Nat.reduceAdd, Nat.reduceMul, Nat.reduceBEq, Option.getD_none, Int.reduceToNat, Nat.reduceSub, Nat.reduceLT, Nat.reduceLeDiff, Int.reduceLE, Int.reduceLT, reduceCtorEq]
  clear ho
  by_cases hlt : k < x.length
  · have hi' : (k : Int) < x.length := by omega
    have ga : x[k]? = some x[k] := List.getElem?_eq_getElem hlt
    have hw : IntKind.i64.wrap (k + 1) = ((k + 1 : Nat) : Int) := wrap_k hlt (by omega)
    have hbb : (x[k] == x[k]) = true := by simp
    simp only [go_sem, ↓reduceIte, Nat.reduceEqDiff, Nat.reduceAdd, Nat.reduceMul, Nat.reduceBEq, Option.getD_none, Int.reduceToNat, Nat.reduceSub, Nat.reduceLT, Nat.reduceLeDiff, Int.reduceLE, Int.reduceLT, reduceCtorEq, h5, hi', ga, hw, hbb, k0, k1]
    exact ⟨k + 1, by dsimp only; omega, by omega, by simp only [go_sem, ↓reduceIte, Nat.reduceEqDiff, Nat.reduceAdd, Nat.reduceMul, Nat.reduceBEq, Option.getD_none, Int.reduceToNat, Nat.reduceSub, Nat.reduceLT, Nat.reduceLeDiff, Int.reduceLE, Int.reduceLT, reduceCtorEq, k0, k1]⟩
  · have hi' : ¬ (k : Int) < x.length := by omega
    obtain rfl : k = x.length := by omega
    simp only [go_sem, ↓reduceIte, Nat.reduceEqDiff, Nat.reduceAdd, Nat.reduceMul, Nat.reduceBEq, Option.getD_none, Int.reduceToNat, Nat.reduceSub, Nat.reduceLT, Nat.reduceLeDiff, Int.reduceLE, Int.reduceLT, reduceCtorEq, h5, hi', k0, k1]
theorem laws_markBoolS.fcu (x : List Bool) (n : Int) (h : x.length ≤ 1048576) (hc : x.length ≤ 16777216) (hn : 0 ≤ n ∧ n + (x.length : Nat) ≤ 576460752303423488) :
    FCt prog F_laws_markBoolS [.io, .ro] [bools x, Ii n] (Ii (n + (x.length : Nat))) [bools (mkBoolS n x)] := by
  refine fct_run laws_markBoolS.ok rfl ?_
  have hL : ((mkBoolS n x).map Bb).length = (x.map Bb).length := by simp [mkBoolS_len]
  simp only [go_sem, ↓reduceIte, Nat.reduceEqDiff, Nat.reduceAdd, Nat.reduceMul, Nat.reduceBEq, Option.getD_none, Int.reduceToNat, Nat.reduceSub, Nat.reduceLT, Nat.reduceLeDiff, Int.reduceLE, Int.reduceLT, reduceCtorEq]
  refine R_loop (α := Nat) (fun k s' M' => k ≤ x.length ∧ s' 5 = aI k ∧ s' 1 = aI (n + k) ∧ M'.m 0 = some (.arr 0 true 1 (ovr ((mkBoolS n x).map Bb) (x.map Bb) k))) (fun k => x.length - k) 0
    ⟨by omega, by simp only [go_sem, ↓reduceIte, Nat.reduceEqDiff, Nat.reduceAdd, Nat.reduceMul, Nat.reduceBEq, Option.getD_none, Int.reduceToNat, Nat.reduceSub, Nat.reduceLT, Nat.reduceLeDiff, Int.reduceLE, Int.reduceLT, reduceCtorEq]; rfl, by simp only [go_sem, ↓reduceIte, Nat.reduceEqDiff, Nat.reduceAdd, Nat.reduceMul, Nat.reduceBEq, Option.getD_none, Int.reduceToNat, Nat.reduceSub, Nat.reduceLT, Nat.reduceLeDiff, Int.reduceLE, Int.reduceLT, reduceCtorEq]; simp, by simp only [go_sem, ↓reduceIte, Nat.reduceEqDiff, Nat.reduceAdd, Nat.reduceMul, Nat.reduceBEq, Option.getD_none, Int.reduceToNat, Nat.reduceSub, Nat.reduceLT, Nat.reduceLeDiff, Int.reduceLE, Int.reduceLT, reduceCtorEq]; simp [ovr_zero]⟩ ?_
  rintro k s' M' ⟨hk, h5, h1, hm⟩ ho
  unfold laws_markBoolS.b0
  have k0 : s' 0 = .sl 0 0 0 x.length 1 := by rw [ho 0 rfl]; simp only [go_sem, ↓reduceIte, Nat.reduceEqDiff, Nat.reduceAdd, Nat.reduceMul, Nat.reduceBEq, Option.getD_none, Int.reduceToNat, Nat.reduceSub, Nat.reduceLT, Nat.reduceLeDiff, Int.reduceLE, Int.reduceLT, reduceCtorEq]
  clear ho
  by_cases hlt : k < x.length
  · have hi' : (k : Int) < x.length := by omega
    have ga : x[k]? = some x[k] := List.getElem?_eq_getElem hlt
    have hw : IntKind.i64.wrap (k + 1) = ((k + 1 : Nat) : Int) := wrap_k hlt (by omega)
    have hw1 : IntKind.i64.wrap (n + k + 1) = n + (k + 1 : Nat) := by rw [wrap_in (by omega) (by omega)]; try omega
    have hmk : (mkBoolS n x)[k]? = some (((n + (k : Int)).tmod 3 == 0)) := by simp [mkBoolS, hlt]
    have hg : (ovr ((mkBoolS n x).map Bb) (x.map Bb) k)[k]? = some (Bb x[k]) := by rw [ovr_get hL (by simpa using hlt)]; simp [hlt]
    have hkl : k < (ovr ((mkBoolS n x).map Bb) (x.map Bb) k).length := by rw [ovr_len hL (by simp; omega)]; simpa using hlt
    have hg2 : ∀ d, ((ovr ((mkBoolS n x).map Bb) (x.map Bb) k).set k d)[k]? = some d := fun d => by rw [List.getElem?_set, if_pos rfl, if_pos hkl]
    have hs : (ovr ((mkBoolS n x).map Bb) (x.map Bb) k).set k (.bool ((n + (k : Int)).tmod 3 == 0)) = ovr ((mkBoolS n x).map Bb) (x.map Bb) (k + 1) := ovr_set hL (by simpa using hlt) (by rw [List.getElem?_map, hmk]; rfl)
    simp only [go_sem, ↓reduceIte, Nat.reduceEqDiff, Nat.reduceAdd, Nat.reduceMul, Nat.reduceBEq, Option.getD_none, Int.reduceToNat, Nat.reduceSub, Nat.reduceLT, Nat.reduceLeDiff, Int.reduceLE, Int.reduceLT, reduceCtorEq, hi', hw, hw1, hg, hg2, List.set_set, hs, show ¬ (3 : Int) = 0 by omega, k0, h1, h5, hm]
    exact ⟨k + 1, by dsimp only; omega, by omega, by simp only [go_sem, ↓reduceIte, Nat.reduceEqDiff, Nat.reduceAdd, Nat.reduceMul, Nat.reduceBEq, Option.getD_none, Int.reduceToNat, Nat.reduceSub, Nat.reduceLT, Nat.reduceLeDiff, Int.reduceLE, Int.reduceLT, reduceCtorEq, k0, h1, h5, hm], by simp only [go_sem, ↓reduceIte, Nat.reduceEqDiff, Nat.reduceAdd, Nat.reduceMul, Nat.reduceBEq, Option.getD_none, Int.reduceToNat, Nat.reduceSub, Nat.reduceLT, Nat.reduceLeDiff, Int.reduceLE, Int.reduceLT, reduceCtorEq, k0, h1, h5, hm], by simp only [go_sem, ↓reduceIte, Nat.reduceEqDiff, Nat.reduceAdd, Nat.reduceMul, Nat.reduceBEq, Option.getD_none, Int.reduceToNat, Nat.reduceSub, Nat.reduceLT, Nat.reduceLeDiff, Int.reduceLE, Int.reduceLT, reduceCtorEq, k0, h1, h5, hm]⟩
  · have hi' : ¬ (k : Int) < x.length := by omega
    obtain rfl : k = x.length := by omega
    have hall : ovr ((mkBoolS n x).map Bb) (x.map Bb) x.length = (mkBoolS n x).map Bb := by have := ovr_all hL; simpa using this
    have htk : ((mkBoolS n x).map Bb).take x.length = (mkBoolS n x).map Bb := List.take_of_length_le (by simp [mkBoolS_len])
    have hce : ((x.length : Nat) : Int) = x.length := by omega
    simp only [go_sem, ↓reduceIte, Nat.reduceEqDiff, Nat.reduceAdd, Nat.reduceMul, Nat.reduceBEq, Option.getD_none, Int.reduceToNat, Nat.reduceSub, Nat.reduceLT, Nat.reduceLeDiff, Int.reduceLE, Int.reduceLT, reduceCtorEq, hi', hall, mkBoolS_len, htk, hce, k0, h1, h5, hm]
    try rfl
theorem laws_heldBoolS.fcu (x : List Bool) (n : Int) (h : x.length ≤ 1048576) (hc : x.length ≤ 16777216) (hn : 0 ≤ n ∧ n + (x.length : Nat) ≤ 576460752303423488) :
    FCt prog F_laws_heldBoolS [.ro, .ro] [bools (mkBoolS n x), Ii n] (Ii (n + (x.length : Nat))) [] := by
  refine fct_run laws_heldBoolS.ok rfl ?_
  simp only [go_sem, ↓reduceIte, Nat.reduceEqDiff, Nat.reduceAdd, Nat.reduceMul, Nat.reduceBEq, Option.getD_none, Int.reduceToNat, Nat.reduceSub, Nat.reduceLT, Nat.reduceLeDiff, Int.reduceLE, Int.reduceLT, reduceCtorEq]
  refine R_loop (α := Nat) (fun k s' M' => k ≤ x.length ∧ s' 5 = aI k ∧ s' 1 = aI (n + k)) (fun k => x.length - k) 0 ⟨by omega, by simp only [go_sem, ↓reduceIte, Nat.reduceEqDiff, Nat.reduceAdd, Nat.reduceMul, Nat.reduceBEq, Option.getD_none, Int.reduceToNat, Nat.reduceSub, Nat.reduceLT, Nat.reduceLeDiff, Int.reduceLE, Int.reduceLT, reduceCtorEq]; rfl, by simp only [go_sem, ↓reduceIte, Nat.reduceEqDiff, Nat.reduceAdd, Nat.reduceMul, Nat.reduceBEq, Option.getD_none, Int.reduceToNat, Nat.reduceSub, Nat.reduceLT, Nat.reduceLeDiff, Int.reduceLE, Int.reduceLT, reduceCtorEq]; simp⟩ ?_
  rintro k s' M' ⟨hk, h5, h1⟩ ho
  unfold laws_heldBoolS.b0
  have k0 : s' 0 = .dat none (bools (mkBoolS n x)) := by rw [ho 0 rfl]; simp only [go_sem, ↓reduceIte, Nat.reduceEqDiff, Nat.reduceAdd, Nat.reduceMul, Nat.reduceBEq, Option.getD_none, Int.reduceToNat, Nat.reduceSub, Nat.reduceLT, Nat.reduceLeDiff, Int.reduceLE, Int.reduceLT, reduceCtorEq]
  clear ho
  by_cases hlt : k < x.length
  · have hi' : (k : Int) < x.length := by omega
    have hw : IntKind.i64.wrap (k + 1) = ((k + 1 : Nat) : Int) := wrap_k hlt (by omega)
    have hw1 : IntKind.i64.wrap (n + k + 1) = n + (k + 1 : Nat) := by rw [wrap_in (by omega) (by omega)]; try omega
    have hmk : (mkBoolS n x)[k]? = some (((n + (k : Int)).tmod 3 == 0)) := by simp [mkBoolS, hlt]
    simp only [go_sem, ↓reduceIte, Nat.reduceEqDiff, Nat.reduceAdd, Nat.reduceMul, Nat.reduceBEq, Option.getD_none, Int.reduceToNat, Nat.reduceSub, Nat.reduceLT, Nat.reduceLeDiff, Int.reduceLE, Int.reduceLT, reduceCtorEq, hi', hw, hw1, hmk, show ¬ (3 : Int) = 0 by omega, k0, h1, h5, mkBoolS_len]
    exact ⟨k + 1, by dsimp only; omega, by omega, by simp only [go_sem, ↓reduceIte, Nat.reduceEqDiff, Nat.reduceAdd, Nat.reduceMul, Nat.reduceBEq, Option.getD_none, Int.reduceToNat, Nat.reduceSub, Nat.reduceLT, Nat.reduceLeDiff, Int.reduceLE, Int.reduceLT, reduceCtorEq, k0, h1, h5, mkBoolS_len], by simp only [go_sem, ↓reduceIte, Nat.reduceEqDiff, Nat.reduceAdd, Nat.reduceMul, Nat.reduceBEq, Option.getD_none, Int.reduceToNat, Nat.reduceSub, Nat.reduceLT, Nat.reduceLeDiff, Int.reduceLE, Int.reduceLT, reduceCtorEq, k0, h1, h5, mkBoolS_len]⟩
  · have hi' : ¬ (k : Int) < x.length := by omega
    obtain rfl : k = x.length := by omega
    have hce : ((x.length : Nat) : Int) = x.length := by omega
    simp only [go_sem, ↓reduceIte, Nat.reduceEqDiff, Nat.reduceAdd, Nat.reduceMul, Nat.reduceBEq, Option.getD_none, Int.reduceToNat, Nat.reduceSub, Nat.reduceLT, Nat.reduceLeDiff, Int.reduceLE, Int.reduceLT, reduceCtorEq, hi', hce, k0, h1, h5, mkBoolS_len]

structure MayD where
  reg : List (Int × Int)
  bits : List (Int × Int)
  cell : List (Int × Int)
  isset : List Bool
  deriving DecidableEq
abbrev MayD.d (x : MayD) : D := .agg [strs x.reg, knowns x.bits, strs x.cell, bools x.isset]
end Go.Vm.Ytdembjfpgfaheaa
/- Walks: good may-states. -/
namespace Go.Vm.Ytdembjfpgfaheaa
open Go Go.Vm
set_option maxRecDepth 10000
set_option maxHeartbeats 4000000
set_option linter.unusedSimpArgs false
set_option linter.unusedVariables false

def gS (x : Int × Int) : Bool := goodS x.1 x.2
def gK (x : Int × Int) : Bool := goodK x.1 x.2
structure MayOk (m : MayD) : Prop where
  reg : m.reg.length = 6
  bits : m.bits.length = 6
  cell : m.cell.length = 16
  isset : m.isset.length = 16
  gr : ∀ x ∈ m.reg, gS x = true
  gb : ∀ x ∈ m.bits, gK x = true
  gc : ∀ x ∈ m.cell, gS x = true
end Go.Vm.Ytdembjfpgfaheaa
/- Walks: the may-state at the start. -/
namespace Go.Vm.Ytdembjfpgfaheaa
open Go Go.Vm
set_option maxRecDepth 10000
set_option maxHeartbeats 4000000
set_option linter.unusedSimpArgs false
set_option linter.unusedVariables false

end Go.Vm.Ytdembjfpgfaheaa
/- Walks: machines; is a machine among those that may be? -/
namespace Go.Vm.Ytdembjfpgfaheaa
open Go Go.Vm
set_option maxRecDepth 10000
set_option maxHeartbeats 4000000
set_option linter.unusedSimpArgs false
set_option linter.unusedVariables false

structure MachD where
  pc : Int
  regs : List Int
  cells : List Int
  isset : List Bool
  deriving DecidableEq
abbrev MachD.d (x : MachD) : D := .agg [Ii x.pc, ints x.regs, ints x.cells, bools x.isset]
structure MachOk (m : MachD) : Prop where
  pc : 0 ≤ m.pc ∧ m.pc ≤ 19
  regs : m.regs.length = 6
  cells : m.cells.length = 16
  isset : m.isset.length = 16
  wr : ∀ x ∈ m.regs, 0 ≤ x ∧ x ≤ 65535
  wc : ∀ x ∈ m.cells, 0 ≤ x ∧ x ≤ 65535
theorem all_range {p : Nat → Bool} {k : Nat} (h : (List.range k).all p = true) (h2 : p k = true) : (List.range (k + 1)).all p = true := by
  rw [List.range_succ, List.all_append, h]; simpa using h2
theorem not_range {p : Nat → Bool} {n k : Nat} (hk : k < n) (h2 : p k = false) : (List.range n).all p = false := by
  rw [← Bool.not_eq_true, List.all_eq_true]
  intro h
  have := h k (by simpa using hk)
  rw [h2] at this; cases this
end Go.Vm.Ytdembjfpgfaheaa
/- Walks: is a machine among those that may be (the reference). -/
namespace Go.Vm.Ytdembjfpgfaheaa
open Go Go.Vm
set_option maxRecDepth 10000
set_option maxHeartbeats 4000000
set_option linter.unusedSimpArgs false
set_option linter.unusedVariables false

end Go.Vm.Ytdembjfpgfaheaa
/- Bits of whole numbers: plain laws. -/
namespace Go.Vm.Ytdembjfpgfaheaa
open Go Go.Vm
set_option maxRecDepth 10000
set_option maxHeartbeats 4000000
set_option linter.unusedSimpArgs false
set_option linter.unusedVariables false

/-! ### as rows of 64 bits -/
end Go.Vm.Ytdembjfpgfaheaa
/- Walks: operations on words. -/
namespace Go.Vm.Ytdembjfpgfaheaa
open Go Go.Vm
set_option maxRecDepth 10000
set_option maxHeartbeats 4000000
set_option linter.unusedSimpArgs false
set_option linter.unusedVariables false

theorem cdW_not {A B : Prop} {t : Bool} (h1 : t = false → A) (h2 : t = true → B) : @cdW (some (!t)) ⟨A⟩ ⟨B⟩ := by
  cases t
  · exact h1 rfl
  · exact h2 rfl
theorem gdW_not {A B : Prop} {t b : Bool} (h1 : t = !b → A) (h2 : t = b → B) : @gdW (some (some (!t))) b ⟨A⟩ ⟨B⟩ := by
  cases t <;> cases b
  · exact h2 rfl
  · exact h1 rfl
  · exact h1 rfl
  · exact h2 rfl
end Go.Vm.Ytdembjfpgfaheaa
/- Walks: intervals. -/
namespace Go.Vm.Ytdembjfpgfaheaa
open Go Go.Vm
set_option maxRecDepth 10000
set_option maxHeartbeats 4000000
set_option linter.unusedSimpArgs false
set_option linter.unusedVariables false

end Go.Vm.Ytdembjfpgfaheaa
/- Walks: operations on intervals. -/
namespace Go.Vm.Ytdembjfpgfaheaa
open Go Go.Vm
set_option maxRecDepth 10000
set_option maxHeartbeats 8000000
set_option linter.unusedSimpArgs false
set_option linter.unusedVariables false

end Go.Vm.Ytdembjfpgfaheaa
/- Walks: known bits. -/
namespace Go.Vm.Ytdembjfpgfaheaa
open Go Go.Vm
set_option maxRecDepth 10000
set_option maxHeartbeats 8000000
set_option linter.unusedSimpArgs false
set_option linter.unusedVariables false

end Go.Vm.Ytdembjfpgfaheaa
/- Walks: operations on known bits. -/
namespace Go.Vm.Ytdembjfpgfaheaa
open Go Go.Vm
set_option maxRecDepth 10000
set_option maxHeartbeats 8000000
set_option linter.unusedSimpArgs false
set_option linter.unusedVariables false

end Go.Vm.Ytdembjfpgfaheaa
/- Walks: states are copied and joined. -/
namespace Go.Vm.Ytdembjfpgfaheaa
open Go Go.Vm
set_option maxRecDepth 10000
set_option maxHeartbeats 8000000
set_option linter.unusedSimpArgs false
set_option linter.unusedVariables false

structure MLen (m : MayD) : Prop where
  reg : m.reg.length = 6
  bits : m.bits.length = 6
  cell : m.cell.length = 16
  isset : m.isset.length = 16
theorem MayOk.len {m : MayD} (h : MayOk m) : MLen m := ⟨h.reg, h.bits, h.cell, h.isset⟩
section
variable {α : Type} {A B : List α} {k : Nat} {f : α → D}
end
end Go.Vm.Ytdembjfpgfaheaa
/- Walks: states are joined, if they are valid. -/
namespace Go.Vm.Ytdembjfpgfaheaa
open Go Go.Vm
set_option maxRecDepth 10000
set_option maxHeartbeats 8000000
set_option linter.unusedSimpArgs false
set_option linter.unusedVariables false

end Go.Vm.Ytdembjfpgfaheaa
/- Walks: steps. -/
namespace Go.Vm.Ytdembjfpgfaheaa
open Go Go.Vm
set_option maxRecDepth 10000
set_option maxHeartbeats 8000000
set_option linter.unusedSimpArgs false
set_option linter.unusedVariables false

structure StepD where
  kind : Int
  op : Int
  dst : Int
  src : Int
  imm : Int
  to : Int
  deriving DecidableEq
abbrev StepD.d (x : StepD) : D := .agg [Ii x.kind, Ii x.op, Ii x.dst, Ii x.src, Ii x.imm, Ii x.to]
abbrev TyStep : Ty := .st [(.int .i64), (.int .i64), (.int .i64), (.int .i64), (.int .i64), (.int .i64)]
theorem hasStep {d : D} (h : HasTy TyStep d) : ∃ x : StepD, d = StepD.d x ∧ True := by
  simp only [HasTy] at h
  obtain ⟨ys, rfl, h⟩ := h
  simp only [HasTys] at h
  obtain ⟨d0, s0, rfl, h0, d1, s1, rfl, h1, d2, s2, rfl, h2, d3, s3, rfl, h3, d4, s4, rfl, h4, d5, s5, rfl, h5, rfl⟩ := h
  obtain ⟨x0, rfl, _⟩ := hasInt h0
  obtain ⟨x1, rfl, _⟩ := hasInt h1
  obtain ⟨x2, rfl, _⟩ := hasInt h2
  obtain ⟨x3, rfl, _⟩ := hasInt h3
  obtain ⟨x4, rfl, _⟩ := hasInt h4
  obtain ⟨x5, rfl, _⟩ := hasInt h5
  exact ⟨⟨x0, x1, x2, x3, x4, x5⟩, rfl, trivial⟩
theorem laws_toStep.fcu (x : StepD) :
    FCt prog F_laws_toStep [.ro] [StepD.d x] (StepD.d x) [] := by
  refine fct_run laws_toStep.ok rfl ?_
  simp only [go_sem, ↓reduceIte, Nat.reduceEqDiff, Nat.reduceAdd, Nat.reduceMul, Nat.reduceBEq, Option.getD_none, Int.reduceToNat, Nat.reduceSub, Nat.reduceLT, Nat.reduceLeDiff, Int.reduceLE, Int.reduceLT, reduceCtorEq]
theorem laws_eqStep.fcu (x : StepD) :
    FCt prog F_laws_eqStep [.ro, .ro] [StepD.d x, StepD.d x] (Bb true) [] := by
  refine fct_run laws_eqStep.ok rfl ?_
  simp only [go_sem, ↓reduceIte, Nat.reduceEqDiff, Nat.reduceAdd, Nat.reduceMul, Nat.reduceBEq, Option.getD_none, Int.reduceToNat, Nat.reduceSub, Nat.reduceLT, Nat.reduceLeDiff, Int.reduceLE, Int.reduceLT, reduceCtorEq]

abbrev steps (l : List StepD) : D := .sl 6 (l.map StepD.d)
theorem noRs_steps {l : List StepD} : noRs (steps l) = true := noRs_sl (by
  intro d hd
  obtain ⟨x, _, rfl⟩ := List.mem_map.1 hd
  exact rfl)
def mkStepS (n : Int) (l : List StepD) : List StepD := (List.range l.length).map fun (i : Nat) => ⟨n + 6 * (i : Int), n + 6 * (i : Int) + 1, n + 6 * (i : Int) + 2, n + 6 * (i : Int) + 3, n + 6 * (i : Int) + 4, n + 6 * (i : Int) + 5⟩
theorem mkStepS_len {n : Int} {l : List StepD} : (mkStepS n l).length = l.length := by simp [mkStepS]
theorem mkStepS_take {n : Int} {l : List StepD} : ((mkStepS n l).map StepD.d).take l.length = (mkStepS n l).map StepD.d := List.take_of_length_le (by simp [mkStepS_len])
theorem hasStepS {d : D} (h : HasTy (.sl TyStep) d) : ∃ l : List StepD, d = steps l ∧ l.length ≤ 9223372036854775807 := by
  obtain ⟨l, rfl, hl, hp⟩ := hasSl (f := StepD.d) (p := fun x => True) (fun x h => hasStep h) h
  exact ⟨l, rfl, hl⟩
theorem laws_toStepS.fcu (x : List StepD) (h : x.length ≤ 1048576) :
    FCt prog F_laws_toStepS [.ro] [steps x] (steps x) [] := by
  refine fct_run laws_toStepS.ok rfl ?_
  have h0 := h
  have c1 : (x.length : Int) * (48 : Nat) ≤ 70368744177664 := by omega
  simp only [go_sem, ↓reduceIte, Nat.reduceEqDiff, Nat.reduceAdd, Nat.reduceMul, Nat.reduceBEq, Option.getD_none, Int.reduceToNat, Nat.reduceSub, Nat.reduceLT, Nat.reduceLeDiff, Int.reduceLE, Int.reduceLT, reduceCtorEq, Int.le_refl, c1]
  refine R_loop (α := Nat) (fun k s' M' => k ≤ x.length ∧ s' 4 = aI k ∧ ∃ v, s' 3 = .sl 256 v 0 x.length 6 ∧ M'.m 256 = some (.arr v true 6 (fill StepD.d (.agg [Ii 0, Ii 0, Ii 0, Ii 0, Ii 0, Ii 0]) x k))) (fun k => x.length - k) 0
    ⟨by omega, by simp only [go_sem, ↓reduceIte, Nat.reduceEqDiff, Nat.reduceAdd, Nat.reduceMul, Nat.reduceBEq, Option.getD_none, Int.reduceToNat, Nat.reduceSub, Nat.reduceLT, Nat.reduceLeDiff, Int.reduceLE, Int.reduceLT, reduceCtorEq]; rfl, _, by simp only [go_sem, ↓reduceIte, Nat.reduceEqDiff, Nat.reduceAdd, Nat.reduceMul, Nat.reduceBEq, Option.getD_none, Int.reduceToNat, Nat.reduceSub, Nat.reduceLT, Nat.reduceLeDiff, Int.reduceLE, Int.reduceLT, reduceCtorEq]; rfl, by simp only [go_sem, ↓reduceIte, Nat.reduceEqDiff, Nat.reduceAdd, Nat.reduceMul, Nat.reduceBEq, Option.getD_none, Int.reduceToNat, Nat.reduceSub, Nat.reduceLT, Nat.reduceLeDiff, Int.reduceLE, Int.reduceLT, reduceCtorEq]; rw [fill_zero]⟩ ?_
  rintro k s' M' ⟨hk, h4, v, h3, hm⟩ ho
  unfold laws_toStepS.b0
  have k0 : s' 0 = .dat none (steps x) := by rw [ho 0 rfl]; simp only [go_sem, ↓reduceIte, Nat.reduceEqDiff, Nat.reduceAdd, Nat.reduceMul, Nat.reduceBEq, Option.getD_none, Int.reduceToNat, Nat.reduceSub, Nat.reduceLT, Nat.reduceLeDiff, Int.reduceLE, Int.reduceLT, reduceCtorEq]
  clear ho
  by_cases hlt : k < x.length
  · have hi' : (k : Int) < x.length := by omega
    have ga : x[k]? = some x[k] := List.getElem?_eq_getElem hlt
    have hw : IntKind.i64.wrap (k + 1) = ((k + 1 : Nat) : Int) := wrap_k hlt (by omega)
    have hf := fill_get (f := StepD.d) (z := (.agg [Ii 0, Ii 0, Ii 0, Ii 0, Ii 0, Ii 0])) hlt
    simp only [go_sem, ↓reduceIte, Nat.reduceEqDiff, Nat.reduceAdd, Nat.reduceMul, Nat.reduceBEq, Option.getD_none, Int.reduceToNat, Nat.reduceSub, Nat.reduceLT, Nat.reduceLeDiff, Int.reduceLE, Int.reduceLT, reduceCtorEq, h4, h3, hi', ga, hw, hm, hf, k0]
    refine fcW_bd (laws_toStep.fcu _) rfl ?_
    simp only [go_sem, ↓reduceIte, Nat.reduceEqDiff, Nat.reduceAdd, Nat.reduceMul, Nat.reduceBEq, Option.getD_none, Int.reduceToNat, Nat.reduceSub, Nat.reduceLT, Nat.reduceLeDiff, Int.reduceLE, Int.reduceLT, reduceCtorEq, h4, h3, hi', ga, hw, hm, hf, take_map_len, k0]
    refine ⟨k + 1, by dsimp only; omega, by omega, by simp only [go_sem, ↓reduceIte, Nat.reduceEqDiff, Nat.reduceAdd, Nat.reduceMul, Nat.reduceBEq, Option.getD_none, Int.reduceToNat, Nat.reduceSub, Nat.reduceLT, Nat.reduceLeDiff, Int.reduceLE, Int.reduceLT, reduceCtorEq, k0], v, by simp only [go_sem, ↓reduceIte, Nat.reduceEqDiff, Nat.reduceAdd, Nat.reduceMul, Nat.reduceBEq, Option.getD_none, Int.reduceToNat, Nat.reduceSub, Nat.reduceLT, Nat.reduceLeDiff, Int.reduceLE, Int.reduceLT, reduceCtorEq, h3, k0], by simp only [go_sem, ↓reduceIte, Nat.reduceEqDiff, Nat.reduceAdd, Nat.reduceMul, Nat.reduceBEq, Option.getD_none, Int.reduceToNat, Nat.reduceSub, Nat.reduceLT, Nat.reduceLeDiff, Int.reduceLE, Int.reduceLT, reduceCtorEq, k0]; rw [← fill_set hlt]⟩
  · have hi' : ¬ (k : Int) < x.length := by omega
    obtain rfl : k = x.length := by omega
    have hlen := fill_len (f := StepD.d) (z := (.agg [Ii 0, Ii 0, Ii 0, Ii 0, Ii 0, Ii 0])) (Nat.le_refl x.length)
    simp only [go_sem, ↓reduceIte, Nat.reduceEqDiff, Nat.reduceAdd, Nat.reduceMul, Nat.reduceBEq, Option.getD_none, Int.reduceToNat, Nat.reduceSub, Nat.reduceLT, Nat.reduceLeDiff, Int.reduceLE, Int.reduceLT, reduceCtorEq, h4, h3, hi', hm, hlen, k0]
    simp only [fill_all, mkR_one, take_map_len]
theorem laws_eqStepS.fcu (x : List StepD) (h : x.length ≤ 1048576) :
    FCt prog F_laws_eqStepS [.ro, .ro] [steps x, steps x] (Bb true) [] := by
  refine fct_run laws_eqStepS.ok rfl ?_
  have h0 := h
  simp only [go_sem, ↓reduceIte, Nat.reduceEqDiff, Nat.reduceAdd, Nat.reduceMul, Nat.reduceBEq, Option.getD_none, Int.reduceToNat, Nat.reduceSub, Nat.reduceLT, Nat.reduceLeDiff, Int.reduceLE, Int.reduceLT, reduceCtorEq]
  refine R_loop (α := Nat) (fun k s' M' => k ≤ x.length ∧ s' 5 = aI k) (fun k => x.length - k) 0 ⟨by omega, by simp only [go_sem, ↓reduceIte, Nat.reduceEqDiff, Nat.reduceAdd, Nat.reduceMul, Nat.reduceBEq, Option.getD_none, Int.reduceToNat, Nat.reduceSub, Nat.reduceLT, Nat.reduceLeDiff, Int.reduceLE, Int.reduceLT, reduceCtorEq]; rfl⟩ ?_
  rintro k s' M' ⟨hk, h5⟩ ho
  unfold laws_eqStepS.b0
  have k0 : s' 0 = .dat none (steps x) := by rw [ho 0 rfl]; simp only [go_sem, ↓reduceIte, Nat.reduceEqDiff, Nat.reduceAdd, Nat.reduceMul, Nat.reduceBEq, Option.getD_none, Int.reduceToNat, Nat.reduceSub, Nat.reduceLT, Nat.reduceLeDiff, Int.reduceLE, Int.reduceLT, reduceCtorEq]
  have k1 : s' 1 = .dat none (steps x) := by rw [ho 1 rfl]; simp only [go_sem, ↓reduceIte, Nat.reduceEqDiff, Nat.reduceAdd, Nat.reduceMul, Nat.reduceBEq, Option.getD_none, Int.reduceToNat, Nat.reduceSub, Nat.reduceLT, Nat.reduceLeDiff, Int.reduceLE, Int.reduceLT, reduceCtorEq]
  clear ho
  by_cases hlt : k < x.length
  · have hi' : (k : Int) < x.length := by omega
    have ga : x[k]? = some x[k] := List.getElem?_eq_getElem hlt
    have hw : IntKind.i64.wrap (k + 1) = ((k + 1 : Nat) : Int) := wrap_k hlt (by omega)
    simp only [go_sem, ↓reduceIte, Nat.reduceEqDiff, Nat.reduceAdd, Nat.reduceMul, Nat.reduceBEq, Option.getD_none, Int.reduceToNat, Nat.reduceSub, Nat.reduceLT, Nat.reduceLeDiff, Int.reduceLE, Int.reduceLT, reduceCtorEq, h5, hi', ga, hw, k0, k1]
    refine fcW_bool (laws_eqStep.fcu _) ?_
    simp only [go_sem, ↓reduceIte, Nat.reduceEqDiff, Nat.reduceAdd, Nat.reduceMul, Nat.reduceBEq, Option.getD_none, Int.reduceToNat, Nat.reduceSub, Nat.reduceLT, Nat.reduceLeDiff, Int.reduceLE, Int.reduceLT, reduceCtorEq, h5, hw, k0, k1]
    exact ⟨k + 1, by dsimp only; omega, by omega, by simp only [go_sem, ↓reduceIte, Nat.reduceEqDiff, Nat.reduceAdd, Nat.reduceMul, Nat.reduceBEq, Option.getD_none, Int.reduceToNat, Nat.reduceSub, Nat.reduceLT, Nat.reduceLeDiff, Int.reduceLE, Int.reduceLT, reduceCtorEq, k0, k1]⟩
  · have hi' : ¬ (k : Int) < x.length := by omega
    obtain rfl : k = x.length := by omega
    simp only [go_sem, ↓reduceIte, Nat.reduceEqDiff, Nat.reduceAdd, Nat.reduceMul, Nat.reduceBEq, Option.getD_none, Int.reduceToNat, Nat.reduceSub, Nat.reduceLT, Nat.reduceLeDiff, Int.reduceLE, Int.reduceLT, reduceCtorEq, h5, hi', k0, k1]
theorem laws_szStepS.fcu (x : List StepD) (n : Int) (hn : 0 ≤ n ∧ n ≤ 1048576) (hw : x.length ≤ 9223372036854775807) :
    FCt prog F_laws_szStepS [.ro, .ro] [steps x, Ii n] (Ii (if n < (x.length : Nat) then -1 else n - (x.length : Nat))) [] := by
  refine fct_run laws_szStepS.ok rfl ?_
  have hx : IntKind.i64.wrap (n - x.length) = n - x.length := wrap_in (by omega) (by omega)
  by_cases h : n < (x.length : Nat)
  · have h' : n - x.length < 0 := by omega
    simp only [go_sem, ↓reduceIte, Nat.reduceEqDiff, Nat.reduceAdd, Nat.reduceMul, Nat.reduceBEq, Option.getD_none, Int.reduceToNat, Nat.reduceSub, Nat.reduceLT, Nat.reduceLeDiff, Int.reduceLE, Int.reduceLT, reduceCtorEq, hx, h, h']
  · have h' : ¬ n - x.length < 0 := by omega
    simp only [go_sem, ↓reduceIte, Nat.reduceEqDiff, Nat.reduceAdd, Nat.reduceMul, Nat.reduceBEq, Option.getD_none, Int.reduceToNat, Nat.reduceSub, Nat.reduceLT, Nat.reduceLeDiff, Int.reduceLE, Int.reduceLT, reduceCtorEq, hx, h, h']
theorem laws_markStepS.fcu (x : List StepD) (n : Int) (h : x.length ≤ 1048576) (hc : (6 * x.length) ≤ 16777216) (hn : 0 ≤ n ∧ n + ((6 * x.length) : Nat) ≤ 576460752303423488) :
    FCt prog F_laws_markStepS [.io, .ro] [steps x, Ii n] (Ii (n + ((6 * x.length) : Nat))) [steps (mkStepS n x)] := by
  refine fct_run laws_markStepS.ok rfl ?_
  have hL : ((mkStepS n x).map StepD.d).length = (x.map StepD.d).length := by simp [mkStepS_len]
  simp only [go_sem, ↓reduceIte, Nat.reduceEqDiff, Nat.reduceAdd, Nat.reduceMul, Nat.reduceBEq, Option.getD_none, Int.reduceToNat, Nat.reduceSub, Nat.reduceLT, Nat.reduceLeDiff, Int.reduceLE, Int.reduceLT, reduceCtorEq]
  refine R_loop (α := Nat) (fun k s' M' => k ≤ x.length ∧ s' 5 = aI k ∧ s' 1 = aI (n + 6 * k) ∧ M'.m 0 = some (.arr 0 true 6 (ovr ((mkStepS n x).map StepD.d) (x.map StepD.d) k))) (fun k => x.length - k) 0
    ⟨by omega, by simp only [go_sem, ↓reduceIte, Nat.reduceEqDiff, Nat.reduceAdd, Nat.reduceMul, Nat.reduceBEq, Option.getD_none, Int.reduceToNat, Nat.reduceSub, Nat.reduceLT, Nat.reduceLeDiff, Int.reduceLE, Int.reduceLT, reduceCtorEq]; rfl, by simp only [go_sem, ↓reduceIte, Nat.reduceEqDiff, Nat.reduceAdd, Nat.reduceMul, Nat.reduceBEq, Option.getD_none, Int.reduceToNat, Nat.reduceSub, Nat.reduceLT, Nat.reduceLeDiff, Int.reduceLE, Int.reduceLT, reduceCtorEq]; simp, by simp only [go_sem, ↓reduceIte, Nat.reduceEqDiff, Nat.reduceAdd, Nat.reduceMul, Nat.reduceBEq, Option.getD_none, Int.reduceToNat, Nat.reduceSub, Nat.reduceLT, Nat.reduceLeDiff, Int.reduceLE, Int.reduceLT, reduceCtorEq]; simp [ovr_zero]⟩ ?_
  rintro k s' M' ⟨hk, h5, h1, hm⟩ ho
  unfold laws_markStepS.b0
  have k0 : s' 0 = .sl 0 0 0 x.length 6 := by rw [ho 0 rfl]; simp only [go_sem, ↓reduceIte, Nat.reduceEqDiff, Nat.reduceAdd, Nat.reduceMul, Nat.reduceBEq, Option.getD_none, Int.reduceToNat, Nat.reduceSub, Nat.reduceLT, Nat.reduceLeDiff, Int.reduceLE, Int.reduceLT, reduceCtorEq]
  clear ho
  by_cases hlt : k < x.length
  · have hi' : (k : Int) < x.length := by omega
    have ga : x[k]? = some x[k] := List.getElem?_eq_getElem hlt
    have hw : IntKind.i64.wrap (k + 1) = ((k + 1 : Nat) : Int) := wrap_k hlt (by omega)
    have hw1 : IntKind.i64.wrap (n + 6 * k + 1) = n + 6 * k + 1 := by rw [wrap_in (by omega) (by omega)]; try omega
    have hw2 : IntKind.i64.wrap (n + 6 * k + 1 + 1) = n + 6 * k + 2 := by rw [wrap_in (by omega) (by omega)]; try omega
    have hw3 : IntKind.i64.wrap (n + 6 * k + 2 + 1) = n + 6 * k + 3 := by rw [wrap_in (by omega) (by omega)]; try omega
    have hw4 : IntKind.i64.wrap (n + 6 * k + 3 + 1) = n + 6 * k + 4 := by rw [wrap_in (by omega) (by omega)]; try omega
    have hw5 : IntKind.i64.wrap (n + 6 * k + 4 + 1) = n + 6 * k + 5 := by rw [wrap_in (by omega) (by omega)]; try omega
    have hw6 : IntKind.i64.wrap (n + 6 * k + 5 + 1) = n + 6 * (k + 1 : Nat) := by rw [wrap_in (by omega) (by omega)]; try omega
    have hmk : (mkStepS n x)[k]? = some (⟨n + 6 * (k : Int), n + 6 * (k : Int) + 1, n + 6 * (k : Int) + 2, n + 6 * (k : Int) + 3, n + 6 * (k : Int) + 4, n + 6 * (k : Int) + 5⟩) := by simp [mkStepS, hlt]
    have hg : (ovr ((mkStepS n x).map StepD.d) (x.map StepD.d) k)[k]? = some (StepD.d x[k]) := by rw [ovr_get hL (by simpa using hlt)]; simp [hlt]
    have hkl : k < (ovr ((mkStepS n x).map StepD.d) (x.map StepD.d) k).length := by rw [ovr_len hL (by simp; omega)]; simpa using hlt
    have hg2 : ∀ d, ((ovr ((mkStepS n x).map StepD.d) (x.map StepD.d) k).set k d)[k]? = some d := fun d => by rw [List.getElem?_set, if_pos rfl, if_pos hkl]
    have hs : (ovr ((mkStepS n x).map StepD.d) (x.map StepD.d) k).set k (.agg [.int .i64 (n + 6 * k), .int .i64 (n + 6 * k + 1), .int .i64 (n + 6 * k + 2), .int .i64 (n + 6 * k + 3), .int .i64 (n + 6 * k + 4), .int .i64 (n + 6 * k + 5)]) = ovr ((mkStepS n x).map StepD.d) (x.map StepD.d) (k + 1) := ovr_set hL (by simpa using hlt) (by rw [List.getElem?_map, hmk]; rfl)
    simp only [go_sem, ↓reduceIte, Nat.reduceEqDiff, Nat.reduceAdd, Nat.reduceMul, Nat.reduceBEq, Option.getD_none, Int.reduceToNat, Nat.reduceSub, Nat.reduceLT, Nat.reduceLeDiff, Int.reduceLE, Int.reduceLT, reduceCtorEq, hi', hw, hw1, hw2, hw3, hw4, hw5, hw6, hg, hg2, List.set_set, hs, k0, h1, h5, hm]
    exact ⟨k + 1, by dsimp only; omega, by omega, by simp only [go_sem, ↓reduceIte, Nat.reduceEqDiff, Nat.reduceAdd, Nat.reduceMul, Nat.reduceBEq, Option.getD_none, Int.reduceToNat, Nat.reduceSub, Nat.reduceLT, Nat.reduceLeDiff, Int.reduceLE, Int.reduceLT, reduceCtorEq, k0, h1, h5, hm], by simp only [go_sem, ↓reduceIte, Nat.reduceEqDiff, Nat.reduceAdd, Nat.reduceMul, Nat.reduceBEq, Option.getD_none, Int.reduceToNat, Nat.reduceSub, Nat.reduceLT, Nat.reduceLeDiff, Int.reduceLE, Int.reduceLT, reduceCtorEq, k0, h1, h5, hm], by simp only [go_sem, ↓reduceIte, Nat.reduceEqDiff, Nat.reduceAdd, Nat.reduceMul, Nat.reduceBEq, Option.getD_none, Int.reduceToNat, Nat.reduceSub, Nat.reduceLT, Nat.reduceLeDiff, Int.reduceLE, Int.reduceLT, reduceCtorEq, k0, h1, h5, hm]⟩
  · have hi' : ¬ (k : Int) < x.length := by omega
    obtain rfl : k = x.length := by omega
    have hall : ovr ((mkStepS n x).map StepD.d) (x.map StepD.d) x.length = (mkStepS n x).map StepD.d := by have := ovr_all hL; simpa using this
    have htk : ((mkStepS n x).map StepD.d).take x.length = (mkStepS n x).map StepD.d := List.take_of_length_le (by simp [mkStepS_len])
    have hce : (((6 * x.length) : Nat) : Int) = 6 * x.length := by omega
    simp only [go_sem, ↓reduceIte, Nat.reduceEqDiff, Nat.reduceAdd, Nat.reduceMul, Nat.reduceBEq, Option.getD_none, Int.reduceToNat, Nat.reduceSub, Nat.reduceLT, Nat.reduceLeDiff, Int.reduceLE, Int.reduceLT, reduceCtorEq, hi', hall, mkStepS_len, htk, hce, k0, h1, h5, hm]
    try rfl

theorem spec_l2Reg.fc (n : Int) : FCt prog F_spec_l2Reg [.ro] [Ii n] (Bb (inB n 0 5)) [] := by
  refine fct_run spec_l2Reg.ok rfl ?_
  repeat' (first | with_reducible rfl | refine fcW_bool (spec_l1In.fc ..) ?_ | with_reducible refine cdW_dec (fun _ => ?_) (fun _ => ?_) | refine cdW_not (fun _ => ?_) (fun _ => ?_) | refine cdW_any (fun _ => ?_) (fun _ => ?_) | with_reducible refine gdW_decT (fun _ => ?_) (fun _ => ?_) | with_reducible refine gdW_decF (fun _ => ?_) (fun _ => ?_) | refine gdW_not (fun _ => ?_) (fun _ => ?_) | refine gdW_any (fun _ => ?_) (fun _ => ?_) | simp only [go_sem, ↓reduceIte, Nat.reduceEqDiff, Nat.reduceAdd, Nat.reduceMul, Nat.reduceBEq, Option.getD_none, Int.reduceToNat, Nat.reduceSub, Nat.reduceLT, Nat.reduceLeDiff, Int.reduceLE, Int.reduceLT, reduceCtorEq, bne, Int.reduceEq, Int.reduceBEq, Int.reduceBNe, Int.reduceLE, Int.reduceNeg, Int.reduceAdd, Int.reduceSub, Int.reduceMul, *] | rfl)
def zeroB (s : StepD) (op dst src imm to : Bool) : Bool := (op || s.op == 0) && (dst || s.dst == 0) && (src || s.src == 0) && (imm || s.imm == 0) && (to || s.to == 0)
theorem spec_l2Zero.fc (s : StepD) (op dst src imm to : Bool) : FCt prog F_spec_l2Zero [.ro, .ro, .ro, .ro, .ro, .ro] [s.d, Bb op, Bb dst, Bb src, Bb imm, Bb to] (Bb (zeroB s op dst src imm to)) [] := by
  refine fct_run spec_l2Zero.ok rfl ?_
  unfold zeroB
  repeat' (first | with_reducible rfl | with_reducible refine cdW_dec (fun _ => ?_) (fun _ => ?_) | refine cdW_not (fun _ => ?_) (fun _ => ?_) | refine cdW_any (fun _ => ?_) (fun _ => ?_) | with_reducible refine gdW_decT (fun _ => ?_) (fun _ => ?_) | with_reducible refine gdW_decF (fun _ => ?_) (fun _ => ?_) | refine gdW_not (fun _ => ?_) (fun _ => ?_) | refine gdW_any (fun _ => ?_) (fun _ => ?_) | simp only [go_sem, ↓reduceIte, Nat.reduceEqDiff, Nat.reduceAdd, Nat.reduceMul, Nat.reduceBEq, Option.getD_none, Int.reduceToNat, Nat.reduceSub, Nat.reduceLT, Nat.reduceLeDiff, Int.reduceLE, Int.reduceLT, reduceCtorEq, bne, Int.reduceEq, Int.reduceBEq, Int.reduceBNe, Int.reduceLE, Int.reduceNeg, Int.reduceAdd, Int.reduceSub, Int.reduceMul, *] | rfl)
def stepB (s : StepD) : Bool :=
  if !inB s.dst 0 5 then false else if !inB s.src 0 5 then false else
  if s.kind == 1 then inB s.op 1 10 && zeroB s true true true false false else
  if s.kind == 2 then inB s.op 1 10 && inB s.imm 0 255 && zeroB s true true false true false else
  if s.kind == 3 then inB s.imm 0 255 && zeroB s false true false true false else
  if s.kind == 4 then inB s.imm 256 65535 && zeroB s false true false true false else
  if s.kind == 5 then inB s.imm 0 7 && zeroB s false true true true false else
  if s.kind == 6 then inB s.imm 0 255 && zeroB s false true false true false else
  if s.kind == 7 then inB s.imm 0 255 && zeroB s false true false true false else
  if s.kind == 8 then inB s.to 1 19 && zeroB s false false false false true else
  if s.kind == 9 then inB s.to 1 19 && zeroB s false true true false true else
  if s.kind == 10 then inB s.to 1 19 && zeroB s false true true false true else
  (s.kind == 11) && zeroB s false false false false false
theorem spec_l2Step.fc (s : StepD) : FCt prog F_spec_l2Step [.ro] [s.d] (Bb (stepB s)) [] := by
  refine fct_run spec_l2Step.ok rfl ?_
  unfold stepB
  repeat' (first | with_reducible rfl | refine fcW_bool (spec_l1In.fc ..) ?_ | refine fcW_bool (spec_l2Reg.fc ..) ?_ | refine fcW_bool (spec_l2Zero.fc ..) ?_ | with_reducible refine cdW_dec (fun _ => ?_) (fun _ => ?_) | refine cdW_not (fun _ => ?_) (fun _ => ?_) | refine cdW_any (fun _ => ?_) (fun _ => ?_) | with_reducible refine gdW_decT (fun _ => ?_) (fun _ => ?_) | with_reducible refine gdW_decF (fun _ => ?_) (fun _ => ?_) | refine gdW_not (fun _ => ?_) (fun _ => ?_) | refine gdW_any (fun _ => ?_) (fun _ => ?_) | simp only [go_sem, ↓reduceIte, Nat.reduceEqDiff, Nat.reduceAdd, Nat.reduceMul, Nat.reduceBEq, Option.getD_none, Int.reduceToNat, Nat.reduceSub, Nat.reduceLT, Nat.reduceLeDiff, Int.reduceLE, Int.reduceLT, reduceCtorEq, bne, Int.reduceEq, Int.reduceBEq, Int.reduceBNe, Int.reduceLE, Int.reduceNeg, Int.reduceAdd, Int.reduceSub, Int.reduceMul, *] | rfl)
end Go.Vm.Ytdembjfpgfaheaa
/- Walks: valid steps. -/
namespace Go.Vm.Ytdembjfpgfaheaa
open Go Go.Vm
set_option maxRecDepth 10000
set_option maxHeartbeats 8000000
set_option linter.unusedSimpArgs false
set_option linter.unusedVariables false

/-- the letters of a kind's fields -/
def fldL (k : Int) : List UInt8 :=
  if k == 1 then [111, 100, 115] else if k == 2 then [111, 100, 105] else if k == 3 then [100, 105] else if k == 4 then [100, 105] else if k == 6 then [100, 105] else if k == 7 then [100, 105] else
  if k == 5 then [100, 115, 105] else if k == 8 then [116] else if k == 9 then [100, 115, 116] else if k == 10 then [100, 115, 116] else []
def strL (l : List UInt8) : ByteArray := ⟨l.toArray⟩
theorem impl_fields.fc (k : Int) : FCt prog F_impl_fields [.ro] [Ii k] (.str (strL (fldL k))) [] := by
  refine fct_run impl_fields.ok rfl ?_
  unfold fldL
  repeat' (first | with_reducible rfl | with_reducible refine cdW_dec (fun _ => ?_) (fun _ => ?_) | refine cdW_not (fun _ => ?_) (fun _ => ?_) | refine cdW_any (fun _ => ?_) (fun _ => ?_) | with_reducible refine gdW_decT (fun _ => ?_) (fun _ => ?_) | with_reducible refine gdW_decF (fun _ => ?_) (fun _ => ?_) | refine gdW_not (fun _ => ?_) (fun _ => ?_) | refine gdW_any (fun _ => ?_) (fun _ => ?_) | simp only [go_sem, ↓reduceIte, Nat.reduceEqDiff, Nat.reduceAdd, Nat.reduceMul, Nat.reduceBEq, Option.getD_none, Int.reduceToNat, Nat.reduceSub, Nat.reduceLT, Nat.reduceLeDiff, Int.reduceLE, Int.reduceLT, reduceCtorEq, bne, Int.reduceEq, Int.reduceBEq, Int.reduceBNe, Int.reduceLE, Int.reduceNeg, Int.reduceAdd, Int.reduceSub, Int.reduceMul, *] | rfl)
  all_goals rfl
def rgF (k : Int) (c : Int) : Int × Int :=
  if c == 111 then (1, 10) else if c == 100 then (0, 5) else if c == 115 then (0, 5) else if c == 116 then (1, 19) else
  if k == 4 then (256, 65535) else if k == 5 then (0, 7) else (0, 255)
theorem impl_Step_ranges.fc (s : StepD) (c : Int) : FCt prog F_impl_Step_ranges [.ro, .ro] [s.d, .int .u8 c] (.tup [Ii (rgF s.kind c).1, Ii (rgF s.kind c).2]) [] := by
  refine fct_run impl_Step_ranges.ok rfl ?_
  unfold rgF
  repeat' (first | with_reducible rfl | with_reducible refine cdW_dec (fun _ => ?_) (fun _ => ?_) | refine cdW_not (fun _ => ?_) (fun _ => ?_) | refine cdW_any (fun _ => ?_) (fun _ => ?_) | with_reducible refine gdW_decT (fun _ => ?_) (fun _ => ?_) | with_reducible refine gdW_decF (fun _ => ?_) (fun _ => ?_) | refine gdW_not (fun _ => ?_) (fun _ => ?_) | refine gdW_any (fun _ => ?_) (fun _ => ?_) | simp only [go_sem, ↓reduceIte, Nat.reduceEqDiff, Nat.reduceAdd, Nat.reduceMul, Nat.reduceBEq, Option.getD_none, Int.reduceToNat, Nat.reduceSub, Nat.reduceLT, Nat.reduceLeDiff, Int.reduceLE, Int.reduceLT, reduceCtorEq, bne, Int.reduceEq, Int.reduceBEq, Int.reduceBNe, Int.reduceLE, Int.reduceNeg, Int.reduceAdd, Int.reduceSub, Int.reduceMul, *] | rfl)
/-- the place of a letter's field -/
theorem field_pc {c : Int} {j : Nat} (h : c = 111 ∧ j = 1 ∨ c = 100 ∧ j = 2 ∨ c = 115 ∧ j = 3 ∨ c = 105 ∧ j = 4 ∨ c = 116 ∧ j = 5) : PCt prog F_impl_pStep_field (.int .u8 c) j := by
  refine ⟨by kernel_rfl, ?_⟩
  intro X w a v hv
  simp only [TV] at hv
  obtain ⟨rfl, _⟩ := hv
  rcases h with ⟨rfl, rfl⟩ | ⟨rfl, rfl⟩ | ⟨rfl, rfl⟩ | ⟨rfl, rfl⟩ | ⟨rfl, rfl⟩ <;>
  · go_enter Go.Proofs.Try.func110, Go.Proofs.Try.ntmps110
    go_wp2
    go_ret
    exact ⟨rfl, rfl⟩
def getF (s : StepD) (c : UInt8) : Int := if c = 111 then s.op else if c = 100 then s.dst else if c = 115 then s.src else if c = 105 then s.imm else s.to
def clrF (s : StepD) (c : UInt8) : StepD := if c = 111 then { s with op := 0 } else if c = 100 then { s with dst := 0 } else if c = 115 then { s with src := 0 } else if c = 105 then { s with imm := 0 } else { s with to := 0 }
def okF (s : StepD) (c : UInt8) : Bool := inB (getF s c) (rgF s.kind c.toNat).1 (rgF s.kind c.toNat).2
def restF (s : StepD) (l : List UInt8) : StepD := l.foldl clrF { s with kind := 0 }
def validB (s : StepD) : Bool := (fldL s.kind).all (okF s) && (inB s.kind 1 11 && (restF s (fldL s.kind) == ⟨0, 0, 0, 0, 0, 0⟩))
theorem fldL_len (k : Int) : (fldL k).length ≤ 3 := by
  unfold fldL; repeat' (split <;> try decide)
theorem fldL_mem {k : Int} {c : UInt8} (h : c ∈ fldL k) : c = 111 ∨ c = 100 ∨ c = 115 ∨ c = 105 ∨ c = 116 := by
  have : (fldL k).all (fun c => c == 111 || c == 100 || c == 115 || c == 105 || c == 116) = true := by
    unfold fldL; repeat' split
    all_goals rfl
  have := List.all_eq_true.1 this c h
  simp only [Bool.or_eq_true, beq_iff_eq] at this
  rcases this with (((h | h) | h) | h) | h <;> simp [h]
theorem valid_not {s : StepD} {i : Nat} (h : i < (fldL s.kind).length) (h2 : okF s (fldL s.kind)[i] = false) : validB s = false := by
  unfold validB; rw [not_all h h2]; rfl
theorem rest_step {s : StepD} {l : List UInt8} {i : Nat} (h : i < l.length) : restF s (l.take (i + 1)) = clrF (restF s (l.take i)) l[i] := by
  unfold restF; rw [take_succ' h, List.foldl_append]; rfl
theorem impl_Step_valid.fc (s : StepD) : FCt prog F_impl_Step_valid [.ro] [s.d] (Bb (validB s)) [] := by
  refine fct_run impl_Step_valid.ok rfl ?_
  simp only [go_sem, ↓reduceIte, Nat.reduceEqDiff, Nat.reduceAdd, Nat.reduceMul, Nat.reduceBEq, Option.getD_none, Int.reduceToNat, Nat.reduceSub, Nat.reduceLT, Nat.reduceLeDiff, Int.reduceLE, Int.reduceLT, reduceCtorEq]
  refine fcW_str (impl_fields.fc s.kind) ?_
  have hln := fldL_len s.kind
  have hsz : (strL (fldL s.kind)).size = (fldL s.kind).length := rfl
  simp only [go_sem, ↓reduceIte, Nat.reduceEqDiff, Nat.reduceAdd, Nat.reduceMul, Nat.reduceBEq, Option.getD_none, Int.reduceToNat, Nat.reduceSub, Nat.reduceLT, Nat.reduceLeDiff, Int.reduceLE, Int.reduceLT, reduceCtorEq, hsz]
  refine R_loop (α := Nat) (fun i s' M' => i ≤ (fldL s.kind).length ∧ s' 14 = aI i ∧ ((fldL s.kind).take i).all (okF s) = true ∧ M'.m 64 = some (.box 0 (.dat none s.d)) ∧
      ∃ r, restF s ((fldL s.kind).take i) = r ∧ M'.m 256 = some (.box 192 (.agg [aI r.kind, aI r.op, aI r.dst, aI r.src, aI r.imm, aI r.to]))) (fun i => (fldL s.kind).length - i) 0
    ⟨by omega, by simp only [go_sem, ↓reduceIte, Nat.reduceEqDiff, Nat.reduceAdd, Nat.reduceMul, Nat.reduceBEq, Option.getD_none, Int.reduceToNat, Nat.reduceSub, Nat.reduceLT, Nat.reduceLeDiff, Int.reduceLE, Int.reduceLT, reduceCtorEq]; rfl, by simp, by simp only [go_sem, ↓reduceIte, Nat.reduceEqDiff, Nat.reduceAdd, Nat.reduceMul, Nat.reduceBEq, Option.getD_none, Int.reduceToNat, Nat.reduceSub, Nat.reduceLT, Nat.reduceLeDiff, Int.reduceLE, Int.reduceLT, reduceCtorEq], { s with kind := 0 }, by simp [restF], by simp only [go_sem, ↓reduceIte, Nat.reduceEqDiff, Nat.reduceAdd, Nat.reduceMul, Nat.reduceBEq, Option.getD_none, Int.reduceToNat, Nat.reduceSub, Nat.reduceLT, Nat.reduceLeDiff, Int.reduceLE, Int.reduceLT, reduceCtorEq]⟩ ?_
  rintro i s' M' ⟨hi, h14, hall, m1, r, hr, m2⟩ ho
  unfold impl_Step_valid.b0
  have k1 : s' 1 = .ptr 64 0 0 none := by rw [ho 1 rfl]; simp only [go_sem, ↓reduceIte, Nat.reduceEqDiff, Nat.reduceAdd, Nat.reduceMul, Nat.reduceBEq, Option.getD_none, Int.reduceToNat, Nat.reduceSub, Nat.reduceLT, Nat.reduceLeDiff, Int.reduceLE, Int.reduceLT, reduceCtorEq]
  have k3 : s' 3 = .ptr 256 192 0 none := by rw [ho 3 rfl]; simp only [go_sem, ↓reduceIte, Nat.reduceEqDiff, Nat.reduceAdd, Nat.reduceMul, Nat.reduceBEq, Option.getD_none, Int.reduceToNat, Nat.reduceSub, Nat.reduceLT, Nat.reduceLeDiff, Int.reduceLE, Int.reduceLT, reduceCtorEq]
  have k13 : s' 13 = aI (fldL s.kind).length := by rw [ho 13 rfl]; simp only [go_sem, ↓reduceIte, Nat.reduceEqDiff, Nat.reduceAdd, Nat.reduceMul, Nat.reduceBEq, Option.getD_none, Int.reduceToNat, Nat.reduceSub, Nat.reduceLT, Nat.reduceLeDiff, Int.reduceLE, Int.reduceLT, reduceCtorEq]
  clear ho
  by_cases hlt : i < (fldL s.kind).length
  · have hi' : (i : Int) < (fldL s.kind).length := by omega
    have hw : IntKind.i64.wrap (i + 1) = ((i + 1 : Nat) : Int) := by rw [wrap_in (by omega) (by omega)]; omega
    have hbd : 0 ≤ (i : Int) ∧ (i : Int) < (strL (fldL s.kind)).size := ⟨by omega, by rw [hsz]; omega⟩
    have hgt : ∀ h, (strL (fldL s.kind))[i]'h = (fldL s.kind)[i] := fun _ => rfl
    have hmem := fldL_mem (List.getElem_mem hlt)
    have hnot := valid_not hlt
    have hst := rest_step (s := s) hlt
    rw [hr] at hst
    have hall' : okF s (fldL s.kind)[i] = true → ((fldL s.kind).take (i + 1)).all (okF s) = true := fun h => all_take hlt hall h
    simp only [go_sem, ↓reduceIte, Nat.reduceEqDiff, Nat.reduceAdd, Nat.reduceMul, Nat.reduceBEq, Option.getD_none, Int.reduceToNat, Nat.reduceSub, Nat.reduceLT, Nat.reduceLeDiff, Int.reduceLE, Int.reduceLT, reduceCtorEq, hi', k1, k3, k13, h14, m1, m2]
    refine fcW_str (impl_fields.fc s.kind) ?_
    simp only [go_sem, ↓reduceIte, Nat.reduceEqDiff, Nat.reduceAdd, Nat.reduceMul, Nat.reduceBEq, Option.getD_none, Int.reduceToNat, Nat.reduceSub, Nat.reduceLT, Nat.reduceLeDiff, Int.reduceLE, Int.reduceLT, reduceCtorEq, hbd, hgt, ↓reduceDIte, k1, k3, k13, h14, m1, m2]
    generalize (fldL s.kind)[i] = c at hmem hnot hst hall' ⊢
    refine fcW_bd (impl_Step_ranges.fc s c.toNat) rfl ?_
    simp only [go_sem, ↓reduceIte, Nat.reduceEqDiff, Nat.reduceAdd, Nat.reduceMul, Nat.reduceBEq, Option.getD_none, Int.reduceToNat, Nat.reduceSub, Nat.reduceLT, Nat.reduceLeDiff, Int.reduceLE, Int.reduceLT, reduceCtorEq, k1, k3, k13, h14, m1, m2]
    unfold okF at hnot hall'
    rcases hmem with rfl | rfl | rfl | rfl | rfl
    · refine fcF_of (field_pc (j := 1) (.inl ⟨rfl, rfl⟩)) ?_
      simp only [go_sem, ↓reduceIte, Nat.reduceEqDiff, Nat.reduceAdd, Nat.reduceMul, Nat.reduceBEq, Option.getD_none, Int.reduceToNat, Nat.reduceSub, Nat.reduceLT, Nat.reduceLeDiff, Int.reduceLE, Int.reduceLT, reduceCtorEq, k1, k3, k13, h14, m1, m2]
      refine fcW_bool (impl_in.fc _ _ _) ?_
      cases hc : inB s.op (rgF s.kind (UInt8.toNat 111)).1 (rgF s.kind (UInt8.toNat 111)).2 with
      | false => simp only [go_sem, ↓reduceIte, Nat.reduceEqDiff, Nat.reduceAdd, Nat.reduceMul, Nat.reduceBEq, Option.getD_none, Int.reduceToNat, Nat.reduceSub, Nat.reduceLT, Nat.reduceLeDiff, Int.reduceLE, Int.reduceLT, reduceCtorEq, hnot hc, k1, k3, k13, h14, m1, m2]
      | true =>
        simp only [go_sem, ↓reduceIte, Nat.reduceEqDiff, Nat.reduceAdd, Nat.reduceMul, Nat.reduceBEq, Option.getD_none, Int.reduceToNat, Nat.reduceSub, Nat.reduceLT, Nat.reduceLeDiff, Int.reduceLE, Int.reduceLT, reduceCtorEq, k1, k3, k13, h14, m1, m2]
        refine fcF_of (field_pc (j := 1) (.inl ⟨rfl, rfl⟩)) ?_
        simp only [go_sem, ↓reduceIte, Nat.reduceEqDiff, Nat.reduceAdd, Nat.reduceMul, Nat.reduceBEq, Option.getD_none, Int.reduceToNat, Nat.reduceSub, Nat.reduceLT, Nat.reduceLeDiff, Int.reduceLE, Int.reduceLT, reduceCtorEq, hw, k1, k3, k13, h14, m1, m2]
        exact ⟨i + 1, by dsimp only; omega, by omega, by simp only [go_sem, ↓reduceIte, Nat.reduceEqDiff, Nat.reduceAdd, Nat.reduceMul, Nat.reduceBEq, Option.getD_none, Int.reduceToNat, Nat.reduceSub, Nat.reduceLT, Nat.reduceLeDiff, Int.reduceLE, Int.reduceLT, reduceCtorEq, k1, k3, k13, h14, m1, m2], hall' hc, by simp only [go_sem, ↓reduceIte, Nat.reduceEqDiff, Nat.reduceAdd, Nat.reduceMul, Nat.reduceBEq, Option.getD_none, Int.reduceToNat, Nat.reduceSub, Nat.reduceLT, Nat.reduceLeDiff, Int.reduceLE, Int.reduceLT, reduceCtorEq, k1, k3, k13, h14, m1, m2], _, hst, by simp only [go_sem, ↓reduceIte, Nat.reduceEqDiff, Nat.reduceAdd, Nat.reduceMul, Nat.reduceBEq, Option.getD_none, Int.reduceToNat, Nat.reduceSub, Nat.reduceLT, Nat.reduceLeDiff, Int.reduceLE, Int.reduceLT, reduceCtorEq, k1, k3, k13, h14, m1, m2]; rfl⟩
    · refine fcF_of (field_pc (j := 2) (.inr (.inl ⟨rfl, rfl⟩))) ?_
      simp only [go_sem, ↓reduceIte, Nat.reduceEqDiff, Nat.reduceAdd, Nat.reduceMul, Nat.reduceBEq, Option.getD_none, Int.reduceToNat, Nat.reduceSub, Nat.reduceLT, Nat.reduceLeDiff, Int.reduceLE, Int.reduceLT, reduceCtorEq, k1, k3, k13, h14, m1, m2]
      refine fcW_bool (impl_in.fc _ _ _) ?_
      cases hc : inB s.dst (rgF s.kind (UInt8.toNat 100)).1 (rgF s.kind (UInt8.toNat 100)).2 with
      | false => simp only [go_sem, ↓reduceIte, Nat.reduceEqDiff, Nat.reduceAdd, Nat.reduceMul, Nat.reduceBEq, Option.getD_none, Int.reduceToNat, Nat.reduceSub, Nat.reduceLT, Nat.reduceLeDiff, Int.reduceLE, Int.reduceLT, reduceCtorEq, hnot hc, k1, k3, k13, h14, m1, m2]
      | true =>
        simp only [go_sem, ↓reduceIte, Nat.reduceEqDiff, Nat.reduceAdd, Nat.reduceMul, Nat.reduceBEq, Option.getD_none, Int.reduceToNat, Nat.reduceSub, Nat.reduceLT, Nat.reduceLeDiff, Int.reduceLE, Int.reduceLT, reduceCtorEq, k1, k3, k13, h14, m1, m2]
        refine fcF_of (field_pc (j := 2) (.inr (.inl ⟨rfl, rfl⟩))) ?_
        simp only [go_sem, ↓reduceIte, Nat.reduceEqDiff, Nat.reduceAdd, Nat.reduceMul, Nat.reduceBEq, Option.getD_none, Int.reduceToNat, Nat.reduceSub, Nat.reduceLT, Nat.reduceLeDiff, Int.reduceLE, Int.reduceLT, reduceCtorEq, hw, k1, k3, k13, h14, m1, m2]
        exact ⟨i + 1, by dsimp only; omega, by omega, by simp only [go_sem, ↓reduceIte, Nat.reduceEqDiff, Nat.reduceAdd, Nat.reduceMul, Nat.reduceBEq, Option.getD_none, Int.reduceToNat, Nat.reduceSub, Nat.reduceLT, Nat.reduceLeDiff, Int.reduceLE, Int.reduceLT, reduceCtorEq, k1, k3, k13, h14, m1, m2], hall' hc, by simp only [go_sem, ↓reduceIte, Nat.reduceEqDiff, Nat.reduceAdd, Nat.reduceMul, Nat.reduceBEq, Option.getD_none, Int.reduceToNat, Nat.reduceSub, Nat.reduceLT, Nat.reduceLeDiff, Int.reduceLE, Int.reduceLT, reduceCtorEq, k1, k3, k13, h14, m1, m2], _, hst, by simp only [go_sem, ↓reduceIte, Nat.reduceEqDiff, Nat.reduceAdd, Nat.reduceMul, Nat.reduceBEq, Option.getD_none, Int.reduceToNat, Nat.reduceSub, Nat.reduceLT, Nat.reduceLeDiff, Int.reduceLE, Int.reduceLT, reduceCtorEq, k1, k3, k13, h14, m1, m2]; rfl⟩
    · refine fcF_of (field_pc (j := 3) (.inr (.inr (.inl ⟨rfl, rfl⟩)))) ?_
      simp only [go_sem, ↓reduceIte, Nat.reduceEqDiff, Nat.reduceAdd, Nat.reduceMul, Nat.reduceBEq, Option.getD_none, Int.reduceToNat, Nat.reduceSub, Nat.reduceLT, Nat.reduceLeDiff, Int.reduceLE, Int.reduceLT, reduceCtorEq, k1, k3, k13, h14, m1, m2]
      refine fcW_bool (impl_in.fc _ _ _) ?_
      cases hc : inB s.src (rgF s.kind (UInt8.toNat 115)).1 (rgF s.kind (UInt8.toNat 115)).2 with
      | false => simp only [go_sem, ↓reduceIte, Nat.reduceEqDiff, Nat.reduceAdd, Nat.reduceMul, Nat.reduceBEq, Option.getD_none, Int.reduceToNat, Nat.reduceSub, Nat.reduceLT, Nat.reduceLeDiff, Int.reduceLE, Int.reduceLT, reduceCtorEq, hnot hc, k1, k3, k13, h14, m1, m2]
      | true =>
        simp only [go_sem, ↓reduceIte, Nat.reduceEqDiff, Nat.reduceAdd, Nat.reduceMul, Nat.reduceBEq, Option.getD_none, Int.reduceToNat, Nat.reduceSub, Nat.reduceLT, Nat.reduceLeDiff, Int.reduceLE, Int.reduceLT, reduceCtorEq, k1, k3, k13, h14, m1, m2]
        refine fcF_of (field_pc (j := 3) (.inr (.inr (.inl ⟨rfl, rfl⟩)))) ?_
        simp only [go_sem, ↓reduceIte, Nat.reduceEqDiff, Nat.reduceAdd, Nat.reduceMul, Nat.reduceBEq, Option.getD_none, Int.reduceToNat, Nat.reduceSub, Nat.reduceLT, Nat.reduceLeDiff, Int.reduceLE, Int.reduceLT, reduceCtorEq, hw, k1, k3, k13, h14, m1, m2]
        exact ⟨i + 1, by dsimp only; omega, by omega, by simp only [go_sem, ↓reduceIte, Nat.reduceEqDiff, Nat.reduceAdd, Nat.reduceMul, Nat.reduceBEq, Option.getD_none, Int.reduceToNat, Nat.reduceSub, Nat.reduceLT, Nat.reduceLeDiff, Int.reduceLE, Int.reduceLT, reduceCtorEq, k1, k3, k13, h14, m1, m2], hall' hc, by simp only [go_sem, ↓reduceIte, Nat.reduceEqDiff, Nat.reduceAdd, Nat.reduceMul, Nat.reduceBEq, Option.getD_none, Int.reduceToNat, Nat.reduceSub, Nat.reduceLT, Nat.reduceLeDiff, Int.reduceLE, Int.reduceLT, reduceCtorEq, k1, k3, k13, h14, m1, m2], _, hst, by simp only [go_sem, ↓reduceIte, Nat.reduceEqDiff, Nat.reduceAdd, Nat.reduceMul, Nat.reduceBEq, Option.getD_none, Int.reduceToNat, Nat.reduceSub, Nat.reduceLT, Nat.reduceLeDiff, Int.reduceLE, Int.reduceLT, reduceCtorEq, k1, k3, k13, h14, m1, m2]; rfl⟩
    · refine fcF_of (field_pc (j := 4) (.inr (.inr (.inr (.inl ⟨rfl, rfl⟩))))) ?_
      simp only [go_sem, ↓reduceIte, Nat.reduceEqDiff, Nat.reduceAdd, Nat.reduceMul, Nat.reduceBEq, Option.getD_none, Int.reduceToNat, Nat.reduceSub, Nat.reduceLT, Nat.reduceLeDiff, Int.reduceLE, Int.reduceLT, reduceCtorEq, k1, k3, k13, h14, m1, m2]
      refine fcW_bool (impl_in.fc _ _ _) ?_
      cases hc : inB s.imm (rgF s.kind (UInt8.toNat 105)).1 (rgF s.kind (UInt8.toNat 105)).2 with
      | false => simp only [go_sem, ↓reduceIte, Nat.reduceEqDiff, Nat.reduceAdd, Nat.reduceMul, Nat.reduceBEq, Option.getD_none, Int.reduceToNat, Nat.reduceSub, Nat.reduceLT, Nat.reduceLeDiff, Int.reduceLE, Int.reduceLT, reduceCtorEq, hnot hc, k1, k3, k13, h14, m1, m2]
      | true =>
        simp only [go_sem, ↓reduceIte, Nat.reduceEqDiff, Nat.reduceAdd, Nat.reduceMul, Nat.reduceBEq, Option.getD_none, Int.reduceToNat, Nat.reduceSub, Nat.reduceLT, Nat.reduceLeDiff, Int.reduceLE, Int.reduceLT, reduceCtorEq, k1, k3, k13, h14, m1, m2]
        refine fcF_of (field_pc (j := 4) (.inr (.inr (.inr (.inl ⟨rfl, rfl⟩))))) ?_
        simp only [go_sem, ↓reduceIte, Nat.reduceEqDiff, Nat.reduceAdd, Nat.reduceMul, Nat.reduceBEq, Option.getD_none, Int.reduceToNat, Nat.reduceSub, Nat.reduceLT, Nat.reduceLeDiff, Int.reduceLE, Int.reduceLT, reduceCtorEq, hw, k1, k3, k13, h14, m1, m2]
        exact ⟨i + 1, by dsimp only; omega, by omega, by simp only [go_sem, ↓reduceIte, Nat.reduceEqDiff, Nat.reduceAdd, Nat.reduceMul, Nat.reduceBEq, Option.getD_none, Int.reduceToNat, Nat.reduceSub, Nat.reduceLT, Nat.reduceLeDiff, Int.reduceLE, Int.reduceLT, reduceCtorEq, k1, k3, k13, h14, m1, m2], hall' hc, by simp only [go_sem, ↓reduceIte, Nat.reduceEqDiff, Nat.reduceAdd, Nat.reduceMul, Nat.reduceBEq, Option.getD_none, Int.reduceToNat, Nat.reduceSub, Nat.reduceLT, Nat.reduceLeDiff, Int.reduceLE, Int.reduceLT, reduceCtorEq, k1, k3, k13, h14, m1, m2], _, hst, by simp only [go_sem, ↓reduceIte, Nat.reduceEqDiff, Nat.reduceAdd, Nat.reduceMul, Nat.reduceBEq, Option.getD_none, Int.reduceToNat, Nat.reduceSub, Nat.reduceLT, Nat.reduceLeDiff, Int.reduceLE, Int.reduceLT, reduceCtorEq, k1, k3, k13, h14, m1, m2]; rfl⟩
    · refine fcF_of (field_pc (j := 5) (.inr (.inr (.inr (.inr ⟨rfl, rfl⟩))))) ?_
      simp only [go_sem, ↓reduceIte, Nat.reduceEqDiff, Nat.reduceAdd, Nat.reduceMul, Nat.reduceBEq, Option.getD_none, Int.reduceToNat, Nat.reduceSub, Nat.reduceLT, Nat.reduceLeDiff, Int.reduceLE, Int.reduceLT, reduceCtorEq, k1, k3, k13, h14, m1, m2]
      refine fcW_bool (impl_in.fc _ _ _) ?_
      cases hc : inB s.to (rgF s.kind (UInt8.toNat 116)).1 (rgF s.kind (UInt8.toNat 116)).2 with
      | false => simp only [go_sem, ↓reduceIte, Nat.reduceEqDiff, Nat.reduceAdd, Nat.reduceMul, Nat.reduceBEq, Option.getD_none, Int.reduceToNat, Nat.reduceSub, Nat.reduceLT, Nat.reduceLeDiff, Int.reduceLE, Int.reduceLT, reduceCtorEq, hnot hc, k1, k3, k13, h14, m1, m2]
      | true =>
        simp only [go_sem, ↓reduceIte, Nat.reduceEqDiff, Nat.reduceAdd, Nat.reduceMul, Nat.reduceBEq, Option.getD_none, Int.reduceToNat, Nat.reduceSub, Nat.reduceLT, Nat.reduceLeDiff, Int.reduceLE, Int.reduceLT, reduceCtorEq, k1, k3, k13, h14, m1, m2]
        refine fcF_of (field_pc (j := 5) (.inr (.inr (.inr (.inr ⟨rfl, rfl⟩))))) ?_
        simp only [go_sem, ↓reduceIte, Nat.reduceEqDiff, Nat.reduceAdd, Nat.reduceMul, Nat.reduceBEq, Option.getD_none, Int.reduceToNat, Nat.reduceSub, Nat.reduceLT, Nat.reduceLeDiff, Int.reduceLE, Int.reduceLT, reduceCtorEq, hw, k1, k3, k13, h14, m1, m2]
        exact ⟨i + 1, by dsimp only; omega, by omega, by simp only [go_sem, ↓reduceIte, Nat.reduceEqDiff, Nat.reduceAdd, Nat.reduceMul, Nat.reduceBEq, Option.getD_none, Int.reduceToNat, Nat.reduceSub, Nat.reduceLT, Nat.reduceLeDiff, Int.reduceLE, Int.reduceLT, reduceCtorEq, k1, k3, k13, h14, m1, m2], hall' hc, by simp only [go_sem, ↓reduceIte, Nat.reduceEqDiff, Nat.reduceAdd, Nat.reduceMul, Nat.reduceBEq, Option.getD_none, Int.reduceToNat, Nat.reduceSub, Nat.reduceLT, Nat.reduceLeDiff, Int.reduceLE, Int.reduceLT, reduceCtorEq, k1, k3, k13, h14, m1, m2], _, hst, by simp only [go_sem, ↓reduceIte, Nat.reduceEqDiff, Nat.reduceAdd, Nat.reduceMul, Nat.reduceBEq, Option.getD_none, Int.reduceToNat, Nat.reduceSub, Nat.reduceLT, Nat.reduceLeDiff, Int.reduceLE, Int.reduceLT, reduceCtorEq, k1, k3, k13, h14, m1, m2]; rfl⟩
  obtain rfl : i = (fldL s.kind).length := by omega
  rw [List.take_length] at hall hr
  simp only [go_sem, ↓reduceIte, Nat.reduceEqDiff, Nat.reduceAdd, Nat.reduceMul, Nat.reduceBEq, Option.getD_none, Int.reduceToNat, Nat.reduceSub, Nat.reduceLT, Nat.reduceLeDiff, Int.reduceLE, Int.reduceLT, reduceCtorEq, Int.lt_irrefl, k1, k3, k13, h14, m1, m2]
  refine fcW_bool (impl_in.fc _ _ _) ?_
  have hv : validB s = (inB s.kind 1 11 && (r == ⟨0, 0, 0, 0, 0, 0⟩)) := by unfold validB; rw [hall, hr, Bool.true_and]
  cases hc : inB s.kind 1 11 with
  | false => simp only [go_sem, ↓reduceIte, Nat.reduceEqDiff, Nat.reduceAdd, Nat.reduceMul, Nat.reduceBEq, Option.getD_none, Int.reduceToNat, Nat.reduceSub, Nat.reduceLT, Nat.reduceLeDiff, Int.reduceLE, Int.reduceLT, reduceCtorEq, hv, hc, k1, k3, k13, h14, m1, m2]
  | true =>
    rw [hc, Bool.true_and] at hv
    have hz : (r == ⟨0, 0, 0, 0, 0, 0⟩) = (r.kind == 0 && (r.op == 0 && (r.dst == 0 && (r.src == 0 && (r.imm == 0 && r.to == 0))))) := by
      obtain ⟨a, b, c, d, e, f⟩ := r
      rw [Bool.eq_iff_iff]
      simp only [beq_iff_eq, StepD.mk.injEq, Bool.and_eq_true]
    simp only [go_sem, ↓reduceIte, Nat.reduceEqDiff, Nat.reduceAdd, Nat.reduceMul, Nat.reduceBEq, Option.getD_none, Int.reduceToNat, Nat.reduceSub, Nat.reduceLT, Nat.reduceLeDiff, Int.reduceLE, Int.reduceLT, reduceCtorEq, hv, hz, Bool.bne_false, k1, k3, k13, h14, m1, m2]
theorem valid_kind {s : StepD} (h : validB s = true ∨ stepB s = true) : s.kind = 1 ∨ s.kind = 2 ∨ s.kind = 3 ∨ s.kind = 4 ∨ s.kind = 5 ∨ s.kind = 6 ∨ s.kind = 7 ∨ s.kind = 8 ∨ s.kind = 9 ∨ s.kind = 10 ∨ s.kind = 11 := by
  by_cases hk : 1 ≤ s.kind ∧ s.kind ≤ 11
  · omega
  · exfalso
    have e : ∀ j : Int, 1 ≤ j ∧ j ≤ 11 → (s.kind == j) = false := fun j hj => by rw [beq_eq_false_iff_ne]; omega
    rcases h with h | h
    · unfold validB at h
      simp only [Bool.and_eq_true, inB, decide_eq_true_eq] at h
      omega
    · unfold stepB at h
      simp only [e 1 (by omega), e 2 (by omega), e 3 (by omega), e 4 (by omega), e 5 (by omega), e 6 (by omega), e 7 (by omega), e 8 (by omega), e 9 (by omega), e 10 (by omega), e 11 (by omega)] at h
      simp at h
theorem valid_step (s : StepD) : validB s = stepB s := by
  by_cases h : validB s = true ∨ stepB s = true
  · obtain ⟨k, o, d, r, m, t⟩ := s
    rcases valid_kind h with rfl | rfl | rfl | rfl | rfl | rfl | rfl | rfl | rfl | rfl | rfl <;>
    · rw [Bool.eq_iff_iff]
      simp [validB, stepB, fldL, okF, getF, rgF, restF, clrF, zeroB, inB]
      try omega
  · cases h1 : validB s <;> cases h2 : stepB s <;> simp_all
end Go.Vm.Ytdembjfpgfaheaa
/- Walks: valid programs. -/
namespace Go.Vm.Ytdembjfpgfaheaa
open Go Go.Vm
set_option maxRecDepth 10000
set_option maxHeartbeats 8000000
set_option linter.unusedSimpArgs false
set_option linter.unusedVariables false

def jumpB (s : StepD) : Bool := s.kind == 8 || (s.kind == 9 || s.kind == 10)
theorem impl_Step_jumps.fc (s : StepD) : FCt prog F_impl_Step_jumps [.ro] [s.d] (Bb (jumpB s)) [] := by
  refine fct_run impl_Step_jumps.ok rfl ?_
  unfold jumpB
  repeat' (first | with_reducible rfl | with_reducible refine cdW_dec (fun _ => ?_) (fun _ => ?_) | refine cdW_not (fun _ => ?_) (fun _ => ?_) | refine cdW_any (fun _ => ?_) (fun _ => ?_) | with_reducible refine gdW_decT (fun _ => ?_) (fun _ => ?_) | with_reducible refine gdW_decF (fun _ => ?_) (fun _ => ?_) | refine gdW_not (fun _ => ?_) (fun _ => ?_) | refine gdW_any (fun _ => ?_) (fun _ => ?_) | simp only [go_sem, ↓reduceIte, Nat.reduceEqDiff, Nat.reduceAdd, Nat.reduceMul, Nat.reduceBEq, Option.getD_none, Int.reduceToNat, Nat.reduceSub, Nat.reduceLT, Nat.reduceLeDiff, Int.reduceLE, Int.reduceLT, reduceCtorEq, bne, Int.reduceEq, Int.reduceBEq, Int.reduceBNe, Int.reduceLE, Int.reduceNeg, Int.reduceAdd, Int.reduceSub, Int.reduceMul, *] | rfl)
structure StepOk (s : StepD) : Prop where
  kind : 1 ≤ s.kind ∧ s.kind ≤ 11
  dst : 0 ≤ s.dst ∧ s.dst ≤ 5
  src : 0 ≤ s.src ∧ s.src ≤ 5
  imm : 0 ≤ s.imm ∧ s.imm ≤ 65535
  op : 0 ≤ s.op ∧ s.op ≤ 10
  to : 0 ≤ s.to ∧ s.to ≤ 19
  jmp : s.to > 0 ↔ s.kind = 8 ∨ s.kind = 9 ∨ s.kind = 10
  iop : s.kind = 1 ∨ s.kind = 2 → 1 ≤ s.op
theorem step_ok {s : StepD} (h : stepB s = true) : StepOk s := by
  obtain ⟨k, o, d, r, m, t⟩ := s
  rcases valid_kind (.inr h) with rfl | rfl | rfl | rfl | rfl | rfl | rfl | rfl | rfl | rfl | rfl <;>
  · simp [stepB, zeroB, inB] at h
    constructor <;> dsimp only <;> omega
theorem jump_to {s : StepD} (h : stepB s = true) : jumpB s = decide (s.to > 0) := by
  have := (step_ok h).jmp
  rw [Bool.eq_iff_iff, decide_eq_true_eq, this]
  simp [jumpB]
def okAt (p : List StepD) (i : Nat) : Bool := match p[i]? with
  | some s => stepB s && !(decide (s.to > 0) && decide ((i : Int) + s.to + 1 ≥ p.length))
  | none => false
def lastK (p : List StepD) : Int := match p[p.length - 1]? with
  | some s => s.kind
  | none => 0
def goodP (p : List StepD) : Bool := inB p.length 1 20 && (lastK p == 11) && (List.range p.length).all (okAt p)
theorem goodP_not {p : List StepD} {i : Nat} (hi : i < p.length) (h : okAt p i = false) : goodP p = false := by
  unfold goodP; rw [not_range hi h, Bool.and_false]
theorem impl_GoodProgram.fc (p : List StepD) (hp : p.length ≤ 4194304) : FCt prog F_impl_GoodProgram [.ro] [steps p] (Bb (goodP p)) [] := by
  refine fct_run impl_GoodProgram.ok rfl ?_
  simp only [go_sem, ↓reduceIte, Nat.reduceEqDiff, Nat.reduceAdd, Nat.reduceMul, Nat.reduceBEq, Option.getD_none, Int.reduceToNat, Nat.reduceSub, Nat.reduceLT, Nat.reduceLeDiff, Int.reduceLE, Int.reduceLT, reduceCtorEq]
  refine fcW_bool (impl_in.fc _ _ _) ?_
  cases h1 : inB p.length 1 20 with
  | false =>
    have : goodP p = false := by unfold goodP; rw [h1]; rfl
    simp only [go_sem, ↓reduceIte, Nat.reduceEqDiff, Nat.reduceAdd, Nat.reduceMul, Nat.reduceBEq, Option.getD_none, Int.reduceToNat, Nat.reduceSub, Nat.reduceLT, Nat.reduceLeDiff, Int.reduceLE, Int.reduceLT, reduceCtorEq, this]
  | true =>
    have hl : 1 ≤ p.length ∧ p.length ≤ 20 := by simp [inB] at h1; omega
    have w1 : IntKind.i64.wrap ((p.length : Int) - 1) = ((p.length - 1 : Nat) : Int) := by rw [wrap_in (by omega) (by omega)]; omega
    have g1 : p[p.length - 1]? = some (p[p.length - 1]'(by omega)) := List.getElem?_eq_getElem (by omega)
    have b1 : ((p.length - 1 : Nat) : Int) < p.length := by omega
    have hk : lastK p = (p[p.length - 1]'(by omega)).kind := by unfold lastK; rw [g1]
    simp only [go_sem, ↓reduceIte, Nat.reduceEqDiff, Nat.reduceAdd, Nat.reduceMul, Nat.reduceBEq, Option.getD_none, Int.reduceToNat, Nat.reduceSub, Nat.reduceLT, Nat.reduceLeDiff, Int.reduceLE, Int.reduceLT, reduceCtorEq, w1, g1, b1]
    cases h2 : ((p[p.length - 1]'(by omega)).kind == 11) with
    | false =>
      have : goodP p = false := by unfold goodP; rw [hk, h2, Bool.and_false]; rfl
      have h3 : ((p[p.length - 1]'(by omega)).kind != 11) = true := by rw [bne, h2]; rfl
      simp only [go_sem, ↓reduceIte, Nat.reduceEqDiff, Nat.reduceAdd, Nat.reduceMul, Nat.reduceBEq, Option.getD_none, Int.reduceToNat, Nat.reduceSub, Nat.reduceLT, Nat.reduceLeDiff, Int.reduceLE, Int.reduceLT, reduceCtorEq, this, h3]
    | true =>
      have h3 : ((p[p.length - 1]'(by omega)).kind != 11) = false := by rw [bne, h2]; rfl
      simp only [go_sem, ↓reduceIte, Nat.reduceEqDiff, Nat.reduceAdd, Nat.reduceMul, Nat.reduceBEq, Option.getD_none, Int.reduceToNat, Nat.reduceSub, Nat.reduceLT, Nat.reduceLeDiff, Int.reduceLE, Int.reduceLT, reduceCtorEq, h3]
      refine R_loop (α := Nat) (fun i s' M' => i ≤ p.length ∧ s' 21 = aI i ∧ (List.range i).all (okAt p) = true) (fun i => p.length - i) 0 ⟨by omega, by simp only [go_sem, ↓reduceIte, Nat.reduceEqDiff, Nat.reduceAdd, Nat.reduceMul, Nat.reduceBEq, Option.getD_none, Int.reduceToNat, Nat.reduceSub, Nat.reduceLT, Nat.reduceLeDiff, Int.reduceLE, Int.reduceLT, reduceCtorEq]; rfl, by simp⟩ ?_
      rintro i s' M' ⟨hi, h21, hr⟩ ho
      unfold impl_GoodProgram.b0
      have k0 : s' 0 = .dat none (steps p) := by rw [ho 0 rfl]; simp only [go_sem, ↓reduceIte, Nat.reduceEqDiff, Nat.reduceAdd, Nat.reduceMul, Nat.reduceBEq, Option.getD_none, Int.reduceToNat, Nat.reduceSub, Nat.reduceLT, Nat.reduceLeDiff, Int.reduceLE, Int.reduceLT, reduceCtorEq]
      have k19 : s' 19 = .dat none (steps p) := by rw [ho 19 rfl]; simp only [go_sem, ↓reduceIte, Nat.reduceEqDiff, Nat.reduceAdd, Nat.reduceMul, Nat.reduceBEq, Option.getD_none, Int.reduceToNat, Nat.reduceSub, Nat.reduceLT, Nat.reduceLeDiff, Int.reduceLE, Int.reduceLT, reduceCtorEq]
      have k20 : s' 20 = aI p.length := by rw [ho 20 rfl]; simp only [go_sem, ↓reduceIte, Nat.reduceEqDiff, Nat.reduceAdd, Nat.reduceMul, Nat.reduceBEq, Option.getD_none, Int.reduceToNat, Nat.reduceSub, Nat.reduceLT, Nat.reduceLeDiff, Int.reduceLE, Int.reduceLT, reduceCtorEq]
      clear ho
      by_cases hlt : i < p.length
      · have hi' : (i : Int) < p.length := by omega
        have ga : p[i]? = some p[i] := List.getElem?_eq_getElem hlt
        have hw : IntKind.i64.wrap (i + 1) = ((i + 1 : Nat) : Int) := wrap_k hlt (by omega)
        have bad := goodP_not hlt
        have oka : okAt p i = (stepB p[i] && !(decide (p[i].to > 0) && decide ((i : Int) + p[i].to + 1 ≥ p.length))) := by unfold okAt; rw [ga]
        simp only [go_sem, ↓reduceIte, Nat.reduceEqDiff, Nat.reduceAdd, Nat.reduceMul, Nat.reduceBEq, Option.getD_none, Int.reduceToNat, Nat.reduceSub, Nat.reduceLT, Nat.reduceLeDiff, Int.reduceLE, Int.reduceLT, reduceCtorEq, hi', ga, k0, k19, k20, h21]
        refine fcW_bool (impl_Step_valid.fc p[i]) ?_
        rw [valid_step]
        cases hv : stepB p[i] with
        | false =>
          have hb := bad (by rw [oka, hv, Bool.false_and])
          simp only [go_sem, ↓reduceIte, Nat.reduceEqDiff, Nat.reduceAdd, Nat.reduceMul, Nat.reduceBEq, Option.getD_none, Int.reduceToNat, Nat.reduceSub, Nat.reduceLT, Nat.reduceLeDiff, Int.reduceLE, Int.reduceLT, reduceCtorEq, hb, k0, k19, k20, h21]
        | true =>
          have ok := step_ok hv
          rw [hv, Bool.true_and] at oka
          simp only [go_sem, ↓reduceIte, Nat.reduceEqDiff, Nat.reduceAdd, Nat.reduceMul, Nat.reduceBEq, Option.getD_none, Int.reduceToNat, Nat.reduceSub, Nat.reduceLT, Nat.reduceLeDiff, Int.reduceLE, Int.reduceLT, reduceCtorEq, k0, k19, k20, h21]
          refine fcW_bool (impl_Step_jumps.fc p[i]) ?_
          rw [jump_to hv]
          have w2 : IntKind.i64.wrap ((i : Int) + p[i].to) = (i : Int) + p[i].to := by have := ok.to; exact wrap_in (by omega) (by omega)
          have w3 : IntKind.i64.wrap ((i : Int) + p[i].to + 1) = (i : Int) + p[i].to + 1 := by have := ok.to; exact wrap_in (by omega) (by omega)
          by_cases hj : p[i].to > 0
          · by_cases he : (i : Int) + p[i].to + 1 ≥ p.length
            · have hb := bad (by rw [oka, decide_eq_true hj, decide_eq_true he]; rfl)
              simp only [go_sem, ↓reduceIte, Nat.reduceEqDiff, Nat.reduceAdd, Nat.reduceMul, Nat.reduceBEq, Option.getD_none, Int.reduceToNat, Nat.reduceSub, Nat.reduceLT, Nat.reduceLeDiff, Int.reduceLE, Int.reduceLT, reduceCtorEq, hj, he, w2, w3, hb, k0, k19, k20, h21]
            · simp only [go_sem, ↓reduceIte, Nat.reduceEqDiff, Nat.reduceAdd, Nat.reduceMul, Nat.reduceBEq, Option.getD_none, Int.reduceToNat, Nat.reduceSub, Nat.reduceLT, Nat.reduceLeDiff, Int.reduceLE, Int.reduceLT, reduceCtorEq, hj, he, w2, w3, hw, k0, k19, k20, h21]
              exact ⟨i + 1, by dsimp only; omega, by omega, by simp only [go_sem, ↓reduceIte, Nat.reduceEqDiff, Nat.reduceAdd, Nat.reduceMul, Nat.reduceBEq, Option.getD_none, Int.reduceToNat, Nat.reduceSub, Nat.reduceLT, Nat.reduceLeDiff, Int.reduceLE, Int.reduceLT, reduceCtorEq, k0, k19, k20, h21], all_range hr (by rw [oka, decide_eq_false he, Bool.and_false]; rfl)⟩
          · simp only [go_sem, ↓reduceIte, Nat.reduceEqDiff, Nat.reduceAdd, Nat.reduceMul, Nat.reduceBEq, Option.getD_none, Int.reduceToNat, Nat.reduceSub, Nat.reduceLT, Nat.reduceLeDiff, Int.reduceLE, Int.reduceLT, reduceCtorEq, hj, hw, k0, k19, k20, h21]
            exact ⟨i + 1, by dsimp only; omega, by omega, by simp only [go_sem, ↓reduceIte, Nat.reduceEqDiff, Nat.reduceAdd, Nat.reduceMul, Nat.reduceBEq, Option.getD_none, Int.reduceToNat, Nat.reduceSub, Nat.reduceLT, Nat.reduceLeDiff, Int.reduceLE, Int.reduceLT, reduceCtorEq, k0, k19, k20, h21], all_range hr (by rw [oka, decide_eq_false hj, Bool.false_and]; rfl)⟩
      · have hi' : ¬ (i : Int) < p.length := by omega
        obtain rfl : i = p.length := by omega
        have : goodP p = true := by unfold goodP; rw [h1, hk, h2, hr]; rfl
        simp only [go_sem, ↓reduceIte, Nat.reduceEqDiff, Nat.reduceAdd, Nat.reduceMul, Nat.reduceBEq, Option.getD_none, Int.reduceToNat, Nat.reduceSub, Nat.reduceLT, Nat.reduceLeDiff, Int.reduceLE, Int.reduceLT, reduceCtorEq, this, Int.lt_irrefl, k0, k19, k20, h21]
theorem spec_GoodProgram.fc (p : List StepD) (hp : p.length ≤ 4194304) : FCt prog F_spec_GoodProgram [.ro] [steps p] (Bb (goodP p)) [] := by
  refine fct_run spec_GoodProgram.ok rfl ?_
  simp only [go_sem, ↓reduceIte, Nat.reduceEqDiff, Nat.reduceAdd, Nat.reduceMul, Nat.reduceBEq, Option.getD_none, Int.reduceToNat, Nat.reduceSub, Nat.reduceLT, Nat.reduceLeDiff, Int.reduceLE, Int.reduceLT, reduceCtorEq]
  refine R_loop (α := Nat) (fun i s' M' => i ≤ p.length ∧ s' 7 = aI i ∧ (List.range i).all (okAt p) = true) (fun i => p.length - i) 0 ⟨by omega, by simp only [go_sem, ↓reduceIte, Nat.reduceEqDiff, Nat.reduceAdd, Nat.reduceMul, Nat.reduceBEq, Option.getD_none, Int.reduceToNat, Nat.reduceSub, Nat.reduceLT, Nat.reduceLeDiff, Int.reduceLE, Int.reduceLT, reduceCtorEq]; rfl, by simp⟩ ?_
  rintro i s' M' ⟨hi, h21, hr⟩ ho
  unfold spec_GoodProgram.b0
  have k0 : s' 0 = .dat none (steps p) := by rw [ho 0 rfl]; simp only [go_sem, ↓reduceIte, Nat.reduceEqDiff, Nat.reduceAdd, Nat.reduceMul, Nat.reduceBEq, Option.getD_none, Int.reduceToNat, Nat.reduceSub, Nat.reduceLT, Nat.reduceLeDiff, Int.reduceLE, Int.reduceLT, reduceCtorEq]
  have k5 : s' 5 = .dat none (steps p) := by rw [ho 5 rfl]; simp only [go_sem, ↓reduceIte, Nat.reduceEqDiff, Nat.reduceAdd, Nat.reduceMul, Nat.reduceBEq, Option.getD_none, Int.reduceToNat, Nat.reduceSub, Nat.reduceLT, Nat.reduceLeDiff, Int.reduceLE, Int.reduceLT, reduceCtorEq]
  have k6 : s' 6 = aI p.length := by rw [ho 6 rfl]; simp only [go_sem, ↓reduceIte, Nat.reduceEqDiff, Nat.reduceAdd, Nat.reduceMul, Nat.reduceBEq, Option.getD_none, Int.reduceToNat, Nat.reduceSub, Nat.reduceLT, Nat.reduceLeDiff, Int.reduceLE, Int.reduceLT, reduceCtorEq]
  clear ho
  by_cases hlt : i < p.length
  · have hi' : (i : Int) < p.length := by omega
    have ga : p[i]? = some p[i] := List.getElem?_eq_getElem hlt
    have hw : IntKind.i64.wrap (i + 1) = ((i + 1 : Nat) : Int) := wrap_k hlt (by omega)
    have bad := goodP_not hlt
    have oka : okAt p i = (stepB p[i] && !(decide (p[i].to > 0) && decide ((i : Int) + p[i].to + 1 ≥ p.length))) := by unfold okAt; rw [ga]
    simp only [go_sem, ↓reduceIte, Nat.reduceEqDiff, Nat.reduceAdd, Nat.reduceMul, Nat.reduceBEq, Option.getD_none, Int.reduceToNat, Nat.reduceSub, Nat.reduceLT, Nat.reduceLeDiff, Int.reduceLE, Int.reduceLT, reduceCtorEq, hi', ga, k0, k5, k6, h21]
    refine fcW_bool (spec_l2Step.fc p[i]) ?_
    cases hv : stepB p[i] with
    | false =>
      have hb := bad (by rw [oka, hv, Bool.false_and])
      simp only [go_sem, ↓reduceIte, Nat.reduceEqDiff, Nat.reduceAdd, Nat.reduceMul, Nat.reduceBEq, Option.getD_none, Int.reduceToNat, Nat.reduceSub, Nat.reduceLT, Nat.reduceLeDiff, Int.reduceLE, Int.reduceLT, reduceCtorEq, hb, k0, k5, k6, h21]
    | true =>
      have ok := step_ok hv
      rw [hv, Bool.true_and] at oka
      have w2 : IntKind.i64.wrap ((i : Int) + p[i].to) = (i : Int) + p[i].to := by have := ok.to; exact wrap_in (by omega) (by omega)
      have w3 : IntKind.i64.wrap ((i : Int) + p[i].to + 1) = (i : Int) + p[i].to + 1 := by have := ok.to; exact wrap_in (by omega) (by omega)
      by_cases hj : p[i].to > 0
      · by_cases he : (i : Int) + p[i].to + 1 ≥ p.length
        · have hb := bad (by rw [oka, decide_eq_true hj, decide_eq_true he]; rfl)
          simp only [go_sem, ↓reduceIte, Nat.reduceEqDiff, Nat.reduceAdd, Nat.reduceMul, Nat.reduceBEq, Option.getD_none, Int.reduceToNat, Nat.reduceSub, Nat.reduceLT, Nat.reduceLeDiff, Int.reduceLE, Int.reduceLT, reduceCtorEq, hj, he, w2, w3, hb, k0, k5, k6, h21]
        · simp only [go_sem, ↓reduceIte, Nat.reduceEqDiff, Nat.reduceAdd, Nat.reduceMul, Nat.reduceBEq, Option.getD_none, Int.reduceToNat, Nat.reduceSub, Nat.reduceLT, Nat.reduceLeDiff, Int.reduceLE, Int.reduceLT, reduceCtorEq, hj, he, w2, w3, hw, k0, k5, k6, h21]
          exact ⟨i + 1, by dsimp only; omega, by omega, by simp only [go_sem, ↓reduceIte, Nat.reduceEqDiff, Nat.reduceAdd, Nat.reduceMul, Nat.reduceBEq, Option.getD_none, Int.reduceToNat, Nat.reduceSub, Nat.reduceLT, Nat.reduceLeDiff, Int.reduceLE, Int.reduceLT, reduceCtorEq, k0, k5, k6, h21], all_range hr (by rw [oka, decide_eq_false he, Bool.and_false]; rfl)⟩
      · simp only [go_sem, ↓reduceIte, Nat.reduceEqDiff, Nat.reduceAdd, Nat.reduceMul, Nat.reduceBEq, Option.getD_none, Int.reduceToNat, Nat.reduceSub, Nat.reduceLT, Nat.reduceLeDiff, Int.reduceLE, Int.reduceLT, reduceCtorEq, hj, hw, k0, k5, k6, h21]
        exact ⟨i + 1, by dsimp only; omega, by omega, by simp only [go_sem, ↓reduceIte, Nat.reduceEqDiff, Nat.reduceAdd, Nat.reduceMul, Nat.reduceBEq, Option.getD_none, Int.reduceToNat, Nat.reduceSub, Nat.reduceLT, Nat.reduceLeDiff, Int.reduceLE, Int.reduceLT, reduceCtorEq, k0, k5, k6, h21], all_range hr (by rw [oka, decide_eq_false hj, Bool.false_and]; rfl)⟩
  · have hi' : ¬ (i : Int) < p.length := by omega
    obtain rfl : i = p.length := by omega
    simp only [go_sem, ↓reduceIte, Nat.reduceEqDiff, Nat.reduceAdd, Nat.reduceMul, Nat.reduceBEq, Option.getD_none, Int.reduceToNat, Nat.reduceSub, Nat.reduceLT, Nat.reduceLeDiff, Int.reduceLE, Int.reduceLT, reduceCtorEq, Int.lt_irrefl, k0, k5, k6, h21]
    refine fcW_bool (spec_l1In.fc _ _ _) ?_
    cases h1 : inB p.length 1 20 with
    | false =>
      have : goodP p = false := by unfold goodP; rw [h1]; rfl
      simp only [go_sem, ↓reduceIte, Nat.reduceEqDiff, Nat.reduceAdd, Nat.reduceMul, Nat.reduceBEq, Option.getD_none, Int.reduceToNat, Nat.reduceSub, Nat.reduceLT, Nat.reduceLeDiff, Int.reduceLE, Int.reduceLT, reduceCtorEq, this, k0, k5, k6, h21]
    | true =>
      have hl : 1 ≤ p.length ∧ p.length ≤ 20 := by simp [inB] at h1; omega
      have w1 : IntKind.i64.wrap ((p.length : Int) - 1) = ((p.length - 1 : Nat) : Int) := by rw [wrap_in (by omega) (by omega)]; omega
      have g1 : p[p.length - 1]? = some (p[p.length - 1]'(by omega)) := List.getElem?_eq_getElem (by omega)
      have b1 : ((p.length - 1 : Nat) : Int) < p.length := by omega
      have hk : lastK p = (p[p.length - 1]'(by omega)).kind := by unfold lastK; rw [g1]
      have : goodP p = ((p[p.length - 1]'(by omega)).kind == 11) := by unfold goodP; rw [h1, hk, hr, Bool.and_true, Bool.true_and]
      simp only [go_sem, ↓reduceIte, Nat.reduceEqDiff, Nat.reduceAdd, Nat.reduceMul, Nat.reduceBEq, Option.getD_none, Int.reduceToNat, Nat.reduceSub, Nat.reduceLT, Nat.reduceLeDiff, Int.reduceLE, Int.reduceLT, reduceCtorEq, w1, g1, b1, this, k0, k5, k6, h21]
end Go.Vm.Ytdembjfpgfaheaa
/- Walks: contexts; a machine's step. -/
namespace Go.Vm.Ytdembjfpgfaheaa
open Go Go.Vm
set_option maxRecDepth 10000
set_option maxHeartbeats 16000000
set_option linter.unusedSimpArgs false
set_option linter.unusedVariables false

structure MachLen (m : MachD) : Prop where
  regs : m.regs.length = 6
  cells : m.cells.length = 16
  isset : m.isset.length = 16
theorem MachOk.len {m : MachD} (h : MachOk m) : MachLen m := ⟨h.regs, h.cells, h.isset⟩
end Go.Vm.Ytdembjfpgfaheaa
/- Walks: a machine's step, by the reference. -/
namespace Go.Vm.Ytdembjfpgfaheaa
open Go Go.Vm
set_option maxRecDepth 10000
set_option maxHeartbeats 16000000
set_option linter.unusedSimpArgs false
set_option linter.unusedVariables false

end Go.Vm.Ytdembjfpgfaheaa
/- Walks: one step of a machine, if all is valid. -/
namespace Go.Vm.Ytdembjfpgfaheaa
open Go Go.Vm
set_option maxRecDepth 10000
set_option maxHeartbeats 16000000
set_option linter.unusedSimpArgs false
set_option linter.unusedVariables false

structure ProgOk (p : List StepD) : Prop where
  len : 1 ≤ p.length ∧ p.length ≤ 20
  all : ∀ (i : Nat) (h : i < p.length), stepB p[i] = true ∧ (p[i].to > 0 → (i : Int) + p[i].to + 1 < p.length)
  last : lastK p = 11
theorem prog_ok {p : List StepD} (h : goodP p = true) : ProgOk p := by
  simp only [goodP, Bool.and_eq_true, inB, decide_eq_true_eq, beq_iff_eq, List.all_eq_true, List.mem_range] at h
  refine ⟨by omega, fun i hi => ?_, h.1.2⟩
  have := h.2 i hi
  unfold okAt at this
  rw [List.getElem?_eq_getElem hi] at this
  simp only [Bool.and_eq_true, Bool.not_eq_true', Bool.and_eq_false_iff, decide_eq_false_iff_not] at this
  exact ⟨this.1, by omega⟩
end Go.Vm.Ytdembjfpgfaheaa
/- Walks: the contexts that are tried. -/
namespace Go.Vm.Ytdembjfpgfaheaa
open Go Go.Vm
set_option maxRecDepth 10000
set_option maxHeartbeats 16000000
set_option linter.unusedSimpArgs false
set_option linter.unusedVariables false

end Go.Vm.Ytdembjfpgfaheaa
/- Walks: the contexts that are tried, by the reference. -/
namespace Go.Vm.Ytdembjfpgfaheaa
open Go Go.Vm
set_option maxRecDepth 10000
set_option maxHeartbeats 16000000
set_option linter.unusedSimpArgs false
set_option linter.unusedVariables false

end Go.Vm.Ytdembjfpgfaheaa
/- Plain laws: a step keeps a machine valid; runs. -/
namespace Go.Vm.Ytdembjfpgfaheaa
open Go Go.Vm
set_option maxRecDepth 10000
set_option maxHeartbeats 8000000
set_option linter.unusedSimpArgs false
set_option linter.unusedVariables false

end Go.Vm.Ytdembjfpgfaheaa
/- Walks: the steps that may be next; machines at the start; runs. -/
namespace Go.Vm.Ytdembjfpgfaheaa
open Go Go.Vm
set_option maxRecDepth 10000
set_option maxHeartbeats 16000000
set_option linter.unusedSimpArgs false
set_option linter.unusedVariables false

def nextsL (s : StepD) (i : Int) : List Int :=
  if s.kind == 11 then [] else if s.kind == 8 then [i + s.to + 1] else if s.kind == 9 then [i + 1, i + s.to + 1] else if s.kind == 10 then [i + 1, i + s.to + 1] else [i + 1]
theorem impl_nexts.fc (p : List StepD) (i : Int) (s : StepD) (h0 : 0 ≤ i) (h1 : i < p.length) (hl : p.length ≤ 20) (hs : p[i.toNat]? = some s) (hv : stepB s = true) : FCt prog F_impl_nexts [.ro, .ro] [steps p, Ii i] (ints (nextsL s i)) [] := by
  refine fct_run impl_nexts.ok rfl ?_
  have ot := (step_ok hv).to
  have w1 : IntKind.i64.wrap (i + 1) = i + 1 := wrap_in (by omega) (by omega)
  have w2 : IntKind.i64.wrap (i + s.to) = i + s.to := wrap_in (by omega) (by omega)
  have w3 : IntKind.i64.wrap (i + s.to + 1) = i + s.to + 1 := wrap_in (by omega) (by omega)
  unfold nextsL
  repeat' (first | with_reducible rfl | with_reducible refine cdW_dec (fun _ => ?_) (fun _ => ?_) | refine cdW_not (fun _ => ?_) (fun _ => ?_) | refine cdW_any (fun _ => ?_) (fun _ => ?_) | with_reducible refine gdW_decT (fun _ => ?_) (fun _ => ?_) | with_reducible refine gdW_decF (fun _ => ?_) (fun _ => ?_) | refine gdW_not (fun _ => ?_) (fun _ => ?_) | refine gdW_any (fun _ => ?_) (fun _ => ?_) | simp only [go_sem, ↓reduceIte, Nat.reduceEqDiff, Nat.reduceAdd, Nat.reduceMul, Nat.reduceBEq, Option.getD_none, Int.reduceToNat, Nat.reduceSub, Nat.reduceLT, Nat.reduceLeDiff, Int.reduceLE, Int.reduceLT, reduceCtorEq, bne, Int.reduceEq, Int.reduceBEq, Int.reduceBNe, Int.reduceLE, Int.reduceNeg, Int.reduceAdd, Int.reduceSub, Int.reduceMul, *] | rfl)
theorem spec_l2Nexts.fc (p : List StepD) (i : Int) (s : StepD) (h0 : 0 ≤ i) (h1 : i < p.length) (hl : p.length ≤ 20) (hs : p[i.toNat]? = some s) (hv : stepB s = true) : FCt prog F_spec_l2Nexts [.ro, .ro] [steps p, Ii i] (ints (nextsL s i)) [] := by
  refine fct_run spec_l2Nexts.ok rfl ?_
  have ot := (step_ok hv).to
  have w1 : IntKind.i64.wrap (i + 1) = i + 1 := wrap_in (by omega) (by omega)
  have w2 : IntKind.i64.wrap (i + s.to) = i + s.to := wrap_in (by omega) (by omega)
  have w3 : IntKind.i64.wrap (i + s.to + 1) = i + s.to + 1 := wrap_in (by omega) (by omega)
  unfold nextsL
  repeat' (first | with_reducible rfl | with_reducible refine cdW_dec (fun _ => ?_) (fun _ => ?_) | refine cdW_not (fun _ => ?_) (fun _ => ?_) | refine cdW_any (fun _ => ?_) (fun _ => ?_) | with_reducible refine gdW_decT (fun _ => ?_) (fun _ => ?_) | with_reducible refine gdW_decF (fun _ => ?_) (fun _ => ?_) | refine gdW_not (fun _ => ?_) (fun _ => ?_) | refine gdW_any (fun _ => ?_) (fun _ => ?_) | simp only [go_sem, ↓reduceIte, Nat.reduceEqDiff, Nat.reduceAdd, Nat.reduceMul, Nat.reduceBEq, Option.getD_none, Int.reduceToNat, Nat.reduceSub, Nat.reduceLT, Nat.reduceLeDiff, Int.reduceLE, Int.reduceLT, reduceCtorEq, bne, Int.reduceEq, Int.reduceBEq, Int.reduceBNe, Int.reduceLE, Int.reduceNeg, Int.reduceAdd, Int.reduceSub, Int.reduceMul, *] | rfl)
end Go.Vm.Ytdembjfpgfaheaa
/- Walks: runs, by the reference. -/
namespace Go.Vm.Ytdembjfpgfaheaa
open Go Go.Vm
set_option maxRecDepth 10000
set_option maxHeartbeats 16000000
set_option linter.unusedSimpArgs false
set_option linter.unusedVariables false

end Go.Vm.Ytdembjfpgfaheaa
/- Walks: is there harm? -/
namespace Go.Vm.Ytdembjfpgfaheaa
open Go Go.Vm
set_option maxRecDepth 10000
set_option maxHeartbeats 16000000
set_option linter.unusedSimpArgs false
set_option linter.unusedVariables false

end Go.Vm.Ytdembjfpgfaheaa
/- Walks: turns of a way; the way of a run. -/
namespace Go.Vm.Ytdembjfpgfaheaa
open Go Go.Vm
set_option maxRecDepth 10000
set_option maxHeartbeats 16000000
set_option linter.unusedSimpArgs false
set_option linter.unusedVariables false

structure WayD where
  steps : List Int
  turns : List Bool
  deriving DecidableEq
abbrev WayD.d (x : WayD) : D := .agg [ints x.steps, bools x.turns]
theorem noRs_Way {x : WayD} : noRs (WayD.d x) = true := noRs_agg fun d hd => by
  rcases List.mem_cons.1 hd with rfl | hd
  · exact noRs_ints
  rcases List.mem_cons.1 hd with rfl | hd
  · exact noRs_bools
  cases hd
def wWay (x : WayD) : Nat := x.steps.length + x.turns.length
theorem laws_eqWay.fcu (x : WayD) (h : wWay x ≤ 1048576) :
    FCt prog F_laws_eqWay [.ro, .ro] [WayD.d x, WayD.d x] (Bb true) [] := by
  refine fct_run laws_eqWay.ok rfl ?_
  unfold wWay at h
  simp only [go_sem, ↓reduceIte, Nat.reduceEqDiff, Nat.reduceAdd, Nat.reduceMul, Nat.reduceBEq, Option.getD_none, Int.reduceToNat, Nat.reduceSub, Nat.reduceLT, Nat.reduceLeDiff, Int.reduceLE, Int.reduceLT, reduceCtorEq]
  refine fcW_bool (laws_eqIntS.fcu x.steps (by omega)) ?_
  simp only [go_sem, ↓reduceIte, Nat.reduceEqDiff, Nat.reduceAdd, Nat.reduceMul, Nat.reduceBEq, Option.getD_none, Int.reduceToNat, Nat.reduceSub, Nat.reduceLT, Nat.reduceLeDiff, Int.reduceLE, Int.reduceLT, reduceCtorEq]
  refine fcW_bool (laws_eqBoolS.fcu x.turns (by omega)) ?_
  simp only [go_sem, ↓reduceIte, Nat.reduceEqDiff, Nat.reduceAdd, Nat.reduceMul, Nat.reduceBEq, Option.getD_none, Int.reduceToNat, Nat.reduceSub, Nat.reduceLT, Nat.reduceLeDiff, Int.reduceLE, Int.reduceLT, reduceCtorEq]
def brB (s : StepD) : Bool := s.kind == 9 || s.kind == 10
theorem impl_Step_branches.fc (s : StepD) : FCt prog F_impl_Step_branches [.ro] [s.d] (Bb (brB s)) [] := by
  refine fct_run impl_Step_branches.ok rfl ?_
  unfold brB
  repeat' (first | with_reducible rfl | with_reducible refine cdW_dec (fun _ => ?_) (fun _ => ?_) | refine cdW_not (fun _ => ?_) (fun _ => ?_) | refine cdW_any (fun _ => ?_) (fun _ => ?_) | with_reducible refine gdW_decT (fun _ => ?_) (fun _ => ?_) | with_reducible refine gdW_decF (fun _ => ?_) (fun _ => ?_) | refine gdW_not (fun _ => ?_) (fun _ => ?_) | refine gdW_any (fun _ => ?_) (fun _ => ?_) | simp only [go_sem, ↓reduceIte, Nat.reduceEqDiff, Nat.reduceAdd, Nat.reduceMul, Nat.reduceBEq, Option.getD_none, Int.reduceToNat, Nat.reduceSub, Nat.reduceLT, Nat.reduceLeDiff, Int.reduceLE, Int.reduceLT, reduceCtorEq, bne, Int.reduceEq, Int.reduceBEq, Int.reduceBNe, Int.reduceLE, Int.reduceNeg, Int.reduceAdd, Int.reduceSub, Int.reduceMul, *] | rfl)
theorem spec_l14Branch.fc (s : StepD) : FCt prog F_spec_l14Branch [.ro] [s.d] (Bb (brB s)) [] := by
  refine fct_run spec_l14Branch.ok rfl ?_
  unfold brB
  repeat' (first | with_reducible rfl | with_reducible refine cdW_dec (fun _ => ?_) (fun _ => ?_) | refine cdW_not (fun _ => ?_) (fun _ => ?_) | refine cdW_any (fun _ => ?_) (fun _ => ?_) | with_reducible refine gdW_decT (fun _ => ?_) (fun _ => ?_) | with_reducible refine gdW_decF (fun _ => ?_) (fun _ => ?_) | refine gdW_not (fun _ => ?_) (fun _ => ?_) | refine gdW_any (fun _ => ?_) (fun _ => ?_) | simp only [go_sem, ↓reduceIte, Nat.reduceEqDiff, Nat.reduceAdd, Nat.reduceMul, Nat.reduceBEq, Option.getD_none, Int.reduceToNat, Nat.reduceSub, Nat.reduceLT, Nat.reduceLeDiff, Int.reduceLE, Int.reduceLT, reduceCtorEq, bne, Int.reduceEq, Int.reduceBEq, Int.reduceBNe, Int.reduceLE, Int.reduceNeg, Int.reduceAdd, Int.reduceSub, Int.reduceMul, *] | rfl)
end Go.Vm.Ytdembjfpgfaheaa
/- Walks: the way of a run. -/
namespace Go.Vm.Ytdembjfpgfaheaa
open Go Go.Vm
set_option maxRecDepth 10000
set_option maxHeartbeats 16000000
set_option linter.unusedSimpArgs false
set_option linter.unusedVariables false

end Go.Vm.Ytdembjfpgfaheaa
/- Walks: valid ways (the reference). -/
namespace Go.Vm.Ytdembjfpgfaheaa
open Go Go.Vm
set_option maxRecDepth 10000
set_option maxHeartbeats 16000000
set_option linter.unusedSimpArgs false
set_option linter.unusedVariables false

end Go.Vm.Ytdembjfpgfaheaa
/- Walks: valid ways. -/
namespace Go.Vm.Ytdembjfpgfaheaa
open Go Go.Vm
set_option maxRecDepth 10000
set_option maxHeartbeats 16000000
set_option linter.unusedSimpArgs false
set_option linter.unusedVariables false

section
variable {P : Program} {s : Nat → AV} {M : Mem} {nb ib : Nat} {lg : Lg} {es : List Ent}
@[go_sem ↓] theorem RE_EPgf {j d t : Nat} {b : Bool} {k : KO} {kd : Nat} {K : (Nat → AV) → Mem → Prop} :
    @RE P nb ib (EP j (some d) (some (t, b)) k kd false :: es) s M lg ⟨K⟩ = @gdW (gB (s t)) b ⟨@KS P s M (nb + 64 * j) (ib + 64 * j) k ⟨fun a N T => @okP kd nb j k M N T ⟨@RE P nb ib es (upd s d a) N lg ⟨K⟩⟩⟩⟩ ⟨@RE P nb ib es (upd s d (.tup [])) M lg ⟨K⟩⟩ :=
  RE_step (e := EP j (some d) (some (t, b)) k kd false) rfl fun a N T => and_assoc.symm
@[go_sem ↓] theorem RE_EPgt {j d t : Nat} {b : Bool} {k : KO} {kd : Nat} {K : (Nat → AV) → Mem → Prop} :
    @RE P nb ib (EP j (some d) (some (t, b)) k kd true :: es) s M lg ⟨K⟩ = @gdW (gB (s t)) b ⟨@KS P s M (nb + 64 * j) (ib + 64 * j) k ⟨fun a N T => @okP kd nb j k M N T ⟨@RE P nb ib es (upd s d a) N (upd lg j (wrt T M N)) ⟨K⟩⟩⟩⟩ ⟨@RE P nb ib es (upd s d (.tup [])) M lg ⟨K⟩⟩ :=
  RE_step (e := EP j (some d) (some (t, b)) k kd true) rfl fun a N T => and_assoc.symm
end
theorem next_in {p : List StepD} {a b : Int} {s : StepD} (hp : ProgOk p) (ha : 0 ≤ a) (gs : p[a.toNat]? = some s) (h : (nextsL s a).any (· == b) = true) : 0 ≤ b ∧ b < p.length := by
  obtain ⟨hi, rfl⟩ := List.getElem?_eq_some_iff.1 gs
  obtain ⟨hv, ht⟩ := hp.all _ hi
  have ok := step_ok hv
  have hto := ok.to
  have hj := ok.jmp
  have hl : p[a.toNat].kind = 11 ∨ a + 1 < p.length := by
    by_cases h : a + 1 < p.length
    · exact .inr h
    · left
      have e : p.length - 1 = a.toNat := by omega
      have := hp.last
      unfold lastK at this
      rw [e, gs] at this
      exact this
  generalize p[a.toNat] = s at h ht hto hj hl
  unfold nextsL at h
  split at h
  · simp at h
  · rename_i h11
    have n11 : ¬ s.kind = 11 := by simpa using h11
    split at h
    · rename_i h8
      have k8 : s.kind = 8 := by simpa using h8
      simp only [List.any_cons, List.any_nil, Bool.or_false, beq_iff_eq] at h
      have := ht (hj.2 (.inl k8))
      omega
    · split at h
      · rename_i h9
        have k9 : s.kind = 9 := by simpa using h9
        simp only [List.any_cons, List.any_nil, Bool.or_false, Bool.or_eq_true, beq_iff_eq] at h
        have := ht (hj.2 (.inr (.inl k9)))
        omega
      · split at h
        · rename_i h10
          have k10 : s.kind = 10 := by simpa using h10
          simp only [List.any_cons, List.any_nil, Bool.or_false, Bool.or_eq_true, beq_iff_eq] at h
          have := ht (hj.2 (.inr (.inr k10)))
          omega
        · simp only [List.any_cons, List.any_nil, Bool.or_false, beq_iff_eq] at h
          omega
end Go.Vm.Ytdembjfpgfaheaa
/- Walks: turns are counted; a way is followed. -/
namespace Go.Vm.Ytdembjfpgfaheaa
open Go Go.Vm
set_option maxRecDepth 10000
set_option maxHeartbeats 16000000
set_option linter.unusedSimpArgs false
set_option linter.unusedVariables false

end Go.Vm.Ytdembjfpgfaheaa
/- Walks: a way is followed, by the reference. -/
namespace Go.Vm.Ytdembjfpgfaheaa
open Go Go.Vm
set_option maxRecDepth 10000
set_option maxHeartbeats 16000000
set_option linter.unusedSimpArgs false
set_option linter.unusedVariables false

end Go.Vm.Ytdembjfpgfaheaa
/- Plain laws and walks: all ways. -/
namespace Go.Vm.Ytdembjfpgfaheaa
open Go Go.Vm
set_option maxRecDepth 10000
set_option maxHeartbeats 16000000
set_option linter.unusedSimpArgs false
set_option linter.unusedVariables false

abbrev ways (l : List WayD) : D := .sl 2 (l.map WayD.d)
theorem noRs_ways {l : List WayD} : noRs (ways l) = true := noRs_sl (by
  intro d hd
  obtain ⟨x, _, rfl⟩ := List.mem_map.1 hd
  exact noRs_Way)
def wWayS (l : List WayD) : Nat := l.length + accC (fun x => wWay x) l
def cWayS (l : List WayD) : Nat := accC (fun x => x.steps.length + x.turns.length) l
def mkEWay (n : Int) (x : WayD) : WayD := { x with steps := mkIntS (n) x.steps, turns := mkBoolS (n + x.steps.length) x.turns }
def mkWayS (n : Int) (l : List WayD) : List WayD := accM mkEWay (fun x => x.steps.length + x.turns.length) n l
theorem mkWayS_len {n : Int} {l : List WayD} : (mkWayS n l).length = l.length := accM_len
theorem cWayS_le (x : List WayD) : cWayS x ≤ 8 * wWayS x := accC_le8 fun x => by unfold wWay; omega
theorem mkWayS_take {n : Int} {l : List WayD} : ((mkWayS n l).map WayD.d).take l.length = (mkWayS n l).map WayD.d := List.take_of_length_le (by simp [mkWayS_len])
def lastA (w : WayD) : Int := w.steps.getD (w.steps.length - 1) 0
def extW (w : WayD) (s : StepD) (i : Nat) (x : Int) : WayD := ⟨w.steps ++ [x], if brB s then w.turns ++ [((i : Int) == 1)] else w.turns⟩
def foldW (f : Nat → Int → List WayD → List WayD) : Nat → List Int → List WayD → List WayD
  | _, [], o => o
  | i, x :: l, o => foldW f (i + 1) l (f i x o)
/-- all ways that go on from w, with n steps left, behind those of out; no more once there are 65 -/
def allF (p : List StepD) : Nat → WayD → List WayD → List WayD
  | 0, _, out => out
  | n + 1, w, out => if out.length > 64 then out else
    match p[(lastA w).toNat]? with
    | none => out
    | some s => if s.kind == 11 then out ++ [w] else foldW (fun i x o => allF p n (extW w s i x) o) 0 (nextsL s (lastA w)) out
theorem allF_many {p : List StepD} {n : Nat} {w : WayD} {out : List WayD} (h : out.length > 64) : allF p n w out = out := by
  cases n with
  | zero => rfl
  | succ n => unfold allF; rw [if_pos h]
theorem foldW_many {f : Nat → Int → List WayD → List WayD} (hf : ∀ i x o, o.length > 64 → f i x o = o) : ∀ (l : List Int) (i : Nat) (o : List WayD), o.length > 64 → foldW f i l o = o
  | [], _, _, _ => rfl
  | x :: l, i, o, h => by
    show foldW f (i + 1) l (f i x o) = o
    rw [hf i x o h]
    exact foldW_many hf l _ _ h
theorem allF_end {p : List StepD} {n : Nat} {w : WayD} {out : List WayD} {s : StepD} (h : out.length ≤ 64) (gs : p[(lastA w).toNat]? = some s) (hk : (s.kind == 11) = true) : allF p (n + 1) w out = out ++ [w] := by
  rw [allF, if_neg (by omega), gs]
  show (if (s.kind == 11) = true then _ else _) = _
  rw [if_pos hk]
theorem allF_step {p : List StepD} {n : Nat} {w : WayD} {out : List WayD} {s : StepD} (h : out.length ≤ 64) (gs : p[(lastA w).toNat]? = some s) (hk : (s.kind == 11) = false) :
    allF p (n + 1) w out = foldW (fun i x o => allF p n (extW w s i x) o) 0 (nextsL s (lastA w)) out := by
  rw [allF, if_neg (by omega), gs]
  show (if (s.kind == 11) = true then _ else _) = _
  rw [if_neg (by rw [hk]; decide)]
theorem foldW_le {f : Nat → Int → List WayD → List WayD} {b : Nat} (hf : ∀ i x o, o.length ≤ b → (f i x o).length ≤ b) : ∀ (l : List Int) (i : Nat) (o : List WayD), o.length ≤ b → (foldW f i l o).length ≤ b
  | [], _, _, h => h
  | x :: l, i, o, h => foldW_le hf l _ _ (hf i x o h)
theorem allF_le {p : List StepD} : ∀ (n : Nat) (w : WayD) (out : List WayD), out.length ≤ 65 → (allF p n w out).length ≤ 65
  | 0, _, _, h => h
  | n + 1, w, out, h => by
    by_cases h2 : out.length > 64
    · rw [allF_many h2]; exact h
    · unfold allF
      rw [if_neg h2]
      split
      · exact h
      · split
        · rw [List.length_append]; simp; omega
        · exact foldW_le (fun i x o ho => allF_le n _ o ho) _ _ _ h
/-- a way that can go on for n steps at most -/
structure OnWay (p : List StepD) (w : WayD) (n : Nat) : Prop where
  l0 : 1 ≤ w.steps.length
  l1 : w.steps.length + n ≤ 21
  l2 : w.turns.length ≤ w.steps.length
  a0 : 0 ≤ lastA w
  a1 : lastA w < p.length
  a2 : (p.length : Int) ≤ lastA w + n
theorem lastA_ext (w : WayD) (s : StepD) (i : Nat) (x : Int) : lastA (extW w s i x) = x := by
  unfold lastA extW
  simp
theorem nextsL_gt {p : List StepD} {a : Int} {s : StepD} (hp : ProgOk p) (ha : 0 ≤ a) (gs : p[a.toNat]? = some s) {x : Int} (h : x ∈ nextsL s a) : a < x := by
  obtain ⟨hi, rfl⟩ := List.getElem?_eq_some_iff.1 gs
  obtain ⟨hv, ht⟩ := hp.all _ hi
  have hto := (step_ok hv).to
  unfold nextsL at h
  split at h
  · cases h
  · split at h
    · rw [List.mem_singleton] at h; omega
    · split at h
      · simp only [List.mem_cons, List.not_mem_nil, or_false] at h; omega
      · split at h
        · simp only [List.mem_cons, List.not_mem_nil, or_false] at h; omega
        · rw [List.mem_singleton] at h; omega
theorem on_next {p : List StepD} {w : WayD} {n : Nat} {s : StepD} (hp : ProgOk p) (h : OnWay p w (n + 1)) (gs : p[(lastA w).toNat]? = some s) {i : Nat} {x : Int} (hx : x ∈ nextsL s (lastA w)) : OnWay p (extW w s i x) n := by
  obtain ⟨l0, l1, l2, a0, a1, a2⟩ := h
  have hgt := nextsL_gt hp a0 gs hx
  have hin := next_in (b := x) hp a0 gs (List.any_eq_true.2 ⟨x, hx, by simp⟩)
  refine ⟨?_, ?_, ?_, ?_, ?_, ?_⟩
  · unfold extW; simp
  · unfold extW; simp; omega
  · unfold extW; split <;> simp <;> omega
  · rw [lastA_ext]; exact hin.1
  · rw [lastA_ext]; exact hin.2
  · rw [lastA_ext]; omega
end Go.Vm.Ytdembjfpgfaheaa
/- Walks: all ways, by the program. -/
namespace Go.Vm.Ytdembjfpgfaheaa
open Go Go.Vm
set_option maxRecDepth 10000
set_option maxHeartbeats 16000000
set_option linter.unusedSimpArgs false
set_option linter.unusedVariables false

theorem slices_Clone__sbool_bool.fc2 (l : List Bool) (hl : l.length ≤ 4294967296) : FCt prog F_slices_Clone__sbool_bool [.ro] [bools l] (bools l) [] := by
  refine fct_run slices_Clone__sbool_bool.ok rfl ?_
  have hsc : (l.map Bb).all isSc = true := by rw [List.all_eq_true]; intro d hd; obtain ⟨x, _, rfl⟩ := List.mem_map.1 hd; rfl
  cases l with
  | nil => simp only [go_sem, ↓reduceIte, Nat.reduceEqDiff, Nat.reduceAdd, Nat.reduceMul, Nat.reduceBEq, Option.getD_none, Int.reduceToNat, Nat.reduceSub, Nat.reduceLT, Nat.reduceLeDiff, Int.reduceLE, Int.reduceLT, reduceCtorEq, List.length_nil, List.map_nil, List.all_nil]; try rfl
  | cons b l =>
    have hb : (l.length + 1) * 1 ≤ 70368744177664 := by simp only [List.length_cons] at hl; omega
    have htk : (l.map Bb).take l.length = l.map Bb := List.take_of_length_le (by simp)
    simp only [List.map_cons, List.all_cons, Bool.and_eq_true] at hsc
    have h1 := hsc.1
    have h2 := hsc.2
    simp only [go_sem, ↓reduceIte, Nat.reduceEqDiff, Nat.reduceAdd, Nat.reduceMul, Nat.reduceBEq, Option.getD_none, Int.reduceToNat, Nat.reduceSub, Nat.reduceLT, Nat.reduceLeDiff, Int.reduceLE, Int.reduceLT, reduceCtorEq, h1, h2, hb, Nat.zero_le, htk]
    try rfl
theorem noRsL_ways {l : List WayD} : noRsL [.ptr (ways l)] = true := by
  show (noRs (ways l) && true) = true
  rw [Bool.and_true]
  exact noRs_ways
theorem impl_ways.fc (p : List StepD) (hp : ProgOk p) : ∀ (n : Nat) (w : WayD) (out : List WayD), OnWay p w n → out.length ≤ 64 →
    FCt prog F_impl_ways [.ro, .co, .io] [steps p, w.d, .ptr (ways out)] (Bb (decide ((allF p n w out).length ≤ 64))) [.ptr (ways (allF p n w out))]
  | 0, w, out, h, ho => by have := h.a1; have := h.a2; omega
  | n + 1, w, out, h, hout => by
    refine fct_run impl_ways.ok rfl ?_
    have ih := fun (w : WayD) (out : List WayD) => impl_ways.fc p hp n w out
    obtain ⟨l0, l1, l2, a0, a1, a2⟩ := h
    have hi : (lastA w).toNat < p.length := by omega
    have gs : p[(lastA w).toNat]? = some p[(lastA w).toNat] := List.getElem?_eq_getElem hi
    have hv := (hp.all _ hi).1
    have hnx := fun i x (hx : x ∈ nextsL p[(lastA w).toNat] (lastA w)) => on_next (i := i) hp ⟨l0, l1, l2, a0, a1, a2⟩ gs hx
    generalize p[(lastA w).toNat] = s at gs hv hnx
    have cn := impl_nexts.fc p (lastA w) s a0 a1 hp.len.2 gs hv
    have cb := impl_Step_branches.fc s
    have hend := allF_end (n := n) (w := w) hout gs
    have hstep := allF_step (n := n) (w := w) hout gs
    have hlast : w.steps[w.steps.length - 1]? = some (lastA w) := by
      unfold lastA
      rw [List.getD_eq_getElem?_getD, List.getElem?_eq_getElem (by omega)]; rfl
    have wl1 : IntKind.i64.wrap ((w.steps.length : Int) - 1) = ((w.steps.length - 1 : Nat) : Int) := by rw [wrap_in (by omega) (by omega)]; omega
    have wl2 : ((w.steps.length - 1 : Nat) : Int) < w.steps.length := by omega
    obtain ⟨st, tu⟩ := w
    dsimp only at l0 l1 l2 hlast wl1 wl2
    generalize hA : lastA ⟨st, tu⟩ = at' at *
    simp only [go_sem, ↓reduceIte, Nat.reduceEqDiff, Nat.reduceAdd, Nat.reduceMul, Nat.reduceBEq, Option.getD_none, Int.reduceToNat, Nat.reduceSub, Nat.reduceLT, Nat.reduceLeDiff, Int.reduceLE, Int.reduceLT, reduceCtorEq, wl1, wl2, hlast]
    refine fcW_bd cn noRs_ints ?_
    have hnil : (s.kind == 11) = decide (nextsL s at' = []) := by
      unfold nextsL
      cases hk : (s.kind == 11) <;> simp
      repeat' split
      all_goals simp
    cases hk : (s.kind == 11) with
    | true =>
      rw [hend hk]
      have hn0 : nextsL s at' = [] := by rw [hk] at hnil; simpa using hnil.symm
      rw [hn0]
      have hbb : (out.length + 1) * 48 ≤ 70368744177664 := by omega
      have hsn : out.map WayD.d ++ [WayD.d ⟨st, tu⟩] = (out ++ [WayD.mk st tu]).map WayD.d := by simp
      have z0 : (((0 : Nat) : Int) == 0) = true := rfl
      have el : (out ++ [WayD.mk st tu]).length = out.length + 1 := by simp
      have tk : ((out ++ [WayD.mk st tu]).map WayD.d).take (out.length + 1) = (out ++ [WayD.mk st tu]).map WayD.d := List.take_of_length_le (by simp)
      have dd : decide (((out.length + 1 : Nat) : Int) ≤ 64) = decide (out.length + 1 ≤ 64) := by rw [decide_eq_decide]; omega
      simp only [go_sem, ↓reduceIte, Nat.reduceEqDiff, Nat.reduceAdd, Nat.reduceMul, Nat.reduceBEq, Option.getD_none, Int.reduceToNat, Nat.reduceSub, Nat.reduceLT, Nat.reduceLeDiff, Int.reduceLE, Int.reduceLT, reduceCtorEq, z0, hbb, take_map_len, hsn, el, tk, dd, Nat.le_refl]
    | false =>
      rw [hstep hk]
      have hne : nextsL s at' ≠ [] := by intro e; rw [hk, e] at hnil; simp at hnil
      have hlen : (nextsL s at').length ≤ 2 := by
        unfold nextsL
        repeat' split
        all_goals simp
      generalize hN : nextsL s at' = N at hne hlen hnx ⊢
      have z0 : ((N.length : Int) == 0) = false := by
        rw [beq_eq_false_iff_ne]
        have : N.length ≠ 0 := by intro e; exact hne (List.length_eq_zero_iff.1 e)
        omega
      simp only [go_sem, ↓reduceIte, Nat.reduceEqDiff, Nat.reduceAdd, Nat.reduceMul, Nat.reduceBEq, Option.getD_none, Int.reduceToNat, Nat.reduceSub, Nat.reduceLT, Nat.reduceLeDiff, Int.reduceLE, Int.reduceLT, reduceCtorEq, z0]
      generalize hf : (fun i x o => allF p n (extW ⟨st, tu⟩ s i x) o) = f
      have hf' : ∀ i x o, f i x o = allF p n (extW ⟨st, tu⟩ s i x) o := fun i x o => by rw [← hf]
      refine R_loop (α := Nat × List WayD) (fun a s' M' => a.1 ≤ N.length ∧ s' 41 = aI a.1 ∧ a.2.length ≤ 64 ∧ foldW f 0 N out = foldW f a.1 (N.drop a.1) a.2 ∧
          (∃ u, s' 39 = .sl 896 u 0 N.length 1 ∧ M'.m 896 = some (.arr u true 1 (N.map Ii))) ∧
          (∃ v v0 v1, M'.m 64 = some (.box v (.agg [.sl 0 v0 0 st.length 1, .sl 1 v1 0 tu.length 1])) ∧ s' 4 = .ptr 64 v 0 none ∧ M'.m 0 = some (.arr v0 true 1 (st.map Ii)) ∧ M'.m 1 = some (.arr v1 true 1 (tu.map Bb))) ∧
          (∃ nm w, M'.m 2 = some (.box 2 (.sl nm w 0 a.2.length 2)) ∧ s' 2 = .ptr 2 2 0 none ∧ M'.m nm = some (.arr w true 2 (a.2.map WayD.d)) ∧ (nm = 3 ∨ nm = 4544))) (fun a => N.length - a.1) (0, out)
        ⟨by simp, by simp only [go_sem, ↓reduceIte, Nat.reduceEqDiff, Nat.reduceAdd, Nat.reduceMul, Nat.reduceBEq, Option.getD_none, Int.reduceToNat, Nat.reduceSub, Nat.reduceLT, Nat.reduceLeDiff, Int.reduceLE, Int.reduceLT, reduceCtorEq]; rfl, hout, rfl, ⟨_, by simp only [go_sem, ↓reduceIte, Nat.reduceEqDiff, Nat.reduceAdd, Nat.reduceMul, Nat.reduceBEq, Option.getD_none, Int.reduceToNat, Nat.reduceSub, Nat.reduceLT, Nat.reduceLeDiff, Int.reduceLE, Int.reduceLT, reduceCtorEq]; try rfl, by simp only [go_sem, ↓reduceIte, Nat.reduceEqDiff, Nat.reduceAdd, Nat.reduceMul, Nat.reduceBEq, Option.getD_none, Int.reduceToNat, Nat.reduceSub, Nat.reduceLT, Nat.reduceLeDiff, Int.reduceLE, Int.reduceLT, reduceCtorEq]; try rfl⟩, ⟨_, _, _, by simp only [go_sem, ↓reduceIte, Nat.reduceEqDiff, Nat.reduceAdd, Nat.reduceMul, Nat.reduceBEq, Option.getD_none, Int.reduceToNat, Nat.reduceSub, Nat.reduceLT, Nat.reduceLeDiff, Int.reduceLE, Int.reduceLT, reduceCtorEq]; try rfl, by simp only [go_sem, ↓reduceIte, Nat.reduceEqDiff, Nat.reduceAdd, Nat.reduceMul, Nat.reduceBEq, Option.getD_none, Int.reduceToNat, Nat.reduceSub, Nat.reduceLT, Nat.reduceLeDiff, Int.reduceLE, Int.reduceLT, reduceCtorEq]; try rfl, by simp only [go_sem, ↓reduceIte, Nat.reduceEqDiff, Nat.reduceAdd, Nat.reduceMul, Nat.reduceBEq, Option.getD_none, Int.reduceToNat, Nat.reduceSub, Nat.reduceLT, Nat.reduceLeDiff, Int.reduceLE, Int.reduceLT, reduceCtorEq]; try rfl, by simp only [go_sem, ↓reduceIte, Nat.reduceEqDiff, Nat.reduceAdd, Nat.reduceMul, Nat.reduceBEq, Option.getD_none, Int.reduceToNat, Nat.reduceSub, Nat.reduceLT, Nat.reduceLeDiff, Int.reduceLE, Int.reduceLT, reduceCtorEq]; try rfl⟩, ⟨3, _, by simp only [go_sem, ↓reduceIte, Nat.reduceEqDiff, Nat.reduceAdd, Nat.reduceMul, Nat.reduceBEq, Option.getD_none, Int.reduceToNat, Nat.reduceSub, Nat.reduceLT, Nat.reduceLeDiff, Int.reduceLE, Int.reduceLT, reduceCtorEq]; try rfl, by simp only [go_sem, ↓reduceIte, Nat.reduceEqDiff, Nat.reduceAdd, Nat.reduceMul, Nat.reduceBEq, Option.getD_none, Int.reduceToNat, Nat.reduceSub, Nat.reduceLT, Nat.reduceLeDiff, Int.reduceLE, Int.reduceLT, reduceCtorEq]; try rfl, by simp only [go_sem, ↓reduceIte, Nat.reduceEqDiff, Nat.reduceAdd, Nat.reduceMul, Nat.reduceBEq, Option.getD_none, Int.reduceToNat, Nat.reduceSub, Nat.reduceLT, Nat.reduceLeDiff, Int.reduceLE, Int.reduceLT, reduceCtorEq]; try rfl, .inl rfl⟩⟩ ?_
      rintro ⟨k, o⟩ s' M' ⟨hk', h41, ho64, hfold, ⟨u, h39, hmN⟩, ⟨v, v0, v1, hb64, h4, hm0, hm1⟩, ⟨nm, vw, hb2, h2, hmo, hnm⟩⟩ ho
      dsimp only at hk' h41 ho64 hfold hb2 hmo
      unfold impl_ways.b0
      have j0 : s' 0 = .dat none (steps p) := by rw [ho 0 rfl]; simp only [go_sem, ↓reduceIte, Nat.reduceEqDiff, Nat.reduceAdd, Nat.reduceMul, Nat.reduceBEq, Option.getD_none, Int.reduceToNat, Nat.reduceSub, Nat.reduceLT, Nat.reduceLeDiff, Int.reduceLE, Int.reduceLT, reduceCtorEq]
      have j7 : s' 7 = aI at' := by rw [ho 7 rfl]; simp only [go_sem, ↓reduceIte, Nat.reduceEqDiff, Nat.reduceAdd, Nat.reduceMul, Nat.reduceBEq, Option.getD_none, Int.reduceToNat, Nat.reduceSub, Nat.reduceLT, Nat.reduceLeDiff, Int.reduceLE, Int.reduceLT, reduceCtorEq]
      have j40 : s' 40 = aI N.length := by rw [ho 40 rfl]; simp only [go_sem, ↓reduceIte, Nat.reduceEqDiff, Nat.reduceAdd, Nat.reduceMul, Nat.reduceBEq, Option.getD_none, Int.reduceToNat, Nat.reduceSub, Nat.reduceLT, Nat.reduceLeDiff, Int.reduceLE, Int.reduceLT, reduceCtorEq]
      clear ho
      by_cases hlt : k < N.length
      · have hi' : (k : Int) < N.length := by omega
        have ga : N[k]? = some N[k] := List.getElem?_eq_getElem hlt
        have hw : IntKind.i64.wrap (k + 1) = ((k + 1 : Nat) : Int) := wrap_k hlt (by omega)
        have hd : N.drop k = N[k] :: N.drop (k + 1) := List.drop_eq_getElem_cons hlt
        have hx := hnx k N[k] (List.getElem_mem hlt)
        rw [hd] at hfold
        generalize N[k] = x at ga hx hfold
        have b1 : (st.length + 1) * 8 ≤ 70368744177664 := by omega
        have b2 : (tu.length + 1) * 1 ≤ 70368744177664 := by omega
        have sn : st.map Ii ++ [Ii x] = (st ++ [x]).map Ii := by simp
        simp only [go_sem, ↓reduceIte, Nat.reduceEqDiff, Nat.reduceAdd, Nat.reduceMul, Nat.reduceBEq, Option.getD_none, Int.reduceToNat, Nat.reduceSub, Nat.reduceLT, Nat.reduceLeDiff, Int.reduceLE, Int.reduceLT, reduceCtorEq, hi', ga, take_map_len, j0, j7, j40, h41, h39, hmN, hb64, h4, hm0, hm1, hb2, h2, hmo]
        refine fcW_bd (slices_Clone__sint_int.fc st (by omega)) noRs_ints ?_
        simp only [go_sem, ↓reduceIte, Nat.reduceEqDiff, Nat.reduceAdd, Nat.reduceMul, Nat.reduceBEq, Option.getD_none, Int.reduceToNat, Nat.reduceSub, Nat.reduceLT, Nat.reduceLeDiff, Int.reduceLE, Int.reduceLT, reduceCtorEq, hi', ga, take_map_len, b1, sn, j0, j7, j40, h41, h39, hmN, hb64, h4, hm0, hm1, hb2, h2, hmo]
        refine fcW_bd (slices_Clone__sbool_bool.fc2 tu (by omega)) noRs_bools ?_
        have p1 := hp.len.2
        have q1 : at' < p.length := a1
        simp only [go_sem, ↓reduceIte, Nat.reduceEqDiff, Nat.reduceAdd, Nat.reduceMul, Nat.reduceBEq, Option.getD_none, Int.reduceToNat, Nat.reduceSub, Nat.reduceLT, Nat.reduceLeDiff, Int.reduceLE, Int.reduceLT, reduceCtorEq, take_map_len, a0, q1, gs, j0, j7, j40, h41, h39, hmN, hb64, h4, hm0, hm1, hb2, h2, hmo]
        refine fcW_bool cb ?_
        cases hbr : brB s with
        | true =>
          have el1 : (st ++ [x]).length = st.length + 1 := by simp
          have tk1 : ((st ++ [x]).map Ii).take (st.length + 1) = (st ++ [x]).map Ii := List.take_of_length_le (by simp)
          have sn2 : tu.map Bb ++ [Bb ((k : Int) == 1)] = (tu ++ [((k : Int) == 1)]).map Bb := by simp
          have el2 : (tu ++ [((k : Int) == 1)]).length = tu.length + 1 := by simp
          have tk2 : ((tu ++ [((k : Int) == 1)]).map Bb).take (tu.length + 1) = (tu ++ [((k : Int) == 1)]).map Bb := List.take_of_length_le (by simp)
          have eW : extW ⟨st, tu⟩ s k x = ⟨st ++ [x], tu ++ [((k : Int) == 1)]⟩ := by unfold extW; rw [hbr]; rfl
          have ihc := ih (extW ⟨st, tu⟩ s k x) o hx ho64
          have hO65 := allF_le (p := p) n (extW ⟨st, tu⟩ s k x) o (by omega)
          have hfk : f k x o = allF p n (extW ⟨st, tu⟩ s k x) o := hf' k x o
          have hfold2 : foldW f 0 N out = foldW f (k + 1) (N.drop (k + 1)) (allF p n (extW ⟨st, tu⟩ s k x) o) := by rw [hfold, ← hfk]; rfl
          have hmany : (allF p n (extW ⟨st, tu⟩ s k x) o).length > 64 → foldW f 0 N out = allF p n (extW ⟨st, tu⟩ s k x) o := fun h => by
            rw [hfold2]
            exact foldW_many (fun i x o ho => by rw [hf']; exact allF_many ho) _ _ _ h
          rw [eW] at ihc
          rw [eW] at hO65 hfold2 hmany
          generalize hOq : allF p n ⟨st ++ [x], tu ++ [((k : Int) == 1)]⟩ o = O at ihc hO65 hfold2 hmany
          rcases hnm with rfl | rfl <;>
          · simp only [go_sem, ↓reduceIte, Nat.reduceEqDiff, Nat.reduceAdd, Nat.reduceMul, Nat.reduceBEq, Option.getD_none, Int.reduceToNat, Nat.reduceSub, Nat.reduceLT, Nat.reduceLeDiff, Int.reduceLE, Int.reduceLT, reduceCtorEq, b2, take_map_len, sn2, el1, el2, tk1, tk2, Nat.le_refl, j0, j7, j40, h41, h39, hmN, hb64, h4, hm0, hm1, hb2, h2, hmo]
            refine coW_of ihc rfl noRsL_ways ?_
            cases hq : decide (O.length ≤ 64) with
            | true =>
              have hq64 : O.length ≤ 64 := by simpa using hq
              simp only [go_sem, ↓reduceIte, Nat.reduceEqDiff, Nat.reduceAdd, Nat.reduceMul, Nat.reduceBEq, Option.getD_none, Int.reduceToNat, Nat.reduceSub, Nat.reduceLT, Nat.reduceLeDiff, Int.reduceLE, Int.reduceLT, reduceCtorEq, hq, hw, j0, j7, j40, h41, h39, hmN, hb64, h4, hm0, hm1, hb2, h2, hmo]
              exact ⟨(k + 1, O), by dsimp only; omega, by dsimp only; omega, by simp only [go_sem, ↓reduceIte, Nat.reduceEqDiff, Nat.reduceAdd, Nat.reduceMul, Nat.reduceBEq, Option.getD_none, Int.reduceToNat, Nat.reduceSub, Nat.reduceLT, Nat.reduceLeDiff, Int.reduceLE, Int.reduceLT, reduceCtorEq, j0, j7, j40, h41, h39, hmN, hb64, h4, hm0, hm1, hb2, h2, hmo], hq64, hfold2, ⟨u, by simp only [go_sem, ↓reduceIte, Nat.reduceEqDiff, Nat.reduceAdd, Nat.reduceMul, Nat.reduceBEq, Option.getD_none, Int.reduceToNat, Nat.reduceSub, Nat.reduceLT, Nat.reduceLeDiff, Int.reduceLE, Int.reduceLT, reduceCtorEq, j0, j7, j40, h41, h39, hmN, hb64, h4, hm0, hm1, hb2, h2, hmo], by simp only [go_sem, ↓reduceIte, Nat.reduceEqDiff, Nat.reduceAdd, Nat.reduceMul, Nat.reduceBEq, Option.getD_none, Int.reduceToNat, Nat.reduceSub, Nat.reduceLT, Nat.reduceLeDiff, Int.reduceLE, Int.reduceLT, reduceCtorEq, j0, j7, j40, h41, h39, hmN, hb64, h4, hm0, hm1, hb2, h2, hmo]⟩, ⟨v, v0, v1, by simp only [go_sem, ↓reduceIte, Nat.reduceEqDiff, Nat.reduceAdd, Nat.reduceMul, Nat.reduceBEq, Option.getD_none, Int.reduceToNat, Nat.reduceSub, Nat.reduceLT, Nat.reduceLeDiff, Int.reduceLE, Int.reduceLT, reduceCtorEq, j0, j7, j40, h41, h39, hmN, hb64, h4, hm0, hm1, hb2, h2, hmo], by simp only [go_sem, ↓reduceIte, Nat.reduceEqDiff, Nat.reduceAdd, Nat.reduceMul, Nat.reduceBEq, Option.getD_none, Int.reduceToNat, Nat.reduceSub, Nat.reduceLT, Nat.reduceLeDiff, Int.reduceLE, Int.reduceLT, reduceCtorEq, j0, j7, j40, h41, h39, hmN, hb64, h4, hm0, hm1, hb2, h2, hmo], by simp only [go_sem, ↓reduceIte, Nat.reduceEqDiff, Nat.reduceAdd, Nat.reduceMul, Nat.reduceBEq, Option.getD_none, Int.reduceToNat, Nat.reduceSub, Nat.reduceLT, Nat.reduceLeDiff, Int.reduceLE, Int.reduceLT, reduceCtorEq, j0, j7, j40, h41, h39, hmN, hb64, h4, hm0, hm1, hb2, h2, hmo], by simp only [go_sem, ↓reduceIte, Nat.reduceEqDiff, Nat.reduceAdd, Nat.reduceMul, Nat.reduceBEq, Option.getD_none, Int.reduceToNat, Nat.reduceSub, Nat.reduceLT, Nat.reduceLeDiff, Int.reduceLE, Int.reduceLT, reduceCtorEq, j0, j7, j40, h41, h39, hmN, hb64, h4, hm0, hm1, hb2, h2, hmo]⟩, ⟨4544, _, by simp only [go_sem, ↓reduceIte, Nat.reduceEqDiff, Nat.reduceAdd, Nat.reduceMul, Nat.reduceBEq, Option.getD_none, Int.reduceToNat, Nat.reduceSub, Nat.reduceLT, Nat.reduceLeDiff, Int.reduceLE, Int.reduceLT, reduceCtorEq, j0, j7, j40, h41, h39, hmN, hb64, h4, hm0, hm1, hb2, h2, hmo]; try rfl, by simp only [go_sem, ↓reduceIte, Nat.reduceEqDiff, Nat.reduceAdd, Nat.reduceMul, Nat.reduceBEq, Option.getD_none, Int.reduceToNat, Nat.reduceSub, Nat.reduceLT, Nat.reduceLeDiff, Int.reduceLE, Int.reduceLT, reduceCtorEq, j0, j7, j40, h41, h39, hmN, hb64, h4, hm0, hm1, hb2, h2, hmo]; try rfl, by simp only [go_sem, ↓reduceIte, Nat.reduceEqDiff, Nat.reduceAdd, Nat.reduceMul, Nat.reduceBEq, Option.getD_none, Int.reduceToNat, Nat.reduceSub, Nat.reduceLT, Nat.reduceLeDiff, Int.reduceLE, Int.reduceLT, reduceCtorEq, j0, j7, j40, h41, h39, hmN, hb64, h4, hm0, hm1, hb2, h2, hmo]; try rfl, .inr rfl⟩⟩
            | false =>
              have hq64 : O.length > 64 := by simpa using hq
              rw [hmany hq64]
              simp only [go_sem, ↓reduceIte, Nat.reduceEqDiff, Nat.reduceAdd, Nat.reduceMul, Nat.reduceBEq, Option.getD_none, Int.reduceToNat, Nat.reduceSub, Nat.reduceLT, Nat.reduceLeDiff, Int.reduceLE, Int.reduceLT, reduceCtorEq, hq, take_map_len, j0, j7, j40, h41, h39, hmN, hb64, h4, hm0, hm1, hb2, h2, hmo]
        | false =>
          have el1 : (st ++ [x]).length = st.length + 1 := by simp
          have tk1 : ((st ++ [x]).map Ii).take (st.length + 1) = (st ++ [x]).map Ii := List.take_of_length_le (by simp)
          have eW : extW ⟨st, tu⟩ s k x = ⟨st ++ [x], tu⟩ := by unfold extW; rw [hbr]; rfl
          have ihc := ih (extW ⟨st, tu⟩ s k x) o hx ho64
          have hO65 := allF_le (p := p) n (extW ⟨st, tu⟩ s k x) o (by omega)
          have hfk : f k x o = allF p n (extW ⟨st, tu⟩ s k x) o := hf' k x o
          have hfold2 : foldW f 0 N out = foldW f (k + 1) (N.drop (k + 1)) (allF p n (extW ⟨st, tu⟩ s k x) o) := by rw [hfold, ← hfk]; rfl
          have hmany : (allF p n (extW ⟨st, tu⟩ s k x) o).length > 64 → foldW f 0 N out = allF p n (extW ⟨st, tu⟩ s k x) o := fun h => by
            rw [hfold2]
            exact foldW_many (fun i x o ho => by rw [hf']; exact allF_many ho) _ _ _ h
          rw [eW] at ihc
          rw [eW] at hO65 hfold2 hmany
          generalize hOq : allF p n ⟨st ++ [x], tu⟩ o = O at ihc hO65 hfold2 hmany
          rcases hnm with rfl | rfl <;>
          · simp only [go_sem, ↓reduceIte, Nat.reduceEqDiff, Nat.reduceAdd, Nat.reduceMul, Nat.reduceBEq, Option.getD_none, Int.reduceToNat, Nat.reduceSub, Nat.reduceLT, Nat.reduceLeDiff, Int.reduceLE, Int.reduceLT, reduceCtorEq, b2, take_map_len, el1, tk1, Nat.le_refl, j0, j7, j40, h41, h39, hmN, hb64, h4, hm0, hm1, hb2, h2, hmo]
            refine coW_of ihc rfl noRsL_ways ?_
            cases hq : decide (O.length ≤ 64) with
            | true =>
              have hq64 : O.length ≤ 64 := by simpa using hq
              simp only [go_sem, ↓reduceIte, Nat.reduceEqDiff, Nat.reduceAdd, Nat.reduceMul, Nat.reduceBEq, Option.getD_none, Int.reduceToNat, Nat.reduceSub, Nat.reduceLT, Nat.reduceLeDiff, Int.reduceLE, Int.reduceLT, reduceCtorEq, hq, hw, j0, j7, j40, h41, h39, hmN, hb64, h4, hm0, hm1, hb2, h2, hmo]
              exact ⟨(k + 1, O), by dsimp only; omega, by dsimp only; omega, by simp only [go_sem, ↓reduceIte, Nat.reduceEqDiff, Nat.reduceAdd, Nat.reduceMul, Nat.reduceBEq, Option.getD_none, Int.reduceToNat, Nat.reduceSub, Nat.reduceLT, Nat.reduceLeDiff, Int.reduceLE, Int.reduceLT, reduceCtorEq, j0, j7, j40, h41, h39, hmN, hb64, h4, hm0, hm1, hb2, h2, hmo], hq64, hfold2, ⟨u, by simp only [go_sem, ↓reduceIte, Nat.reduceEqDiff, Nat.reduceAdd, Nat.reduceMul, Nat.reduceBEq, Option.getD_none, Int.reduceToNat, Nat.reduceSub, Nat.reduceLT, Nat.reduceLeDiff, Int.reduceLE, Int.reduceLT, reduceCtorEq, j0, j7, j40, h41, h39, hmN, hb64, h4, hm0, hm1, hb2, h2, hmo], by simp only [go_sem, ↓reduceIte, Nat.reduceEqDiff, Nat.reduceAdd, Nat.reduceMul, Nat.reduceBEq, Option.getD_none, Int.reduceToNat, Nat.reduceSub, Nat.reduceLT, Nat.reduceLeDiff, Int.reduceLE, Int.reduceLT, reduceCtorEq, j0, j7, j40, h41, h39, hmN, hb64, h4, hm0, hm1, hb2, h2, hmo]⟩, ⟨v, v0, v1, by simp only [go_sem, ↓reduceIte, Nat.reduceEqDiff, Nat.reduceAdd, Nat.reduceMul, Nat.reduceBEq, Option.getD_none, Int.reduceToNat, Nat.reduceSub, Nat.reduceLT, Nat.reduceLeDiff, Int.reduceLE, Int.reduceLT, reduceCtorEq, j0, j7, j40, h41, h39, hmN, hb64, h4, hm0, hm1, hb2, h2, hmo], by simp only [go_sem, ↓reduceIte, Nat.reduceEqDiff, Nat.reduceAdd, Nat.reduceMul, Nat.reduceBEq, Option.getD_none, Int.reduceToNat, Nat.reduceSub, Nat.reduceLT, Nat.reduceLeDiff, Int.reduceLE, Int.reduceLT, reduceCtorEq, j0, j7, j40, h41, h39, hmN, hb64, h4, hm0, hm1, hb2, h2, hmo], by simp only [go_sem, ↓reduceIte, Nat.reduceEqDiff, Nat.reduceAdd, Nat.reduceMul, Nat.reduceBEq, Option.getD_none, Int.reduceToNat, Nat.reduceSub, Nat.reduceLT, Nat.reduceLeDiff, Int.reduceLE, Int.reduceLT, reduceCtorEq, j0, j7, j40, h41, h39, hmN, hb64, h4, hm0, hm1, hb2, h2, hmo], by simp only [go_sem, ↓reduceIte, Nat.reduceEqDiff, Nat.reduceAdd, Nat.reduceMul, Nat.reduceBEq, Option.getD_none, Int.reduceToNat, Nat.reduceSub, Nat.reduceLT, Nat.reduceLeDiff, Int.reduceLE, Int.reduceLT, reduceCtorEq, j0, j7, j40, h41, h39, hmN, hb64, h4, hm0, hm1, hb2, h2, hmo]⟩, ⟨4544, _, by simp only [go_sem, ↓reduceIte, Nat.reduceEqDiff, Nat.reduceAdd, Nat.reduceMul, Nat.reduceBEq, Option.getD_none, Int.reduceToNat, Nat.reduceSub, Nat.reduceLT, Nat.reduceLeDiff, Int.reduceLE, Int.reduceLT, reduceCtorEq, j0, j7, j40, h41, h39, hmN, hb64, h4, hm0, hm1, hb2, h2, hmo]; try rfl, by simp only [go_sem, ↓reduceIte, Nat.reduceEqDiff, Nat.reduceAdd, Nat.reduceMul, Nat.reduceBEq, Option.getD_none, Int.reduceToNat, Nat.reduceSub, Nat.reduceLT, Nat.reduceLeDiff, Int.reduceLE, Int.reduceLT, reduceCtorEq, j0, j7, j40, h41, h39, hmN, hb64, h4, hm0, hm1, hb2, h2, hmo]; try rfl, by simp only [go_sem, ↓reduceIte, Nat.reduceEqDiff, Nat.reduceAdd, Nat.reduceMul, Nat.reduceBEq, Option.getD_none, Int.reduceToNat, Nat.reduceSub, Nat.reduceLT, Nat.reduceLeDiff, Int.reduceLE, Int.reduceLT, reduceCtorEq, j0, j7, j40, h41, h39, hmN, hb64, h4, hm0, hm1, hb2, h2, hmo]; try rfl, .inr rfl⟩⟩
            | false =>
              have hq64 : O.length > 64 := by simpa using hq
              rw [hmany hq64]
              simp only [go_sem, ↓reduceIte, Nat.reduceEqDiff, Nat.reduceAdd, Nat.reduceMul, Nat.reduceBEq, Option.getD_none, Int.reduceToNat, Nat.reduceSub, Nat.reduceLT, Nat.reduceLeDiff, Int.reduceLE, Int.reduceLT, reduceCtorEq, hq, take_map_len, j0, j7, j40, h41, h39, hmN, hb64, h4, hm0, hm1, hb2, h2, hmo]
      · have hi' : ¬ (k : Int) < N.length := by omega
        obtain rfl : k = N.length := by omega
        have hd0 : N.drop N.length = [] := List.drop_eq_nil_of_le (Nat.le_refl _)
        rw [hd0] at hfold
        have hfin : foldW f 0 N out = o := hfold
        rw [hfin]
        have hdt : decide (o.length ≤ 64) = true := by simpa using ho64
        rcases hnm with rfl | rfl <;> simp only [go_sem, ↓reduceIte, Nat.reduceEqDiff, Nat.reduceAdd, Nat.reduceMul, Nat.reduceBEq, Option.getD_none, Int.reduceToNat, Nat.reduceSub, Nat.reduceLT, Nat.reduceLeDiff, Int.reduceLE, Int.reduceLT, reduceCtorEq, Int.lt_irrefl, hdt, take_map_len, j0, j7, j40, h41, h39, hmN, hb64, h4, hm0, hm1, hb2, h2, hmo]
end Go.Vm.Ytdembjfpgfaheaa
/- Walks: all ways. -/
namespace Go.Vm.Ytdembjfpgfaheaa
open Go Go.Vm
set_option maxRecDepth 10000
set_option maxHeartbeats 16000000
set_option linter.unusedSimpArgs false
set_option linter.unusedVariables false

def w0 : WayD := ⟨[0], []⟩
theorem w0_on {p : List StepD} (hp : ProgOk p) : OnWay p w0 p.length := by
  have h1 := hp.len.1
  have h2 := hp.len.2
  have e : lastA w0 = 0 := rfl
  refine ⟨by simp [w0], ?_, by simp [w0], by rw [e]; omega, by rw [e]; omega, by rw [e]; omega⟩
  show 1 + p.length ≤ 21
  omega
def waysV (p : List StepD) : List WayD × Bool := if goodP p && decide ((allF p p.length w0 []).length ≤ 64) then (allF p p.length w0 [], true) else ([], false)
theorem impl_WaysThrough.fc (p : List StepD) (hpl : p.length ≤ 4194304) : FCt prog F_impl_WaysThrough [.ro] [steps p] (.tup [ways (waysV p).1, Bb (waysV p).2]) [] := by
  refine fct_run impl_WaysThrough.ok rfl ?_
  unfold waysV
  simp only [go_sem, ↓reduceIte, Nat.reduceEqDiff, Nat.reduceAdd, Nat.reduceMul, Nat.reduceBEq, Option.getD_none, Int.reduceToNat, Nat.reduceSub, Nat.reduceLT, Nat.reduceLeDiff, Int.reduceLE, Int.reduceLT, reduceCtorEq]
  refine fcW_bool (impl_GoodProgram.fc p hpl) ?_
  cases hg : goodP p with
  | false => simp only [go_sem, ↓reduceIte, Nat.reduceEqDiff, Nat.reduceAdd, Nat.reduceMul, Nat.reduceBEq, Option.getD_none, Int.reduceToNat, Nat.reduceSub, Nat.reduceLT, Nat.reduceLeDiff, Int.reduceLE, Int.reduceLT, reduceCtorEq]; try rfl
  | true =>
    have hp := prog_ok hg
    have c := impl_ways.fc p hp p.length w0 [] (w0_on hp) (by simp)
    generalize allF p p.length w0 [] = O at c ⊢
    simp only [go_sem, ↓reduceIte, Nat.reduceEqDiff, Nat.reduceAdd, Nat.reduceMul, Nat.reduceBEq, Option.getD_none, Int.reduceToNat, Nat.reduceSub, Nat.reduceLT, Nat.reduceLeDiff, Int.reduceLE, Int.reduceLT, reduceCtorEq]
    refine coW_of c rfl noRsL_ways ?_
    cases hq : decide (O.length ≤ 64) with
    | false => simp only [go_sem, ↓reduceIte, Nat.reduceEqDiff, Nat.reduceAdd, Nat.reduceMul, Nat.reduceBEq, Option.getD_none, Int.reduceToNat, Nat.reduceSub, Nat.reduceLT, Nat.reduceLeDiff, Int.reduceLE, Int.reduceLT, reduceCtorEq, hq]; try rfl
    | true => simp only [go_sem, ↓reduceIte, Nat.reduceEqDiff, Nat.reduceAdd, Nat.reduceMul, Nat.reduceBEq, Option.getD_none, Int.reduceToNat, Nat.reduceSub, Nat.reduceLT, Nat.reduceLeDiff, Int.reduceLE, Int.reduceLT, reduceCtorEq, hq, take_map_len]; try rfl
end Go.Vm.Ytdembjfpgfaheaa
/- Walks: all ways, by the reference. -/
namespace Go.Vm.Ytdembjfpgfaheaa
open Go Go.Vm
set_option maxRecDepth 10000
set_option maxHeartbeats 16000000
set_option linter.unusedSimpArgs false
set_option linter.unusedVariables false

theorem spec_l14Own.fc (st : List Int) (tu : List Bool) (h1 : st.length ≤ 4194304) (h2 : tu.length ≤ 4194304) : FCt prog F_spec_l14Own [.ro] [WayD.d ⟨st, tu⟩] (WayD.d ⟨st, tu⟩) [] := by
  refine fct_run spec_l14Own.ok rfl ?_
  have b1 : st.length * 8 ≤ 70368744177664 := by omega
  have b2 : tu.length * 1 ≤ 70368744177664 := by omega
  have k1 : (st.map Ii).take st.length = st.map Ii := take_map_len
  have k2 : (tu.map Bb).take tu.length = tu.map Bb := take_map_len
  cases st with
  | nil =>
    cases tu with
    | nil => simp only [go_sem, ↓reduceIte, Nat.reduceEqDiff, Nat.reduceAdd, Nat.reduceMul, Nat.reduceBEq, Option.getD_none, Int.reduceToNat, Nat.reduceSub, Nat.reduceLT, Nat.reduceLeDiff, Int.reduceLE, Int.reduceLT, reduceCtorEq, List.length_nil, List.map_nil, List.all_nil]; try rfl
    | cons t tu =>
      have hsc : ((t :: tu).map Bb).all isSc = true := allScB
      simp only [List.length_cons, List.map_cons, List.all_cons, Bool.and_eq_true, List.take_succ_cons, List.cons.injEq, true_and] at b2 k2 hsc
      have s1 := hsc.1
      have s2 := hsc.2
      simp only [go_sem, ↓reduceIte, Nat.reduceEqDiff, Nat.reduceAdd, Nat.reduceMul, Nat.reduceBEq, Option.getD_none, Int.reduceToNat, Nat.reduceSub, Nat.reduceLT, Nat.reduceLeDiff, Int.reduceLE, Int.reduceLT, reduceCtorEq, List.length_nil, List.map_nil, List.all_nil, s1, s2, b2, k2, Nat.zero_le]; try rfl
  | cons a st =>
    have hsa : ((a :: st).map Ii).all isSc = true := allSc
    simp only [List.length_cons, List.map_cons, List.all_cons, Bool.and_eq_true, List.take_succ_cons, List.cons.injEq, true_and] at b1 k1 hsa
    have s3 := hsa.1
    have s4 := hsa.2
    cases tu with
    | nil => simp only [go_sem, ↓reduceIte, Nat.reduceEqDiff, Nat.reduceAdd, Nat.reduceMul, Nat.reduceBEq, Option.getD_none, Int.reduceToNat, Nat.reduceSub, Nat.reduceLT, Nat.reduceLeDiff, Int.reduceLE, Int.reduceLT, reduceCtorEq, List.length_nil, List.map_nil, List.all_nil, s3, s4, b1, k1, Nat.zero_le]; try rfl
    | cons t tu =>
      have hsc : ((t :: tu).map Bb).all isSc = true := allScB
      simp only [List.length_cons, List.map_cons, List.all_cons, Bool.and_eq_true, List.take_succ_cons, List.cons.injEq, true_and] at b2 k2 hsc
      have s1 := hsc.1
      have s2 := hsc.2
      simp only [go_sem, ↓reduceIte, Nat.reduceEqDiff, Nat.reduceAdd, Nat.reduceMul, Nat.reduceBEq, Option.getD_none, Int.reduceToNat, Nat.reduceSub, Nat.reduceLT, Nat.reduceLeDiff, Int.reduceLE, Int.reduceLT, reduceCtorEq, s1, s2, s3, s4, b1, b2, k1, k2, Nat.zero_le]; try rfl
end Go.Vm.Ytdembjfpgfaheaa
/- Walks: all ways, by the reference. -/
namespace Go.Vm.Ytdembjfpgfaheaa
open Go Go.Vm
set_option maxRecDepth 10000
set_option maxHeartbeats 16000000
set_option linter.unusedSimpArgs false
set_option linter.unusedVariables false

theorem spec_l14All.fc (p : List StepD) (hp : ProgOk p) : ∀ (n : Nat) (w : WayD) (out : List WayD), OnWay p w n → out.length ≤ 65 →
    FCt prog F_spec_l14All [.ro, .ro, .co] [steps p, w.d, ways out] (ways (allF p n w out)) []
  | 0, w, out, h, ho => by have := h.a1; have := h.a2; omega
  | n + 1, w, out, h, hout => by
    refine fct_run spec_l14All.ok rfl ?_
    have ih := fun (w : WayD) (out : List WayD) => spec_l14All.fc p hp n w out
    obtain ⟨l0, l1, l2, a0, a1, a2⟩ := h
    have hi : (lastA w).toNat < p.length := by omega
    have gs : p[(lastA w).toNat]? = some p[(lastA w).toNat] := List.getElem?_eq_getElem hi
    have hv := (hp.all _ hi).1
    have hnx := fun i x (hx : x ∈ nextsL p[(lastA w).toNat] (lastA w)) => on_next (i := i) hp ⟨l0, l1, l2, a0, a1, a2⟩ gs hx
    generalize p[(lastA w).toNat] = s at gs hv hnx
    have cn := spec_l2Nexts.fc p (lastA w) s a0 a1 hp.len.2 gs hv
    have cb := spec_l14Branch.fc s
    have hmany := allF_many (p := p) (n := n + 1) (w := w) (out := out)
    have hend := fun h => allF_end (n := n) (w := w) (out := out) (p := p) (s := s) h gs
    have hstep := fun h => allF_step (n := n) (w := w) (out := out) (p := p) (s := s) h gs
    have hlast : w.steps[w.steps.length - 1]? = some (lastA w) := by
      unfold lastA
      rw [List.getD_eq_getElem?_getD, List.getElem?_eq_getElem (by omega)]; rfl
    have wl1 : IntKind.i64.wrap ((w.steps.length : Int) - 1) = ((w.steps.length - 1 : Nat) : Int) := by rw [wrap_in (by omega) (by omega)]; omega
    have wl2 : ((w.steps.length - 1 : Nat) : Int) < w.steps.length := by omega
    obtain ⟨st, tu⟩ := w
    dsimp only at l0 l1 l2 hlast wl1 wl2
    generalize hA : lastA ⟨st, tu⟩ = at' at *
    have p1 := hp.len.2
    have q1 : at' < p.length := a1
    have hbb : (out.length + 1) * 48 ≤ 70368744177664 := by omega
    by_cases h64 : out.length > 64
    · have h64' : (out.length : Int) > 64 := by omega
      rw [hmany h64]
      simp only [go_sem, ↓reduceIte, Nat.reduceEqDiff, Nat.reduceAdd, Nat.reduceMul, Nat.reduceBEq, Option.getD_none, Int.reduceToNat, Nat.reduceSub, Nat.reduceLT, Nat.reduceLeDiff, Int.reduceLE, Int.reduceLT, reduceCtorEq, h64', take_map_len]
    · have h64' : ¬ (out.length : Int) > 64 := by omega
      simp only [go_sem, ↓reduceIte, Nat.reduceEqDiff, Nat.reduceAdd, Nat.reduceMul, Nat.reduceBEq, Option.getD_none, Int.reduceToNat, Nat.reduceSub, Nat.reduceLT, Nat.reduceLeDiff, Int.reduceLE, Int.reduceLT, reduceCtorEq, h64', wl1, wl2, hlast, a0, q1, gs]
      have cown := spec_l14Own.fc st tu (by omega) (by omega)
      cases hk : (s.kind == 11) with
      | true =>
        rw [hend (by omega) hk]
        simp only [go_sem, ↓reduceIte, Nat.reduceEqDiff, Nat.reduceAdd, Nat.reduceMul, Nat.reduceBEq, Option.getD_none, Int.reduceToNat, Nat.reduceSub, Nat.reduceLT, Nat.reduceLeDiff, Int.reduceLE, Int.reduceLT, reduceCtorEq, hk]
        refine fcW_bd cown noRs_Way ?_
        have el : (out ++ [WayD.mk st tu]).length = out.length + 1 := by simp
        have hsn : out.map WayD.d ++ [WayD.d ⟨st, tu⟩] = (out ++ [WayD.mk st tu]).map WayD.d := by simp
        have tk : ((out ++ [WayD.mk st tu]).map WayD.d).take (out.length + 1) = (out ++ [WayD.mk st tu]).map WayD.d := List.take_of_length_le (by simp)
        simp only [go_sem, ↓reduceIte, Nat.reduceEqDiff, Nat.reduceAdd, Nat.reduceMul, Nat.reduceBEq, Option.getD_none, Int.reduceToNat, Nat.reduceSub, Nat.reduceLT, Nat.reduceLeDiff, Int.reduceLE, Int.reduceLT, reduceCtorEq, hbb, take_map_len, hsn, el, tk, Nat.le_refl]
      | false =>
        rw [hstep (by omega) hk]
        have hlen : (nextsL s at').length ≤ 2 := by
          unfold nextsL
          repeat' split
          all_goals simp
        simp only [go_sem, ↓reduceIte, Nat.reduceEqDiff, Nat.reduceAdd, Nat.reduceMul, Nat.reduceBEq, Option.getD_none, Int.reduceToNat, Nat.reduceSub, Nat.reduceLT, Nat.reduceLeDiff, Int.reduceLE, Int.reduceLT, reduceCtorEq, hk]
        refine fcW_bd cn noRs_ints ?_
        generalize hN : nextsL s at' = N at hlen hnx ⊢
        generalize hf : (fun i x o => allF p n (extW ⟨st, tu⟩ s i x) o) = f
        have hf' : ∀ i x o, f i x o = allF p n (extW ⟨st, tu⟩ s i x) o := fun i x o => by rw [← hf]
        simp only [go_sem, ↓reduceIte, Nat.reduceEqDiff, Nat.reduceAdd, Nat.reduceMul, Nat.reduceBEq, Option.getD_none, Int.reduceToNat, Nat.reduceSub, Nat.reduceLT, Nat.reduceLeDiff, Int.reduceLE, Int.reduceLT, reduceCtorEq]
        refine R_loop (α := Nat × List WayD) (fun a s' M' => a.1 ≤ N.length ∧ s' 38 = aI a.1 ∧ a.2.length ≤ 65 ∧ foldW f 0 N out = foldW f a.1 (N.drop a.1) a.2 ∧
            (∃ u, s' 36 = .sl 1984 u 0 N.length 1 ∧ M'.m 1984 = some (.arr u true 1 (N.map Ii))) ∧
            (∃ v, M'.m 64 = some (.box v (.dat none (WayD.d ⟨st, tu⟩))) ∧ s' 4 = .ptr 64 v 0 none) ∧
            (∃ nm w, s' 2 = .sl nm w 0 a.2.length 2 ∧ M'.m nm = some (.arr w true 2 (a.2.map WayD.d)) ∧ (nm = 0 ∨ nm = 4288))) (fun a => N.length - a.1) (0, out)
          ⟨by simp, by simp only [go_sem, ↓reduceIte, Nat.reduceEqDiff, Nat.reduceAdd, Nat.reduceMul, Nat.reduceBEq, Option.getD_none, Int.reduceToNat, Nat.reduceSub, Nat.reduceLT, Nat.reduceLeDiff, Int.reduceLE, Int.reduceLT, reduceCtorEq]; rfl, hout, rfl, ⟨_, by simp only [go_sem, ↓reduceIte, Nat.reduceEqDiff, Nat.reduceAdd, Nat.reduceMul, Nat.reduceBEq, Option.getD_none, Int.reduceToNat, Nat.reduceSub, Nat.reduceLT, Nat.reduceLeDiff, Int.reduceLE, Int.reduceLT, reduceCtorEq]; try rfl, by simp only [go_sem, ↓reduceIte, Nat.reduceEqDiff, Nat.reduceAdd, Nat.reduceMul, Nat.reduceBEq, Option.getD_none, Int.reduceToNat, Nat.reduceSub, Nat.reduceLT, Nat.reduceLeDiff, Int.reduceLE, Int.reduceLT, reduceCtorEq]; try rfl⟩, ⟨_, by simp only [go_sem, ↓reduceIte, Nat.reduceEqDiff, Nat.reduceAdd, Nat.reduceMul, Nat.reduceBEq, Option.getD_none, Int.reduceToNat, Nat.reduceSub, Nat.reduceLT, Nat.reduceLeDiff, Int.reduceLE, Int.reduceLT, reduceCtorEq]; try rfl, by simp only [go_sem, ↓reduceIte, Nat.reduceEqDiff, Nat.reduceAdd, Nat.reduceMul, Nat.reduceBEq, Option.getD_none, Int.reduceToNat, Nat.reduceSub, Nat.reduceLT, Nat.reduceLeDiff, Int.reduceLE, Int.reduceLT, reduceCtorEq]; try rfl⟩, ⟨0, _, by simp only [go_sem, ↓reduceIte, Nat.reduceEqDiff, Nat.reduceAdd, Nat.reduceMul, Nat.reduceBEq, Option.getD_none, Int.reduceToNat, Nat.reduceSub, Nat.reduceLT, Nat.reduceLeDiff, Int.reduceLE, Int.reduceLT, reduceCtorEq]; try rfl, by simp only [go_sem, ↓reduceIte, Nat.reduceEqDiff, Nat.reduceAdd, Nat.reduceMul, Nat.reduceBEq, Option.getD_none, Int.reduceToNat, Nat.reduceSub, Nat.reduceLT, Nat.reduceLeDiff, Int.reduceLE, Int.reduceLT, reduceCtorEq]; try rfl, .inl rfl⟩⟩ ?_
        rintro ⟨k, o⟩ s' M' ⟨hk', h38, ho65, hfold, ⟨u, h36, hmN⟩, ⟨v, hb64, h4⟩, ⟨nm, vw, h2, hmo, hnm⟩⟩ ho
        dsimp only at hk' h38 ho65 hfold h2 hmo
        unfold spec_l14All.b0
        have j0 : s' 0 = .dat none (steps p) := by rw [ho 0 rfl]; simp only [go_sem, ↓reduceIte, Nat.reduceEqDiff, Nat.reduceAdd, Nat.reduceMul, Nat.reduceBEq, Option.getD_none, Int.reduceToNat, Nat.reduceSub, Nat.reduceLT, Nat.reduceLeDiff, Int.reduceLE, Int.reduceLT, reduceCtorEq]
        have j7 : s' 7 = aI at' := by rw [ho 7 rfl]; simp only [go_sem, ↓reduceIte, Nat.reduceEqDiff, Nat.reduceAdd, Nat.reduceMul, Nat.reduceBEq, Option.getD_none, Int.reduceToNat, Nat.reduceSub, Nat.reduceLT, Nat.reduceLeDiff, Int.reduceLE, Int.reduceLT, reduceCtorEq]
        have j37 : s' 37 = aI N.length := by rw [ho 37 rfl]; simp only [go_sem, ↓reduceIte, Nat.reduceEqDiff, Nat.reduceAdd, Nat.reduceMul, Nat.reduceBEq, Option.getD_none, Int.reduceToNat, Nat.reduceSub, Nat.reduceLT, Nat.reduceLeDiff, Int.reduceLE, Int.reduceLT, reduceCtorEq]
        clear ho
        by_cases hlt : k < N.length
        · have hi' : (k : Int) < N.length := by omega
          have ga : N[k]? = some N[k] := List.getElem?_eq_getElem hlt
          have hw : IntKind.i64.wrap (k + 1) = ((k + 1 : Nat) : Int) := wrap_k hlt (by omega)
          have hd : N.drop k = N[k] :: N.drop (k + 1) := List.drop_eq_getElem_cons hlt
          have hx := hnx k N[k] (List.getElem_mem hlt)
          rw [hd] at hfold
          generalize N[k] = x at ga hx hfold
          have b1 : (st.length + 1) * 8 ≤ 70368744177664 := by omega
          have b2 : (tu.length + 1) * 1 ≤ 70368744177664 := by omega
          have sn : st.map Ii ++ [Ii x] = (st ++ [x]).map Ii := by simp
          have el1 : (st ++ [x]).length = st.length + 1 := by simp
          have tk1 : ((st ++ [x]).map Ii).take (st.length + 1) = (st ++ [x]).map Ii := List.take_of_length_le (by simp)
          have sn2 : tu.map Bb ++ [Bb ((k : Int) == 1)] = (tu ++ [((k : Int) == 1)]).map Bb := by simp
          have el2 : (tu ++ [((k : Int) == 1)]).length = tu.length + 1 := by simp
          have tk2 : ((tu ++ [((k : Int) == 1)]).map Bb).take (tu.length + 1) = (tu ++ [((k : Int) == 1)]).map Bb := List.take_of_length_le (by simp)
          have ihc := ih (extW ⟨st, tu⟩ s k x) o hx ho65
          have hO65 := allF_le (p := p) n (extW ⟨st, tu⟩ s k x) o ho65
          have hfk : f k x o = allF p n (extW ⟨st, tu⟩ s k x) o := hf' k x o
          have hfold2 : foldW f 0 N out = foldW f (k + 1) (N.drop (k + 1)) (allF p n (extW ⟨st, tu⟩ s k x) o) := by rw [hfold, ← hfk]; rfl
          simp only [go_sem, ↓reduceIte, Nat.reduceEqDiff, Nat.reduceAdd, Nat.reduceMul, Nat.reduceBEq, Option.getD_none, Int.reduceToNat, Nat.reduceSub, Nat.reduceLT, Nat.reduceLeDiff, Int.reduceLE, Int.reduceLT, reduceCtorEq, hi', ga, j0, j7, j37, h38, h36, hmN, hb64, h4, h2, hmo]
          refine fcW_bd cown noRs_Way ?_
          simp only [go_sem, ↓reduceIte, Nat.reduceEqDiff, Nat.reduceAdd, Nat.reduceMul, Nat.reduceBEq, Option.getD_none, Int.reduceToNat, Nat.reduceSub, Nat.reduceLT, Nat.reduceLeDiff, Int.reduceLE, Int.reduceLT, reduceCtorEq, b1, take_map_len, sn, a0, q1, gs, j0, j7, j37, h38, h36, hmN, hb64, h4, h2, hmo]
          refine fcW_bool cb ?_
          cases hbr : brB s with
          | true =>
            have eW : extW ⟨st, tu⟩ s k x = ⟨st ++ [x], tu ++ [((k : Int) == 1)]⟩ := by unfold extW; rw [hbr]; rfl
            rw [eW] at ihc hO65 hfold2
            generalize hOq : allF p n ⟨st ++ [x], tu ++ [((k : Int) == 1)]⟩ o = O at ihc hO65 hfold2
            rcases hnm with rfl | rfl <;>
            · simp only [go_sem, ↓reduceIte, Nat.reduceEqDiff, Nat.reduceAdd, Nat.reduceMul, Nat.reduceBEq, Option.getD_none, Int.reduceToNat, Nat.reduceSub, Nat.reduceLT, Nat.reduceLeDiff, Int.reduceLE, Int.reduceLT, reduceCtorEq, b2, take_map_len, sn2, el1, el2, tk1, tk2, Nat.le_refl, j0, j7, j37, h38, h36, hmN, hb64, h4, h2, hmo]
              refine coW_of ihc noRs_ways rfl ?_
              simp only [go_sem, ↓reduceIte, Nat.reduceEqDiff, Nat.reduceAdd, Nat.reduceMul, Nat.reduceBEq, Option.getD_none, Int.reduceToNat, Nat.reduceSub, Nat.reduceLT, Nat.reduceLeDiff, Int.reduceLE, Int.reduceLT, reduceCtorEq, hw, j0, j7, j37, h38, h36, hmN, hb64, h4, h2, hmo]
              exact ⟨(k + 1, O), by dsimp only; omega, by dsimp only; omega, by simp only [go_sem, ↓reduceIte, Nat.reduceEqDiff, Nat.reduceAdd, Nat.reduceMul, Nat.reduceBEq, Option.getD_none, Int.reduceToNat, Nat.reduceSub, Nat.reduceLT, Nat.reduceLeDiff, Int.reduceLE, Int.reduceLT, reduceCtorEq, j0, j7, j37, h38, h36, hmN, hb64, h4, h2, hmo], hO65, hfold2, ⟨u, by simp only [go_sem, ↓reduceIte, Nat.reduceEqDiff, Nat.reduceAdd, Nat.reduceMul, Nat.reduceBEq, Option.getD_none, Int.reduceToNat, Nat.reduceSub, Nat.reduceLT, Nat.reduceLeDiff, Int.reduceLE, Int.reduceLT, reduceCtorEq, j0, j7, j37, h38, h36, hmN, hb64, h4, h2, hmo], by simp only [go_sem, ↓reduceIte, Nat.reduceEqDiff, Nat.reduceAdd, Nat.reduceMul, Nat.reduceBEq, Option.getD_none, Int.reduceToNat, Nat.reduceSub, Nat.reduceLT, Nat.reduceLeDiff, Int.reduceLE, Int.reduceLT, reduceCtorEq, j0, j7, j37, h38, h36, hmN, hb64, h4, h2, hmo]⟩, ⟨v, by simp only [go_sem, ↓reduceIte, Nat.reduceEqDiff, Nat.reduceAdd, Nat.reduceMul, Nat.reduceBEq, Option.getD_none, Int.reduceToNat, Nat.reduceSub, Nat.reduceLT, Nat.reduceLeDiff, Int.reduceLE, Int.reduceLT, reduceCtorEq, j0, j7, j37, h38, h36, hmN, hb64, h4, h2, hmo], by simp only [go_sem, ↓reduceIte, Nat.reduceEqDiff, Nat.reduceAdd, Nat.reduceMul, Nat.reduceBEq, Option.getD_none, Int.reduceToNat, Nat.reduceSub, Nat.reduceLT, Nat.reduceLeDiff, Int.reduceLE, Int.reduceLT, reduceCtorEq, j0, j7, j37, h38, h36, hmN, hb64, h4, h2, hmo]⟩, ⟨4288, _, by simp only [go_sem, ↓reduceIte, Nat.reduceEqDiff, Nat.reduceAdd, Nat.reduceMul, Nat.reduceBEq, Option.getD_none, Int.reduceToNat, Nat.reduceSub, Nat.reduceLT, Nat.reduceLeDiff, Int.reduceLE, Int.reduceLT, reduceCtorEq, j0, j7, j37, h38, h36, hmN, hb64, h4, h2, hmo]; try rfl, by simp only [go_sem, ↓reduceIte, Nat.reduceEqDiff, Nat.reduceAdd, Nat.reduceMul, Nat.reduceBEq, Option.getD_none, Int.reduceToNat, Nat.reduceSub, Nat.reduceLT, Nat.reduceLeDiff, Int.reduceLE, Int.reduceLT, reduceCtorEq, j0, j7, j37, h38, h36, hmN, hb64, h4, h2, hmo]; try rfl, .inr rfl⟩⟩
          | false =>
            have eW : extW ⟨st, tu⟩ s k x = ⟨st ++ [x], tu⟩ := by unfold extW; rw [hbr]; rfl
            rw [eW] at ihc hO65 hfold2
            generalize hOq : allF p n ⟨st ++ [x], tu⟩ o = O at ihc hO65 hfold2
            rcases hnm with rfl | rfl <;>
            · simp only [go_sem, ↓reduceIte, Nat.reduceEqDiff, Nat.reduceAdd, Nat.reduceMul, Nat.reduceBEq, Option.getD_none, Int.reduceToNat, Nat.reduceSub, Nat.reduceLT, Nat.reduceLeDiff, Int.reduceLE, Int.reduceLT, reduceCtorEq, b2, take_map_len, el1, tk1, Nat.le_refl, j0, j7, j37, h38, h36, hmN, hb64, h4, h2, hmo]
              refine coW_of ihc noRs_ways rfl ?_
              simp only [go_sem, ↓reduceIte, Nat.reduceEqDiff, Nat.reduceAdd, Nat.reduceMul, Nat.reduceBEq, Option.getD_none, Int.reduceToNat, Nat.reduceSub, Nat.reduceLT, Nat.reduceLeDiff, Int.reduceLE, Int.reduceLT, reduceCtorEq, hw, j0, j7, j37, h38, h36, hmN, hb64, h4, h2, hmo]
              exact ⟨(k + 1, O), by dsimp only; omega, by dsimp only; omega, by simp only [go_sem, ↓reduceIte, Nat.reduceEqDiff, Nat.reduceAdd, Nat.reduceMul, Nat.reduceBEq, Option.getD_none, Int.reduceToNat, Nat.reduceSub, Nat.reduceLT, Nat.reduceLeDiff, Int.reduceLE, Int.reduceLT, reduceCtorEq, j0, j7, j37, h38, h36, hmN, hb64, h4, h2, hmo], hO65, hfold2, ⟨u, by simp only [go_sem, ↓reduceIte, Nat.reduceEqDiff, Nat.reduceAdd, Nat.reduceMul, Nat.reduceBEq, Option.getD_none, Int.reduceToNat, Nat.reduceSub, Nat.reduceLT, Nat.reduceLeDiff, Int.reduceLE, Int.reduceLT, reduceCtorEq, j0, j7, j37, h38, h36, hmN, hb64, h4, h2, hmo], by simp only [go_sem, ↓reduceIte, Nat.reduceEqDiff, Nat.reduceAdd, Nat.reduceMul, Nat.reduceBEq, Option.getD_none, Int.reduceToNat, Nat.reduceSub, Nat.reduceLT, Nat.reduceLeDiff, Int.reduceLE, Int.reduceLT, reduceCtorEq, j0, j7, j37, h38, h36, hmN, hb64, h4, h2, hmo]⟩, ⟨v, by simp only [go_sem, ↓reduceIte, Nat.reduceEqDiff, Nat.reduceAdd, Nat.reduceMul, Nat.reduceBEq, Option.getD_none, Int.reduceToNat, Nat.reduceSub, Nat.reduceLT, Nat.reduceLeDiff, Int.reduceLE, Int.reduceLT, reduceCtorEq, j0, j7, j37, h38, h36, hmN, hb64, h4, h2, hmo], by simp only [go_sem, ↓reduceIte, Nat.reduceEqDiff, Nat.reduceAdd, Nat.reduceMul, Nat.reduceBEq, Option.getD_none, Int.reduceToNat, Nat.reduceSub, Nat.reduceLT, Nat.reduceLeDiff, Int.reduceLE, Int.reduceLT, reduceCtorEq, j0, j7, j37, h38, h36, hmN, hb64, h4, h2, hmo]⟩, ⟨4288, _, by simp only [go_sem, ↓reduceIte, Nat.reduceEqDiff, Nat.reduceAdd, Nat.reduceMul, Nat.reduceBEq, Option.getD_none, Int.reduceToNat, Nat.reduceSub, Nat.reduceLT, Nat.reduceLeDiff, Int.reduceLE, Int.reduceLT, reduceCtorEq, j0, j7, j37, h38, h36, hmN, hb64, h4, h2, hmo]; try rfl, by simp only [go_sem, ↓reduceIte, Nat.reduceEqDiff, Nat.reduceAdd, Nat.reduceMul, Nat.reduceBEq, Option.getD_none, Int.reduceToNat, Nat.reduceSub, Nat.reduceLT, Nat.reduceLeDiff, Int.reduceLE, Int.reduceLT, reduceCtorEq, j0, j7, j37, h38, h36, hmN, hb64, h4, h2, hmo]; try rfl, .inr rfl⟩⟩
        · have hi' : ¬ (k : Int) < N.length := by omega
          obtain rfl : k = N.length := by omega
          have hd0 : N.drop N.length = [] := List.drop_eq_nil_of_le (Nat.le_refl _)
          rw [hd0] at hfold
          have hfin : foldW f 0 N out = o := hfold
          rw [hfin]
          rcases hnm with rfl | rfl <;> simp only [go_sem, ↓reduceIte, Nat.reduceEqDiff, Nat.reduceAdd, Nat.reduceMul, Nat.reduceBEq, Option.getD_none, Int.reduceToNat, Nat.reduceSub, Nat.reduceLT, Nat.reduceLeDiff, Int.reduceLE, Int.reduceLT, reduceCtorEq, Int.lt_irrefl, take_map_len, j0, j7, j37, h38, h36, hmN, hb64, h4, h2, hmo]
end Go.Vm.Ytdembjfpgfaheaa
/- Walks: all ways, by the reference: the end. -/
namespace Go.Vm.Ytdembjfpgfaheaa
open Go Go.Vm
set_option maxRecDepth 10000
set_option maxHeartbeats 16000000
set_option linter.unusedSimpArgs false
set_option linter.unusedVariables false

theorem spec_WaysThrough.fc (p : List StepD) (hpl : p.length ≤ 4194304) : FCt prog F_spec_WaysThrough [.ro] [steps p] (.tup [ways (waysV p).1, Bb (waysV p).2]) [] := by
  refine fct_run spec_WaysThrough.ok rfl ?_
  unfold waysV
  simp only [go_sem, ↓reduceIte, Nat.reduceEqDiff, Nat.reduceAdd, Nat.reduceMul, Nat.reduceBEq, Option.getD_none, Int.reduceToNat, Nat.reduceSub, Nat.reduceLT, Nat.reduceLeDiff, Int.reduceLE, Int.reduceLT, reduceCtorEq]
  refine fcW_bool (spec_GoodProgram.fc p hpl) ?_
  cases hg : goodP p with
  | false => simp only [go_sem, ↓reduceIte, Nat.reduceEqDiff, Nat.reduceAdd, Nat.reduceMul, Nat.reduceBEq, Option.getD_none, Int.reduceToNat, Nat.reduceSub, Nat.reduceLT, Nat.reduceLeDiff, Int.reduceLE, Int.reduceLT, reduceCtorEq]; try rfl
  | true =>
    have hp := prog_ok hg
    have c := spec_l14All.fc p hp p.length w0 [] (w0_on hp) (by simp)
    generalize allF p p.length w0 [] = O at c ⊢
    simp only [go_sem, ↓reduceIte, Nat.reduceEqDiff, Nat.reduceAdd, Nat.reduceMul, Nat.reduceBEq, Option.getD_none, Int.reduceToNat, Nat.reduceSub, Nat.reduceLT, Nat.reduceLeDiff, Int.reduceLE, Int.reduceLT, reduceCtorEq]
    refine coW_of c noRs_ways rfl ?_
    by_cases hq : O.length ≤ 64
    · have h1 : ¬ (O.length : Int) > 64 := by omega
      have h2 : decide (O.length ≤ 64) = true := by simpa using hq
      simp only [go_sem, ↓reduceIte, Nat.reduceEqDiff, Nat.reduceAdd, Nat.reduceMul, Nat.reduceBEq, Option.getD_none, Int.reduceToNat, Nat.reduceSub, Nat.reduceLT, Nat.reduceLeDiff, Int.reduceLE, Int.reduceLT, reduceCtorEq, h1, h2, take_map_len]; try rfl
    · have h1 : (O.length : Int) > 64 := by omega
      have h2 : decide (O.length ≤ 64) = false := by simpa using hq
      simp only [go_sem, ↓reduceIte, Nat.reduceEqDiff, Nat.reduceAdd, Nat.reduceMul, Nat.reduceBEq, Option.getD_none, Int.reduceToNat, Nat.reduceSub, Nat.reduceLT, Nat.reduceLeDiff, Int.reduceLE, Int.reduceLT, reduceCtorEq, h1, h2]; try rfl
theorem waysV_few (p : List StepD) : (waysV p).1.length ≤ 65 := by
  unfold waysV
  split
  · rename_i h
    simp only [Bool.and_eq_true, decide_eq_true_eq] at h
    have := h.2
    dsimp only
    omega
  · simp
theorem foldW_all {q : WayD → Prop} {f : Nat → Int → List WayD → List WayD} : ∀ (l : List Int) (i : Nat) (o : List WayD), (∀ i x o, x ∈ l → (∀ w ∈ o, q w) → ∀ w ∈ f i x o, q w) → (∀ w ∈ o, q w) → ∀ w ∈ foldW f i l o, q w
  | [], _, _, _, h => h
  | x :: l, i, o, hf, h => foldW_all l _ _ (fun i y o hy => hf i y o (List.mem_cons_of_mem _ hy)) (hf i x o List.mem_cons_self h)
theorem allF_all {p : List StepD} (hp : ProgOk p) : ∀ (n : Nat) (w : WayD) (out : List WayD), OnWay p w n → (∀ y ∈ out, wWay y ≤ 42) → ∀ y ∈ allF p n w out, wWay y ≤ 42
  | 0, w, out, _, h => h
  | n + 1, w, out, hw, h => by
    by_cases h2 : out.length > 64
    · rw [allF_many h2]; exact h
    · have hi : (lastA w).toNat < p.length := by have := hw.a0; have := hw.a1; omega
      have gs : p[(lastA w).toNat]? = some p[(lastA w).toNat] := List.getElem?_eq_getElem hi
      cases hk : (p[(lastA w).toNat].kind == 11) with
      | true =>
        rw [allF_end (by omega) gs hk]
        intro x hx
        rcases List.mem_append.1 hx with hx | hx
        · exact h x hx
        · rw [List.mem_singleton] at hx
          subst hx
          have h3 := hw.l1
          have h4 := hw.l2
          show x.steps.length + x.turns.length ≤ 42
          omega
      | false =>
        rw [allF_step (by omega) gs hk]
        exact foldW_all _ _ _ (fun i x o hx ho => allF_all hp n _ o (on_next hp hw gs hx) ho) h
end Go.Vm.Ytdembjfpgfaheaa
/- Rows of ways: copies, comparison, marks. -/
namespace Go.Vm.Ytdembjfpgfaheaa
open Go Go.Vm
set_option maxRecDepth 10000
set_option maxHeartbeats 16000000
set_option linter.unusedSimpArgs false
set_option linter.unusedVariables false

theorem laws_eqWayS.fcu (x : List WayD) (h : wWayS x ≤ 1048576) :
    FCt prog F_laws_eqWayS [.ro, .ro] [ways x, ways x] (Bb true) [] := by
  refine fct_run laws_eqWayS.ok rfl ?_
  have h0 : x.length ≤ 1048576 := by unfold wWayS at h; omega
  have he : ∀ y ∈ x, wWay y ≤ 1048576 := fun y hy => by have := accC_mem (c := fun x => wWay x) hy; (try dsimp only at this); unfold wWayS at h; omega
  simp only [go_sem, ↓reduceIte, Nat.reduceEqDiff, Nat.reduceAdd, Nat.reduceMul, Nat.reduceBEq, Option.getD_none, Int.reduceToNat, Nat.reduceSub, Nat.reduceLT, Nat.reduceLeDiff, Int.reduceLE, Int.reduceLT, reduceCtorEq]
  refine R_loop (α := Nat) (fun k s' M' => k ≤ x.length ∧ s' 5 = aI k) (fun k => x.length - k) 0 ⟨by omega, by simp only [go_sem, ↓reduceIte, Nat.reduceEqDiff, Nat.reduceAdd, Nat.reduceMul, Nat.reduceBEq, Option.getD_none, Int.reduceToNat, Nat.reduceSub, Nat.reduceLT, Nat.reduceLeDiff, Int.reduceLE, Int.reduceLT, reduceCtorEq]; rfl⟩ ?_
  rintro k s' M' ⟨hk, h5⟩ ho
  unfold laws_eqWayS.b0
  have k0 : s' 0 = .dat none (ways x) := by rw [ho 0 rfl]; simp only [go_sem, ↓reduceIte, Nat.reduceEqDiff, Nat.reduceAdd, Nat.reduceMul, Nat.reduceBEq, Option.getD_none, Int.reduceToNat, Nat.reduceSub, Nat.reduceLT, Nat.reduceLeDiff, Int.reduceLE, Int.reduceLT, reduceCtorEq]
  have k1 : s' 1 = .dat none (ways x) := by rw [ho 1 rfl]; simp only [go_sem, ↓reduceIte, Nat.reduceEqDiff, Nat.reduceAdd, Nat.reduceMul, Nat.reduceBEq, Option.getD_none, Int.reduceToNat, Nat.reduceSub, Nat.reduceLT, Nat.reduceLeDiff, Int.reduceLE, Int.reduceLT, reduceCtorEq]
  clear ho
  by_cases hlt : k < x.length
  · have hi' : (k : Int) < x.length := by omega
    have ga : x[k]? = some x[k] := List.getElem?_eq_getElem hlt
    have hw : IntKind.i64.wrap (k + 1) = ((k + 1 : Nat) : Int) := wrap_k hlt (by omega)
    simp only [go_sem, ↓reduceIte, Nat.reduceEqDiff, Nat.reduceAdd, Nat.reduceMul, Nat.reduceBEq, Option.getD_none, Int.reduceToNat, Nat.reduceSub, Nat.reduceLT, Nat.reduceLeDiff, Int.reduceLE, Int.reduceLT, reduceCtorEq, h5, hi', ga, hw, k0, k1]
    refine fcW_bool (laws_eqWay.fcu _ (he _ (List.getElem_mem hlt))) ?_
    simp only [go_sem, ↓reduceIte, Nat.reduceEqDiff, Nat.reduceAdd, Nat.reduceMul, Nat.reduceBEq, Option.getD_none, Int.reduceToNat, Nat.reduceSub, Nat.reduceLT, Nat.reduceLeDiff, Int.reduceLE, Int.reduceLT, reduceCtorEq, h5, hw, k0, k1]
    exact ⟨k + 1, by dsimp only; omega, by omega, by simp only [go_sem, ↓reduceIte, Nat.reduceEqDiff, Nat.reduceAdd, Nat.reduceMul, Nat.reduceBEq, Option.getD_none, Int.reduceToNat, Nat.reduceSub, Nat.reduceLT, Nat.reduceLeDiff, Int.reduceLE, Int.reduceLT, reduceCtorEq, k0, k1]⟩
  · have hi' : ¬ (k : Int) < x.length := by omega
    obtain rfl : k = x.length := by omega
    simp only [go_sem, ↓reduceIte, Nat.reduceEqDiff, Nat.reduceAdd, Nat.reduceMul, Nat.reduceBEq, Option.getD_none, Int.reduceToNat, Nat.reduceSub, Nat.reduceLT, Nat.reduceLeDiff, Int.reduceLE, Int.reduceLT, reduceCtorEq, h5, hi', k0, k1]
theorem laws_markWayS.fcu (x : List WayD) (n : Int) (h : wWayS x ≤ 1048576) (hc : cWayS x ≤ 16777216) (hn : 0 ≤ n ∧ n + (cWayS x : Nat) ≤ 576460752303423488) :
    FCt prog F_laws_markWayS [.io, .ro] [ways x, Ii n] (Ii (n + (cWayS x : Nat))) [ways (mkWayS n x)] := by
  refine fct_run laws_markWayS.ok rfl ?_
  have hL : ((mkWayS n x).map WayD.d).length = (x.map WayD.d).length := by simp [mkWayS_len]
  have h0 : x.length ≤ 1048576 := by unfold wWayS at h; omega
  have he : ∀ y ∈ x, wWay y ≤ 1048576 := fun y hy => by have := accC_mem (c := fun x => wWay x) hy; (try dsimp only at this); unfold wWayS at h; omega
  unfold cWayS at hc hn ⊢
  simp only [go_sem, ↓reduceIte, Nat.reduceEqDiff, Nat.reduceAdd, Nat.reduceMul, Nat.reduceBEq, Option.getD_none, Int.reduceToNat, Nat.reduceSub, Nat.reduceLT, Nat.reduceLeDiff, Int.reduceLE, Int.reduceLT, reduceCtorEq]
  refine R_loop (α := Nat) (fun k s' M' => k ≤ x.length ∧ s' 5 = aI k ∧ s' 1 = aI (n + (accC (fun x => x.steps.length + x.turns.length) (x.take k) : Nat)) ∧ (M'.r != 0) = true ∧ M'.m 0 = some (.arr 0 true 2 (ovr ((mkWayS n x).map WayD.d) (x.map WayD.d) k))) (fun k => x.length - k) 0
    ⟨by omega, by simp only [go_sem, ↓reduceIte, Nat.reduceEqDiff, Nat.reduceAdd, Nat.reduceMul, Nat.reduceBEq, Option.getD_none, Int.reduceToNat, Nat.reduceSub, Nat.reduceLT, Nat.reduceLeDiff, Int.reduceLE, Int.reduceLT, reduceCtorEq]; rfl, by simp only [go_sem, ↓reduceIte, Nat.reduceEqDiff, Nat.reduceAdd, Nat.reduceMul, Nat.reduceBEq, Option.getD_none, Int.reduceToNat, Nat.reduceSub, Nat.reduceLT, Nat.reduceLeDiff, Int.reduceLE, Int.reduceLT, reduceCtorEq]; simp [accC], by simp only [go_sem, ↓reduceIte, Nat.reduceEqDiff, Nat.reduceAdd, Nat.reduceMul, Nat.reduceBEq, Option.getD_none, Int.reduceToNat, Nat.reduceSub, Nat.reduceLT, Nat.reduceLeDiff, Int.reduceLE, Int.reduceLT, reduceCtorEq]; rfl, by simp only [go_sem, ↓reduceIte, Nat.reduceEqDiff, Nat.reduceAdd, Nat.reduceMul, Nat.reduceBEq, Option.getD_none, Int.reduceToNat, Nat.reduceSub, Nat.reduceLT, Nat.reduceLeDiff, Int.reduceLE, Int.reduceLT, reduceCtorEq]; simp [ovr_zero]⟩ ?_
  rintro k s' M' ⟨hk, h5, h1, hr, hm⟩ ho
  unfold laws_markWayS.b0
  have k0 : s' 0 = .sl 0 0 0 x.length 2 := by rw [ho 0 rfl]; simp only [go_sem, ↓reduceIte, Nat.reduceEqDiff, Nat.reduceAdd, Nat.reduceMul, Nat.reduceBEq, Option.getD_none, Int.reduceToNat, Nat.reduceSub, Nat.reduceLT, Nat.reduceLeDiff, Int.reduceLE, Int.reduceLT, reduceCtorEq]
  clear ho
  by_cases hlt : k < x.length
  · have hi' : (k : Int) < x.length := by omega
    have ga : x[k]? = some x[k] := List.getElem?_eq_getElem hlt
    have hw : IntKind.i64.wrap (k + 1) = ((k + 1 : Nat) : Int) := wrap_k hlt (by omega)
    have hmk : (mkWayS n x)[k]? = some (mkEWay (n + (accC (fun x => x.steps.length + x.turns.length) (x.take k) : Nat)) x[k]) := accM_get hlt
    have hg : (ovr ((mkWayS n x).map WayD.d) (x.map WayD.d) k)[k]? = some (WayD.d x[k]) := by rw [ovr_get hL (by simpa using hlt)]; simp [hlt]
    have hkl : k < (ovr ((mkWayS n x).map WayD.d) (x.map WayD.d) k).length := by rw [ovr_len hL (by simp; omega)]; simpa using hlt
    have hg2 : ∀ d, ((ovr ((mkWayS n x).map WayD.d) (x.map WayD.d) k).set k d)[k]? = some d := fun d => by rw [List.getElem?_set, if_pos rfl, if_pos hkl]
    have hs : (ovr ((mkWayS n x).map WayD.d) (x.map WayD.d) k).set k (WayD.d (mkEWay (n + (accC (fun x => x.steps.length + x.turns.length) (x.take k) : Nat)) x[k])) = ovr ((mkWayS n x).map WayD.d) (x.map WayD.d) (k + 1) := ovr_set hL (by simpa using hlt) (by rw [List.getElem?_map, hmk]; rfl)
    have hr' : M'.r ≠ 0 := by simpa using hr
    have hr2 : (M'.r + 1 + 1 != 0) = true := by rw [bne_iff_ne]; omega
    have hr3 : (M'.r + 1 + 1 + 1 + 1 != 0) = true := by rw [bne_iff_ne]; omega
    have hcl := accC_le (c := fun x => x.steps.length + x.turns.length) (l := x) (k := k + 1)
    have hst := accC_step (c := fun x => x.steps.length + x.turns.length) hlt
    have hwE := he _ (List.getElem_mem hlt)
    try dsimp only at hst hwE
    unfold wWay at hwE
    simp only [go_sem, ↓reduceIte, Nat.reduceEqDiff, Nat.reduceAdd, Nat.reduceMul, Nat.reduceBEq, Option.getD_none, Int.reduceToNat, Nat.reduceSub, Nat.reduceLT, Nat.reduceLeDiff, Int.reduceLE, Int.reduceLT, reduceCtorEq, k0, h1, h5, hr, hm, hr', hr2, hr3, hg, hg2, hi', hw]
    refine coW_of (laws_markIntS.fcu x[k].steps (n + (accC (fun x => x.steps.length + x.turns.length) (x.take k) : Nat)) (by omega) (by omega) (by omega)) rfl (by simp only [noRsL, noRs_ints, Bool.and_self]) ?_
    simp only [go_sem, ↓reduceIte, Nat.reduceEqDiff, Nat.reduceAdd, Nat.reduceMul, Nat.reduceBEq, Option.getD_none, Int.reduceToNat, Nat.reduceSub, Nat.reduceLT, Nat.reduceLeDiff, Int.reduceLE, Int.reduceLT, reduceCtorEq, mkIntS_len, List.set_set, k0, h1, h5, hr, hm, hr', hr2, hr3, hg, hg2, hi', hw]
    refine coW_of (laws_markBoolS.fcu x[k].turns (n + (accC (fun x => x.steps.length + x.turns.length) (x.take k) : Nat) + (x[k].steps.length : Nat)) (by omega) (by omega) (by omega)) rfl (by simp only [noRsL, noRs_bools, Bool.and_self]) ?_
    simp only [go_sem, ↓reduceIte, Nat.reduceEqDiff, Nat.reduceAdd, Nat.reduceMul, Nat.reduceBEq, Option.getD_none, Int.reduceToNat, Nat.reduceSub, Nat.reduceLT, Nat.reduceLeDiff, Int.reduceLE, Int.reduceLT, reduceCtorEq, mkBoolS_len, List.set_set, k0, h1, h5, hr, hm, hr', hr2, hr3, hg, hg2, hi', hw]
    refine ⟨k + 1, by dsimp only; omega, by omega, by simp only [go_sem, ↓reduceIte, Nat.reduceEqDiff, Nat.reduceAdd, Nat.reduceMul, Nat.reduceBEq, Option.getD_none, Int.reduceToNat, Nat.reduceSub, Nat.reduceLT, Nat.reduceLeDiff, Int.reduceLE, Int.reduceLT, reduceCtorEq, k0, h1, h5, hr, hm, hr', hr2, hr3, hg, hg2, hi', hw], by simp only [go_sem, ↓reduceIte, Nat.reduceEqDiff, Nat.reduceAdd, Nat.reduceMul, Nat.reduceBEq, Option.getD_none, Int.reduceToNat, Nat.reduceSub, Nat.reduceLT, Nat.reduceLeDiff, Int.reduceLE, Int.reduceLT, reduceCtorEq, k0, h1, h5, hr, hm, hr', hr2, hr3, hg, hg2, hi', hw]; rw [hst]; congr 2; omega, by simp only [go_sem, ↓reduceIte, Nat.reduceEqDiff, Nat.reduceAdd, Nat.reduceMul, Nat.reduceBEq, Option.getD_none, Int.reduceToNat, Nat.reduceSub, Nat.reduceLT, Nat.reduceLeDiff, Int.reduceLE, Int.reduceLT, reduceCtorEq, k0, h1, h5, hr, hm, hr', hr2, hr3, hg, hg2, hi', hw]; try simp, by simp only [go_sem, ↓reduceIte, Nat.reduceEqDiff, Nat.reduceAdd, Nat.reduceMul, Nat.reduceBEq, Option.getD_none, Int.reduceToNat, Nat.reduceSub, Nat.reduceLT, Nat.reduceLeDiff, Int.reduceLE, Int.reduceLT, reduceCtorEq, k0, h1, h5, hr, hm, hr', hr2, hr3, hg, hg2, hi', hw]; exact congrArg (fun z => some (Obj.arr 0 true 2 z)) hs⟩
  · have hi' : ¬ (k : Int) < x.length := by omega
    obtain rfl : k = x.length := by omega
    have hall : ovr ((mkWayS n x).map WayD.d) (x.map WayD.d) x.length = (mkWayS n x).map WayD.d := by have := ovr_all hL; simpa using this
    have htk : ((mkWayS n x).map WayD.d).take x.length = (mkWayS n x).map WayD.d := List.take_of_length_le (by simp [mkWayS_len])
    simp only [go_sem, ↓reduceIte, Nat.reduceEqDiff, Nat.reduceAdd, Nat.reduceMul, Nat.reduceBEq, Option.getD_none, Int.reduceToNat, Nat.reduceSub, Nat.reduceLT, Nat.reduceLeDiff, Int.reduceLE, Int.reduceLT, reduceCtorEq, hi', hall, mkWayS_len, htk, List.take_length, k0, h1, h5, hr, hm]
theorem laws_heldWayS.fcu (x : List WayD) (n : Int) (h : wWayS x ≤ 1048576) (hc : cWayS x ≤ 16777216) (hn : 0 ≤ n ∧ n + (cWayS x : Nat) ≤ 576460752303423488) :
    FCt prog F_laws_heldWayS [.ro, .ro] [ways (mkWayS n x), Ii n] (Ii (n + (cWayS x : Nat))) [] := by
  refine fct_run laws_heldWayS.ok rfl ?_
  have h0 : x.length ≤ 1048576 := by unfold wWayS at h; omega
  have he : ∀ y ∈ x, wWay y ≤ 1048576 := fun y hy => by have := accC_mem (c := fun x => wWay x) hy; (try dsimp only at this); unfold wWayS at h; omega
  unfold cWayS at hc hn ⊢
  simp only [go_sem, ↓reduceIte, Nat.reduceEqDiff, Nat.reduceAdd, Nat.reduceMul, Nat.reduceBEq, Option.getD_none, Int.reduceToNat, Nat.reduceSub, Nat.reduceLT, Nat.reduceLeDiff, Int.reduceLE, Int.reduceLT, reduceCtorEq]
  refine R_loop (α := Nat) (fun k s' M' => k ≤ x.length ∧ s' 5 = aI k ∧ s' 1 = aI (n + (accC (fun x => x.steps.length + x.turns.length) (x.take k) : Nat))) (fun k => x.length - k) 0 ⟨by omega, by simp only [go_sem, ↓reduceIte, Nat.reduceEqDiff, Nat.reduceAdd, Nat.reduceMul, Nat.reduceBEq, Option.getD_none, Int.reduceToNat, Nat.reduceSub, Nat.reduceLT, Nat.reduceLeDiff, Int.reduceLE, Int.reduceLT, reduceCtorEq]; rfl, by simp only [go_sem, ↓reduceIte, Nat.reduceEqDiff, Nat.reduceAdd, Nat.reduceMul, Nat.reduceBEq, Option.getD_none, Int.reduceToNat, Nat.reduceSub, Nat.reduceLT, Nat.reduceLeDiff, Int.reduceLE, Int.reduceLT, reduceCtorEq]; simp [accC]⟩ ?_
  rintro k s' M' ⟨hk, h5, h1⟩ ho
  unfold laws_heldWayS.b0
  have k0 : s' 0 = .dat none (ways (mkWayS n x)) := by rw [ho 0 rfl]; simp only [go_sem, ↓reduceIte, Nat.reduceEqDiff, Nat.reduceAdd, Nat.reduceMul, Nat.reduceBEq, Option.getD_none, Int.reduceToNat, Nat.reduceSub, Nat.reduceLT, Nat.reduceLeDiff, Int.reduceLE, Int.reduceLT, reduceCtorEq]
  clear ho
  by_cases hlt : k < x.length
  · have hi' : (k : Int) < x.length := by omega
    have hw : IntKind.i64.wrap (k + 1) = ((k + 1 : Nat) : Int) := wrap_k hlt (by omega)
    have hmk : (mkWayS n x)[k]? = some (mkEWay (n + (accC (fun x => x.steps.length + x.turns.length) (x.take k) : Nat)) x[k]) := accM_get hlt
    have hcl := accC_le (c := fun x => x.steps.length + x.turns.length) (l := x) (k := k + 1)
    have hst := accC_step (c := fun x => x.steps.length + x.turns.length) hlt
    have hwE := he _ (List.getElem_mem hlt)
    try dsimp only at hst hwE
    unfold wWay at hwE
    unfold mkEWay at hmk
    simp only [go_sem, ↓reduceIte, Nat.reduceEqDiff, Nat.reduceAdd, Nat.reduceMul, Nat.reduceBEq, Option.getD_none, Int.reduceToNat, Nat.reduceSub, Nat.reduceLT, Nat.reduceLeDiff, Int.reduceLE, Int.reduceLT, reduceCtorEq, k0, h1, h5, mkWayS_len, hi', hw, hmk]
    refine fcW_int (laws_heldIntS.fcu x[k].steps (n + (accC (fun x => x.steps.length + x.turns.length) (x.take k) : Nat)) (by omega) (by omega) (by omega)) ?_
    have hng : ¬ (n + (accC (fun x => x.steps.length + x.turns.length) (x.take k) : Nat) + (x[k].steps.length : Nat) < 0) := by omega
    simp only [go_sem, ↓reduceIte, Nat.reduceEqDiff, Nat.reduceAdd, Nat.reduceMul, Nat.reduceBEq, Option.getD_none, Int.reduceToNat, Nat.reduceSub, Nat.reduceLT, Nat.reduceLeDiff, Int.reduceLE, Int.reduceLT, reduceCtorEq, hng, k0, h1, h5, mkWayS_len, hi', hw, hmk]
    refine fcW_int (laws_heldBoolS.fcu x[k].turns (n + (accC (fun x => x.steps.length + x.turns.length) (x.take k) : Nat) + (x[k].steps.length : Nat)) (by omega) (by omega) (by omega)) ?_
    have hng : ¬ (n + (accC (fun x => x.steps.length + x.turns.length) (x.take k) : Nat) + (x[k].steps.length : Nat) + (x[k].turns.length : Nat) < 0) := by omega
    simp only [go_sem, ↓reduceIte, Nat.reduceEqDiff, Nat.reduceAdd, Nat.reduceMul, Nat.reduceBEq, Option.getD_none, Int.reduceToNat, Nat.reduceSub, Nat.reduceLT, Nat.reduceLeDiff, Int.reduceLE, Int.reduceLT, reduceCtorEq, hng, k0, h1, h5, mkWayS_len, hi', hw, hmk]
    exact ⟨k + 1, by dsimp only; omega, by omega, by simp only [go_sem, ↓reduceIte, Nat.reduceEqDiff, Nat.reduceAdd, Nat.reduceMul, Nat.reduceBEq, Option.getD_none, Int.reduceToNat, Nat.reduceSub, Nat.reduceLT, Nat.reduceLeDiff, Int.reduceLE, Int.reduceLT, reduceCtorEq, k0, h1, h5, mkWayS_len, hi', hw, hmk], by simp only [go_sem, ↓reduceIte, Nat.reduceEqDiff, Nat.reduceAdd, Nat.reduceMul, Nat.reduceBEq, Option.getD_none, Int.reduceToNat, Nat.reduceSub, Nat.reduceLT, Nat.reduceLeDiff, Int.reduceLE, Int.reduceLT, reduceCtorEq, k0, h1, h5, mkWayS_len, hi', hw, hmk]; rw [hst]; congr 2; omega⟩
  · have hi' : ¬ (k : Int) < x.length := by omega
    obtain rfl : k = x.length := by omega
    simp only [go_sem, ↓reduceIte, Nat.reduceEqDiff, Nat.reduceAdd, Nat.reduceMul, Nat.reduceBEq, Option.getD_none, Int.reduceToNat, Nat.reduceSub, Nat.reduceLT, Nat.reduceLeDiff, Int.reduceLE, Int.reduceLT, reduceCtorEq, hi', List.take_length, k0, h1, h5, mkWayS_len]

end Go.Vm.Ytdembjfpgfaheaa
