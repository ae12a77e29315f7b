/- What the functions that the law reaches return: part 1 (the conditions stand at each). -/
import Derived.Test.YtdembjfpgfaheaaIr
import Derived.Test.YtdembjfpgfaheaaProg
import Derived.KernelRfl
import Derived.Shelf.Sort.Plain
import Derived.Shelf.Slices.In.SortNone
import Derived.Tactics
import Derived.Tactics2
import Derived.StillTactics
import Derived.Laws.Pointers
import Derived.Lib.SortBridge
/- The kit's contract of slices.Sort lies at this program. -/
namespace Go.Proofs
open Go.Shelf
def Try.laysSort_ren : Go.Shelf.Ren := ⟨fun | 189 => 76 | 125 => 103 | 257 => 102 | 128 => 124 | 129 => 125 | 294 => 115 | 295 => 116 | 296 => 117 | 297 => 118 | 298 => 119 | 299 => 120 | 216 => 121 | 300 => 122 | 301 => 123 | 328 => 131 | 329 => 132 | 330 => 133 | 331 => 134 | 332 => 135 | 215 => 136 | 343 => 141 | n => n, fun | 28 => 23 | 3 => 3 | 46 => 110 | 0 => 0 | 51 => 133 | 53 => 112 | 4 => 4 | 183 => 127 | 182 => 126 | 131 => 37 | 5 => 5 | 9 => 9 | 218 => 140 | 222 => 121 | 228 => 151 | 229 => 119 | n => n, fun | n => n⟩
theorem Try.laysSort : Go.Proofs.Lays.n189 Try.prog Try.laysSort_ren := {
  mixed := by kernel_rfl,
  f125 := Try.func103.trans (congrArg some (by kernel_rfl)),
  f128 := Try.func124.trans (congrArg some (by kernel_rfl)),
  f129 := Try.func125.trans (congrArg some (by kernel_rfl)),
  f189 := Try.func76.trans (congrArg some (by kernel_rfl)),
  f215 := Try.func136.trans (congrArg some (by kernel_rfl)),
  f216 := Try.func121.trans (congrArg some (by kernel_rfl)),
  f257 := Try.func102.trans (congrArg some (by kernel_rfl)),
  f294 := Try.func115.trans (congrArg some (by kernel_rfl)),
  f295 := Try.func116.trans (congrArg some (by kernel_rfl)),
  f296 := Try.func117.trans (congrArg some (by kernel_rfl)),
  f297 := Try.func118.trans (congrArg some (by kernel_rfl)),
  f298 := Try.func119.trans (congrArg some (by kernel_rfl)),
  f299 := Try.func120.trans (congrArg some (by kernel_rfl)),
  f300 := Try.func122.trans (congrArg some (by kernel_rfl)),
  f301 := Try.func123.trans (congrArg some (by kernel_rfl)),
  f328 := Try.func131.trans (congrArg some (by kernel_rfl)),
  f329 := Try.func132.trans (congrArg some (by kernel_rfl)),
  f330 := Try.func133.trans (congrArg some (by kernel_rfl)),
  f331 := Try.func134.trans (congrArg some (by kernel_rfl)),
  f332 := Try.func135.trans (congrArg some (by kernel_rfl)),
  f343 := Try.func141.trans (congrArg some (by kernel_rfl)),
  t0 := Try.underlying0,
  a0 := Try.isAgg0,
  z0 := Try.sizeOf0,
  v0 := Try.zeroValue0,
  t3 := Try.underlying3,
  a3 := Try.isAgg3,
  z3 := Try.sizeOf3,
  v3 := Try.zeroValue3,
  t4 := Try.underlying4,
  a4 := Try.isAgg4,
  z4 := Try.sizeOf4,
  v4 := Try.zeroValue4,
  t5 := Try.underlying5,
  a5 := Try.isAgg5,
  z5 := Try.sizeOf5,
  v5 := Try.zeroValue5,
  t9 := Try.underlying9,
  a9 := Try.isAgg9,
  z9 := Try.sizeOf9,
  v9 := Try.zeroValue9,
  t28 := Try.underlying23,
  a28 := Try.isAgg23,
  z28 := Try.sizeOf23,
  v28 := Try.zeroValue23,
  t46 := Try.underlying110,
  a46 := Try.isAgg110,
  z46 := Try.sizeOf110,
  v46 := Try.zeroValue110,
  t51 := Try.underlying133,
  a51 := Try.isAgg133,
  z51 := Try.sizeOf133,
  v51 := Try.zeroValue133,
  t53 := Try.underlying112,
  a53 := Try.isAgg112,
  z53 := Try.sizeOf112,
  v53 := Try.zeroValue112,
  t131 := Try.underlying37,
  a131 := Try.isAgg37,
  z131 := Try.sizeOf37,
  v131 := Try.zeroValue37,
  t182 := Try.underlying126,
  a182 := Try.isAgg126,
  z182 := Try.sizeOf126,
  v182 := Try.zeroValue126,
  t183 := Try.underlying127,
  a183 := Try.isAgg127,
  z183 := Try.sizeOf127,
  v183 := Try.zeroValue127,
  t218 := Try.underlying140,
  a218 := Try.isAgg140,
  z218 := Try.sizeOf140,
  v218 := Try.zeroValue140,
  t222 := Try.underlying121,
  a222 := Try.isAgg121,
  z222 := Try.sizeOf121,
  v222 := Try.zeroValue121,
  t228 := Try.underlying151,
  a228 := Try.isAgg151,
  z228 := Try.sizeOf151,
  v228 := Try.zeroValue151,
  t229 := Try.underlying119,
  a229 := Try.isAgg119,
  z229 := Try.sizeOf119,
  v229 := Try.zeroValue119 }
end Go.Proofs
/- Words for data: whole numbers, rows of them. -/
namespace Go.Vm
open Go
set_option linter.unusedSimpArgs false
set_option linter.unusedVariables false

abbrev Ii (n : Int) : D := .int .i64 n
abbrev Bb (b : Bool) : D := .bool b
abbrev ints (l : List Int) : D := .sl 1 (l.map Ii)
abbrev aI (n : Int) : AV := .dat none (.int .i64 n)
/-- a whole number of 64 bits -/
def i64 (n : Int) : Prop := -9223372036854775808 ≤ n ∧ n ≤ 9223372036854775807
theorem wrap_k {k m : Nat} (h : k < m) (hm : m ≤ 9223372036854775807) : IntKind.i64.wrap ((k : Int) + 1) = ((k + 1 : Nat) : Int) := by
  rw [wrap_in (by omega) (by omega)]; rfl
theorem hasInt {d : D} (h : HasTy (.int .i64) d) : ∃ n, d = Ii n ∧ i64 n := by
  simp only [HasTy] at h
  obtain ⟨n, rfl, h⟩ := h
  refine ⟨n, rfl, ?_⟩
  simp [Lit.wf, IntKind.has, IntKind.min, IntKind.max, IntKind.signed, IntKind.bits] at h
  exact ⟨by omega, by omega⟩
theorem take_succ' {α : Type} {l : List α} {k : Nat} (h : k < l.length) : l.take (k + 1) = l.take k ++ [l[k]] := by
  rw [List.take_succ_eq_append_getElem h]
theorem all_take {α : Type} {p : α → Bool} {l : List α} {k : Nat} (h : k < l.length) (h1 : (l.take k).all p = true) (h2 : p l[k] = true) : (l.take (k + 1)).all p = true := by
  rw [take_succ' h, List.all_append, h1]; simpa using h2
theorem not_all {α : Type} {p : α → Bool} {l : List α} {k : Nat} (h : k < l.length) (h2 : p l[k] = false) : l.all p = false := by
  rw [← Bool.not_eq_true, List.all_eq_true]
  intro hh
  have := hh _ (List.getElem_mem h)
  rw [h2] at this; cases this
/-- a row that is filled from the left -/
def fill {α : Type} (f : α → D) (z : D) (l : List α) (k : Nat) : List D := (l.take k).map f ++ List.replicate (l.length - k) z
section
variable {α : Type} {f : α → D} {z : D} {l : List α} {k : Nat}
theorem fill_zero : List.replicate l.length z = fill f z l 0 := by simp [fill]
theorem fill_len (h : k ≤ l.length) : (fill f z l k).length = l.length := by simp [fill]; omega
theorem fill_get (h : k < l.length) : (fill f z l k)[k]? = some z := by
  simp only [fill]
  have e0 : ((l.take k).map f).length = k := by rw [List.length_map, List.length_take]; omega
  rw [List.getElem?_append_right (by omega), e0, Nat.sub_self, List.getElem?_replicate, if_pos (by omega)]
theorem fill_set (h : k < l.length) : (fill f z l k).set k (f l[k]) = fill f z l (k + 1) := by
  simp only [fill]
  have e0 : ((l.take k).map f).length = k := by rw [List.length_map, List.length_take]; omega
  have e2 : l.length - k = (l.length - (k + 1)) + 1 := by omega
  rw [List.set_append_right _ _ (by omega), take_succ' h, e0, Nat.sub_self, e2, List.replicate_succ, List.set_cons_zero, List.map_append, List.append_assoc]
  rfl
theorem fill_all : fill f z l l.length = l.map f := by simp [fill]
theorem take_map_len : (l.map f).take l.length = l.map f := by rw [List.take_of_length_le (by simp)]
end
/-- a row that is written over from the left -/
def ovr {α : Type} (A B : List α) (k : Nat) : List α := A.take k ++ B.drop k
section
variable {α : Type} {A B : List α} {k : Nat}
theorem ovr_zero : ovr A B 0 = B := by simp [ovr]
theorem ovr_all (h : A.length = B.length) : ovr A B B.length = A := by simp [ovr, ← h]
theorem ovr_len (h : A.length = B.length) (hk : k ≤ B.length) : (ovr A B k).length = B.length := by simp [ovr]; omega
theorem ovr_get (h : A.length = B.length) (hk : k < B.length) : (ovr A B k)[k]? = B[k]? := by
  have e : (A.take k).length = k := by rw [List.length_take]; omega
  rw [ovr, List.getElem?_append_right (by omega), e, Nat.sub_self, List.getElem?_drop]; rfl
theorem ovr_set {x : α} (h : A.length = B.length) (hk : k < B.length) (hx : A[k]? = some x) : (ovr A B k).set k x = ovr A B (k + 1) := by
  have e : (A.take k).length = k := by rw [List.length_take]; omega
  have hd : B.drop k = B[k] :: B.drop (k + 1) := List.drop_eq_getElem_cons hk
  have hkA : k < A.length := by omega
  have hx' : A[k] = x := by rw [List.getElem?_eq_getElem hkA] at hx; exact Option.some.inj hx
  rw [ovr, ovr, List.set_append_right _ _ (by omega), e, Nat.sub_self, hd, List.set_cons_zero, take_succ' hkA, hx', List.append_assoc]; rfl
end
def upFrom (n : Int) (m : Nat) : List Int := (List.range m).map fun i => n + (i : Nat)
theorem upFrom_len {n : Int} {m : Nat} : (upFrom n m).length = m := by simp [upFrom]
theorem upFrom_get {n : Int} {m k : Nat} (h : k < m) : (upFrom n m)[k]? = some (n + k) := by simp [upFrom, h]
/-- a row that grows: nil at first, then under one name -/
def RowAt (x : AV) (M : Mem) (nm sz : Nat) (ds : List D) : Prop := (ds = [] ∧ x = .nil sz) ∨ ∃ v, x = .sl nm v 0 ds.length sz ∧ M.m nm = some (.arr v true sz ds)
theorem RowAt.nil {M : Mem} {nm sz : Nat} : RowAt (.nil sz) M nm sz [] := .inl ⟨rfl, rfl⟩
theorem RowAt.sl {x : AV} {M : Mem} {nm sz v n : Nat} {ds : List D} (hx : x = .sl nm v 0 n sz) (hn : n = ds.length) (hm : M.m nm = some (.arr v true sz ds)) : RowAt x M nm sz ds := .inr ⟨v, by rw [hx, hn], hm⟩
section
variable {α : Type} {f : Int → α → α} {c : α → Nat}
end
theorem noRsL_all : ∀ {ds : List D}, (∀ d ∈ ds, noRs d = true) → noRsL ds = true
  | [], _ => rfl
  | d :: ds, h => by simp only [noRsL, Bool.and_eq_true]; exact ⟨h d List.mem_cons_self, noRsL_all fun x hx => h x (List.mem_cons_of_mem _ hx)⟩
theorem noRs_sl {sz : Nat} {ds : List D} (h : ∀ d ∈ ds, noRs d = true) : noRs (.sl sz ds) = true := by simp only [noRs]; exact noRsL_all h
theorem noRs_ints {l : List Int} : noRs (ints l) = true := noRs_sl (by simp [noRs])

/-! ### function values -/
section
variable {P : Program} {s : Nat → AV} {M : Mem} {nb ib : Nat}
end
/-- the first place at which 'p' holds; -1: nowhere -/
def idxB {α : Type} (p : α → Bool) (l : List α) : Int := match l.findIdx? p with
  | some i => i
  | none => -1
theorem idxB_none {α : Type} {p : α → Bool} {l : List α} (h : l.all (fun x => !p x) = true) : idxB p l = -1 := by
  unfold idxB
  rw [List.findIdx?_eq_none_iff.2 (fun x hx => by simpa using List.all_eq_true.1 h x hx)]
theorem idxB_some {α : Type} {p : α → Bool} {l : List α} {k : Nat} (hk : k < l.length) (h : (l.take k).all (fun x => !p x) = true) (hp : p l[k] = true) : idxB p l = k := by
  unfold idxB
  rw [List.findIdx?_eq_some_iff_getElem.2 ⟨hk, hp, fun j hj => by
    have := List.all_eq_true.1 h l[j] (by rw [List.mem_take_iff_getElem]; exact ⟨j, by omega, rfl⟩)
    simpa using this⟩]
theorem idxB_any {α : Type} {p : α → Bool} {l : List α} : decide (0 ≤ idxB p l) = l.any p := by
  unfold idxB
  cases h : l.findIdx? p with
  | none =>
    rw [List.findIdx?_eq_none_iff] at h
    rw [List.any_eq_false.2 (fun x hx => by simp [h x hx])]; rfl
  | some i =>
    rw [List.findIdx?_eq_some_iff_getElem] at h
    obtain ⟨hi, hp, _⟩ := h
    rw [List.any_eq_true.2 ⟨l[i], List.getElem_mem hi, hp⟩]
    simp
end Go.Vm
/- Walks: small functions. -/
namespace Go.Vm.Ytdembjfpgfaheaa
open Go Go.Vm
set_option maxRecDepth 10000
set_option maxHeartbeats 4000000
set_option linter.unusedSimpArgs false
set_option linter.unusedVariables false

def inB (n lo hi : Int) : Bool := decide (lo ≤ n) && decide (n ≤ hi)
theorem impl_in.fc (n lo hi : Int) : FCt prog F_impl_in [.ro, .ro, .ro] [Ii n, Ii lo, Ii hi] (Bb (inB n lo hi)) [] := by
  refine fct_run impl_in.ok rfl ?_
  unfold inB
  by_cases h : lo ≤ n
  · simp only [go_sem, ↓reduceIte, Nat.reduceEqDiff, Nat.reduceAdd, Nat.reduceMul, Nat.reduceBEq, Option.getD_none, Int.reduceToNat, Nat.reduceSub, Nat.reduceLT, Nat.reduceLeDiff, Int.reduceLE, Int.reduceLT, reduceCtorEq, ge_iff_le, h]
  · simp only [go_sem, ↓reduceIte, Nat.reduceEqDiff, Nat.reduceAdd, Nat.reduceMul, Nat.reduceBEq, Option.getD_none, Int.reduceToNat, Nat.reduceSub, Nat.reduceLT, Nat.reduceLeDiff, Int.reduceLE, Int.reduceLT, reduceCtorEq, ge_iff_le, h]
theorem spec_l1In.fc (n lo hi : Int) : FCt prog F_spec_l1In [.ro, .ro, .ro] [Ii n, Ii lo, Ii hi] (Bb (inB n lo hi)) [] := by
  refine fct_run spec_l1In.ok rfl ?_
  unfold inB
  by_cases h : lo ≤ n
  · simp only [go_sem, ↓reduceIte, Nat.reduceEqDiff, Nat.reduceAdd, Nat.reduceMul, Nat.reduceBEq, Option.getD_none, Int.reduceToNat, Nat.reduceSub, Nat.reduceLT, Nat.reduceLeDiff, Int.reduceLE, Int.reduceLT, reduceCtorEq, ge_iff_le, h]
  · simp only [go_sem, ↓reduceIte, Nat.reduceEqDiff, Nat.reduceAdd, Nat.reduceMul, Nat.reduceBEq, Option.getD_none, Int.reduceToNat, Nat.reduceSub, Nat.reduceLT, Nat.reduceLeDiff, Int.reduceLE, Int.reduceLT, reduceCtorEq, ge_iff_le, h]

end Go.Vm.Ytdembjfpgfaheaa
/- Walks: rules are copied and weighed. -/
namespace Go.Vm.Ytdembjfpgfaheaa
open Go Go.Vm
set_option maxRecDepth 10000
set_option maxHeartbeats 4000000
set_option linter.unusedSimpArgs false
set_option linter.unusedVariables false

/-- a rule -/
structure RuleD where
  ifs : List Int
  thn : Int
  deriving DecidableEq
abbrev RuleD.d (r : RuleD) : D := .agg [ints r.ifs, Ii r.thn]
abbrev rules (l : List RuleD) : D := .sl 2 (l.map RuleD.d)
end Go.Vm.Ytdembjfpgfaheaa
/- Walks: rules are looked at. -/
namespace Go.Vm.Ytdembjfpgfaheaa
open Go Go.Vm
set_option maxRecDepth 10000
set_option maxHeartbeats 4000000
set_option linter.unusedSimpArgs false
set_option linter.unusedVariables false

end Go.Vm.Ytdembjfpgfaheaa
/- Walks: rules are looked at, by the program and by the reference. -/
namespace Go.Vm.Ytdembjfpgfaheaa
open Go Go.Vm
set_option maxRecDepth 10000
set_option maxHeartbeats 4000000
set_option linter.unusedSimpArgs false
set_option linter.unusedVariables false

end Go.Vm.Ytdembjfpgfaheaa
/- Walks: valid rules; rules are compared. -/
namespace Go.Vm.Ytdembjfpgfaheaa
open Go Go.Vm
set_option maxRecDepth 10000
set_option maxHeartbeats 4000000
set_option linter.unusedSimpArgs false
set_option linter.unusedVariables false

end Go.Vm.Ytdembjfpgfaheaa
/- Walks: results are marked and read again. -/
namespace Go.Vm.Ytdembjfpgfaheaa
open Go Go.Vm
set_option maxRecDepth 10000
set_option maxHeartbeats 4000000
set_option linter.unusedSimpArgs false
set_option linter.unusedVariables false

end Go.Vm.Ytdembjfpgfaheaa
/- Walks: intervals and known bits, reduced by each other. -/
namespace Go.Vm.Ytdembjfpgfaheaa
open Go Go.Vm
set_option maxRecDepth 10000
set_option maxHeartbeats 4000000
set_option linter.unusedSimpArgs false
set_option linter.unusedVariables false

abbrev pr (a b : Int) : D := .agg [Ii a, Ii b]
def goodS (a b : Int) : Bool := inB a 0 65535 && inB b 0 65535 && decide (a ≤ b)
def andI (a b : Int) : Int := IntKind.i64.wrap (BitVec.ofInt IntKind.i64.bits a &&& BitVec.ofInt IntKind.i64.bits b).toNat
def goodK (a b : Int) : Bool := inB a 0 65535 && inB b 0 65535 && (andI a b == 0)
end Go.Vm.Ytdembjfpgfaheaa
/- Walks: arcs. -/
namespace Go.Vm.Ytdembjfpgfaheaa
open Go Go.Vm
set_option maxRecDepth 10000
set_option maxHeartbeats 4000000
set_option linter.unusedSimpArgs false
set_option linter.unusedVariables false

abbrev arcD (a : Int × Int) : D := pr a.1 a.2
abbrev arcs (l : List (Int × Int)) : D := .sl 2 (l.map arcD)
end Go.Vm.Ytdembjfpgfaheaa
/- Walks: valid arcs. -/
namespace Go.Vm.Ytdembjfpgfaheaa
open Go Go.Vm
set_option maxRecDepth 10000
set_option maxHeartbeats 4000000
set_option linter.unusedSimpArgs false
set_option linter.unusedVariables false

end Go.Vm.Ytdembjfpgfaheaa
/- Walks: rows of rows; clauses. -/
namespace Go.Vm.Ytdembjfpgfaheaa
open Go Go.Vm
set_option maxRecDepth 10000
set_option maxHeartbeats 4000000
set_option linter.unusedSimpArgs false
set_option linter.unusedVariables false

end Go.Vm.Ytdembjfpgfaheaa
/- Walks: sorted rows. -/
namespace Go.Vm.Ytdembjfpgfaheaa
open Go Go.Vm
set_option maxRecDepth 10000
set_option maxHeartbeats 4000000
set_option linter.unusedSimpArgs false
set_option linter.unusedVariables false

/-- where x belongs -/
def putK (l : List Int) (x : Int) : Nat := l.findIdx (fun y => !decide (y < x))
def putI (l : List Int) (x : Int) : List Int := if l[putK l x]? = some x then l else l.take (putK l x) ++ x :: l.drop (putK l x)
theorem putK_at {l : List Int} {x : Int} {k : Nat} (hk : k < l.length) (h : (l.take k).all (fun y => decide (y < x)) = true) (h2 : ¬ l[k] < x) : putK l x = k := by
  unfold putK
  rw [List.findIdx_eq hk]
  refine ⟨by simp [h2], fun j hj => ?_⟩
  have := List.all_eq_true.1 h l[j] (by rw [List.mem_take_iff_getElem]; exact ⟨j, by omega, rfl⟩)
  simpa using this
theorem putK_end {l : List Int} {x : Int} (h : l.all (fun y => decide (y < x)) = true) : putK l x = l.length := by
  unfold putK
  rw [List.findIdx_eq_length]
  intro y hy
  have := List.all_eq_true.1 h y hy
  simpa using this
theorem allSc {l : List Int} : (l.map Ii).all isSc = true := by
  rw [List.all_eq_true]; intro d hd; obtain ⟨x, _, rfl⟩ := List.mem_map.1 hd; rfl
theorem putL_len {l : List Int} {k : Nat} (hk : k ≤ l.length) : (l.take k).length = k := by rw [List.length_take]; omega
end Go.Vm.Ytdembjfpgfaheaa
/- Walks: what is reached. -/
namespace Go.Vm.Ytdembjfpgfaheaa
open Go Go.Vm
set_option maxRecDepth 10000
set_option maxHeartbeats 4000000
set_option linter.unusedSimpArgs false
set_option linter.unusedVariables false

theorem putI_len (l : List Int) (x : Int) : (putI l x).length ≤ l.length + 1 := by
  unfold putI
  split
  · omega
  · simp; omega
end Go.Vm.Ytdembjfpgfaheaa
/- Walks: facts and rules that hold. -/
namespace Go.Vm.Ytdembjfpgfaheaa
open Go Go.Vm
set_option maxRecDepth 10000
set_option maxHeartbeats 4000000
set_option linter.unusedSimpArgs false
set_option linter.unusedVariables false

abbrev bools (l : List Bool) : D := .sl 1 (l.map Bb)
def hasI (so : List Int) (x : Int) : Bool := so.any (· == x)
end Go.Vm.Ytdembjfpgfaheaa
/- Walks: lists of the places where a condition holds. -/
namespace Go.Vm.Ytdembjfpgfaheaa
open Go Go.Vm
set_option maxRecDepth 10000
set_option maxHeartbeats 4000000
set_option linter.unusedSimpArgs false
set_option linter.unusedVariables false

/-- the numbers below n for which p holds -/
def listI (n : Nat) (p : Nat → Bool) : List Int := ((List.range n).filter p).map fun (i : Nat) => (i : Int)
theorem noRs_bools {l : List Bool} : noRs (bools l) = true := noRs_sl (by
  intro d hd; obtain ⟨x, _, rfl⟩ := List.mem_map.1 hd; rfl)
end Go.Vm.Ytdembjfpgfaheaa
/- Walks: what is reached, by rows of marks. -/
namespace Go.Vm.Ytdembjfpgfaheaa
open Go Go.Vm
set_option maxRecDepth 10000
set_option maxHeartbeats 4000000
set_option linter.unusedSimpArgs false
set_option linter.unusedVariables false

end Go.Vm.Ytdembjfpgfaheaa
/- Plain law: rows of marks and sorted rows. -/
namespace Go.Vm.Ytdembjfpgfaheaa
open Go Go.Vm
set_option maxRecDepth 10000
set_option maxHeartbeats 4000000
set_option linter.unusedSimpArgs false
set_option linter.unusedVariables false

/-- the numbers from a on, b of them, for which p holds -/
def segI (a b : Nat) (p : Nat → Bool) : List Int := ((List.range' a b).filter p).map fun (i : Nat) => (i : Int)
theorem listI_seg (n : Nat) (p : Nat → Bool) : listI n p = segI 0 n p := by simp only [listI, segI, List.range_eq_range']
theorem segI_split {a b c : Nat} {p : Nat → Bool} : segI a (b + c) p = segI a b p ++ segI (a + b) c p := by
  simp only [segI]
  rw [← List.range'_append_1, List.filter_append, List.map_append]
theorem segI_mem {a b : Nat} {p : Nat → Bool} {x : Int} (h : x ∈ segI a b p) : ∃ i : Nat, x = i ∧ a ≤ i ∧ i < a + b ∧ p i = true := by
  simp only [segI, List.mem_map, List.mem_filter, List.mem_range'_1] at h
  obtain ⟨i, ⟨hi, hp⟩, rfl⟩ := h
  exact ⟨i, rfl, hi.1, hi.2, hp⟩
theorem segI_congr {a b : Nat} {p q : Nat → Bool} (h : ∀ i, a ≤ i → i < a + b → p i = q i) : segI a b p = segI a b q := by
  simp only [segI]
  congr 1
  exact List.filter_congr fun i hi => by rw [List.mem_range'_1] at hi; exact h i hi.1 hi.2
theorem putK_app {A C : List Int} {x : Int} (hA : ∀ y ∈ A, y < x) (hC : ∀ y ∈ C, ¬ y < x) : putK (A ++ C) x = A.length := by
  unfold putK
  have h1 : A.findIdx (fun y => !decide (y < x)) = A.length := by
    rw [List.findIdx_eq_length]; intro y hy; simp [hA y hy]
  rw [List.findIdx_append, h1, if_neg (by omega)]
  cases C with
  | nil => simp
  | cons c C =>
    have := hC c List.mem_cons_self
    simp only [List.findIdx_cons, this, decide_false, Bool.not_false, cond_true, Nat.zero_add]
theorem putI_app {A C : List Int} {x : Int} (hA : ∀ y ∈ A, y < x) (hC : ∀ y ∈ C, x < y) : putI (A ++ C) x = A ++ x :: C ∧ putI (A ++ x :: C) x = A ++ x :: C := by
  constructor
  · unfold putI
    rw [putK_app hA (fun y hy => by have := hC y hy; omega)]
    have : (A ++ C)[A.length]? ≠ some x := by
      rw [List.getElem?_append_right (Nat.le_refl _), Nat.sub_self]
      cases C with
      | nil => simp
      | cons c C => have := hC c List.mem_cons_self; simp; omega
    rw [if_neg this]
    simp
  · unfold putI
    rw [putK_app hA (fun y hy => by
      rcases List.mem_cons.1 hy with rfl | hy
      · omega
      · have := hC y hy; omega)]
    simp
theorem putI_list {n : Nat} {p : Nat → Bool} {x : Nat} (hx : x < n) : putI (listI n p) x = listI n (fun i => if i = x then true else p i) := by
  obtain ⟨m, rfl⟩ : ∃ m, n = x + (1 + m) := ⟨n - x - 1, by omega⟩
  rw [listI_seg, listI_seg, segI_split (p := p), segI_split (p := p) (b := 1), segI_split (p := fun i => if i = x then true else p i), segI_split (p := fun i => if i = x then true else p i) (b := 1)]
  simp only [Nat.zero_add]
  have hA : ∀ q, ∀ y ∈ segI 0 x q, y < (x : Int) := fun q y hy => by obtain ⟨i, rfl, _, h, _⟩ := segI_mem hy; omega
  have hC : ∀ q, ∀ y ∈ segI (x + 1) m q, (x : Int) < y := fun q y hy => by obtain ⟨i, rfl, h, _, _⟩ := segI_mem hy; omega
  have e1 : segI 0 x (fun i => if i = x then true else p i) = segI 0 x p := segI_congr fun i _ h => by rw [if_neg (by omega)]
  have e2 : segI (x + 1) m (fun i => if i = x then true else p i) = segI (x + 1) m p := segI_congr fun i h _ => by rw [if_neg (by omega)]
  have e3 : segI x 1 (fun i => if i = x then true else p i) = [(x : Int)] := by simp [segI]
  rw [e1, e2, e3]
  cases hp : p x with
  | true =>
    have e4 : segI x 1 p = [(x : Int)] := by simp [segI, hp]
    rw [e4]
    exact (putI_app (hA p) (hC p)).2
  | false =>
    have e4 : segI x 1 p = [] := by simp [segI, hp]
    rw [e4, List.nil_append]
    exact (putI_app (hA p) (hC p)).1
theorem listI_congr {n : Nat} {p q : Nat → Bool} (h : ∀ i, i < n → p i = q i) : listI n p = listI n q := by
  rw [listI_seg, listI_seg]; exact segI_congr fun i _ hi => h i (by omega)
end Go.Vm.Ytdembjfpgfaheaa
/- Walks: what is reached within so many steps. -/
namespace Go.Vm.Ytdembjfpgfaheaa
open Go Go.Vm
set_option maxRecDepth 10000
set_option maxHeartbeats 4000000
set_option linter.unusedSimpArgs false
set_option linter.unusedVariables false

end Go.Vm.Ytdembjfpgfaheaa
/- Walks: arcs that lead back. -/
namespace Go.Vm.Ytdembjfpgfaheaa
open Go Go.Vm
set_option maxRecDepth 10000
set_option maxHeartbeats 4000000
set_option linter.unusedSimpArgs false
set_option linter.unusedVariables false

end Go.Vm.Ytdembjfpgfaheaa
/- Walks: the laws' own helpers, in one form. -/
namespace Go.Vm.Ytdembjfpgfaheaa
open Go Go.Vm
set_option maxRecDepth 10000
set_option maxHeartbeats 4000000
set_option linter.unusedSimpArgs false
set_option linter.unusedVariables false

theorem noRs_agg {fs : List D} (h : ∀ d ∈ fs, noRs d = true) : noRs (.agg fs) = true := by simp only [noRs]; exact noRsL_all h
theorem hasBool {d : D} (h : HasTy .bool d) : ∃ b, d = Bb b := by simpa only [HasTy] using h
theorem hasSl {α : Type} {f : α → D} {p : α → Prop} {T : Ty} (one : ∀ x, HasTy T x → ∃ a, x = f a ∧ p a) {d : D} (h : HasTy (.sl T) d) : ∃ l : List α, d = .sl T.cells (l.map f) ∧ l.length ≤ 9223372036854775807 ∧ ∀ a ∈ l, p a := by
  simp only [HasTy] at h
  obtain ⟨xs, rfl, hl, h⟩ := h
  have : ∀ xs : List D, (∀ x ∈ xs, HasTy T x) → ∃ l : List α, xs = l.map f ∧ ∀ a ∈ l, p a := by
    intro xs
    induction xs with
    | nil => intro _; exact ⟨[], rfl, by simp⟩
    | cons x xs ih =>
      intro h
      obtain ⟨a, rfl, hp⟩ := one x (h x List.mem_cons_self)
      obtain ⟨l, rfl, hl⟩ := ih fun y hy => h y (List.mem_cons_of_mem _ hy)
      exact ⟨a :: l, rfl, fun b hb => by
        rcases List.mem_cons.1 hb with rfl | hb
        · exact hp
        · exact hl b hb⟩
  obtain ⟨l, rfl, hp⟩ := this xs h
  exact ⟨l, rfl, by simpa [maxLen] using hl, hp⟩
theorem noRs_t2 {a b : D} (h1 : noRs a = true) (h2 : noRs b = true) : noRs (.tup [a, b]) = true := by simp only [noRs, noRsL, h1, h2, Bool.and_self]
def mkIntS (n : Int) (l : List Int) : List Int := upFrom n l.length
theorem mkIntS_len {n : Int} {l : List Int} : (mkIntS n l).length = l.length := by simp [mkIntS, upFrom_len]
theorem mkIntS_take {n : Int} {l : List Int} : ((mkIntS n l).map Ii).take l.length = (mkIntS n l).map Ii := List.take_of_length_le (by simp [mkIntS_len])
theorem hasIntS {d : D} (h : HasTy (.sl (.int .i64)) d) : ∃ l : List Int, d = ints l ∧ l.length ≤ 9223372036854775807 := by
  obtain ⟨l, rfl, hl, hp⟩ := hasSl (f := Ii) (p := fun x => True) (fun x h => by obtain ⟨a, rfl, _⟩ := hasInt h; exact ⟨a, rfl, trivial⟩) h
  exact ⟨l, rfl, hl⟩
theorem laws_toIntS.fcu (x : List Int) (h : x.length ≤ 1048576) :
    FCt prog F_laws_toIntS [.ro] [ints x] (ints x) [] := by
  refine fct_run laws_toIntS.ok rfl ?_
  have h0 := h
  have c1 : (x.length : Int) * (8 : Nat) ≤ 70368744177664 := by omega
  simp only [go_sem, ↓reduceIte, Nat.reduceEqDiff, Nat.reduceAdd, Nat.reduceMul, Nat.reduceBEq, Option.getD_none, Int.reduceToNat, Nat.reduceSub, Nat.reduceLT, Nat.reduceLeDiff, Int.reduceLE, Int.reduceLT, reduceCtorEq, Int.le_refl, c1]
  refine R_loop (α := Nat) (fun k s' M' => k ≤ x.length ∧ s' 4 = aI k ∧ ∃ v, s' 3 = .sl 256 v 0 x.length 1 ∧ M'.m 256 = some (.arr v true 1 (fill Ii (Ii 0) x k))) (fun k => x.length - k) 0
    ⟨by omega, by simp only [go_sem, ↓reduceIte, Nat.reduceEqDiff, Nat.reduceAdd, Nat.reduceMul, Nat.reduceBEq, Option.getD_none, Int.reduceToNat, Nat.reduceSub, Nat.reduceLT, Nat.reduceLeDiff, Int.reduceLE, Int.reduceLT, reduceCtorEq]; rfl, _, by simp only [go_sem, ↓reduceIte, Nat.reduceEqDiff, Nat.reduceAdd, Nat.reduceMul, Nat.reduceBEq, Option.getD_none, Int.reduceToNat, Nat.reduceSub, Nat.reduceLT, Nat.reduceLeDiff, Int.reduceLE, Int.reduceLT, reduceCtorEq]; rfl, by simp only [go_sem, ↓reduceIte, Nat.reduceEqDiff, Nat.reduceAdd, Nat.reduceMul, Nat.reduceBEq, Option.getD_none, Int.reduceToNat, Nat.reduceSub, Nat.reduceLT, Nat.reduceLeDiff, Int.reduceLE, Int.reduceLT, reduceCtorEq]; rw [fill_zero]⟩ ?_
  rintro k s' M' ⟨hk, h4, v, h3, hm⟩ ho
  unfold laws_toIntS.b0
  have k0 : s' 0 = .dat none (ints x) := by rw [ho 0 rfl]; simp only [go_sem, ↓reduceIte, Nat.reduceEqDiff, Nat.reduceAdd, Nat.reduceMul, Nat.reduceBEq, Option.getD_none, Int.reduceToNat, Nat.reduceSub, Nat.reduceLT, Nat.reduceLeDiff, Int.reduceLE, Int.reduceLT, reduceCtorEq]
  clear ho
  by_cases hlt : k < x.length
  · have hi' : (k : Int) < x.length := by omega
    have ga : x[k]? = some x[k] := List.getElem?_eq_getElem hlt
    have hw : IntKind.i64.wrap (k + 1) = ((k + 1 : Nat) : Int) := wrap_k hlt (by omega)
    have hf := fill_get (f := Ii) (z := (Ii 0)) hlt
    simp only [go_sem, ↓reduceIte, Nat.reduceEqDiff, Nat.reduceAdd, Nat.reduceMul, Nat.reduceBEq, Option.getD_none, Int.reduceToNat, Nat.reduceSub, Nat.reduceLT, Nat.reduceLeDiff, Int.reduceLE, Int.reduceLT, reduceCtorEq, h4, h3, hi', ga, hw, hm, hf, k0]
    refine ⟨k + 1, by dsimp only; omega, by omega, by simp only [go_sem, ↓reduceIte, Nat.reduceEqDiff, Nat.reduceAdd, Nat.reduceMul, Nat.reduceBEq, Option.getD_none, Int.reduceToNat, Nat.reduceSub, Nat.reduceLT, Nat.reduceLeDiff, Int.reduceLE, Int.reduceLT, reduceCtorEq, k0], v, by simp only [go_sem, ↓reduceIte, Nat.reduceEqDiff, Nat.reduceAdd, Nat.reduceMul, Nat.reduceBEq, Option.getD_none, Int.reduceToNat, Nat.reduceSub, Nat.reduceLT, Nat.reduceLeDiff, Int.reduceLE, Int.reduceLT, reduceCtorEq, h3, k0], by simp only [go_sem, ↓reduceIte, Nat.reduceEqDiff, Nat.reduceAdd, Nat.reduceMul, Nat.reduceBEq, Option.getD_none, Int.reduceToNat, Nat.reduceSub, Nat.reduceLT, Nat.reduceLeDiff, Int.reduceLE, Int.reduceLT, reduceCtorEq, k0]; rw [← fill_set hlt]⟩
  · have hi' : ¬ (k : Int) < x.length := by omega
    obtain rfl : k = x.length := by omega
    have hlen := fill_len (f := Ii) (z := (Ii 0)) (Nat.le_refl x.length)
    simp only [go_sem, ↓reduceIte, Nat.reduceEqDiff, Nat.reduceAdd, Nat.reduceMul, Nat.reduceBEq, Option.getD_none, Int.reduceToNat, Nat.reduceSub, Nat.reduceLT, Nat.reduceLeDiff, Int.reduceLE, Int.reduceLT, reduceCtorEq, h4, h3, hi', hm, hlen, k0]
    simp only [fill_all, mkR_one, take_map_len]
theorem laws_eqIntS.fcu (x : List Int) (h : x.length ≤ 1048576) :
    FCt prog F_laws_eqIntS [.ro, .ro] [ints x, ints x] (Bb true) [] := by
  refine fct_run laws_eqIntS.ok rfl ?_
  have h0 := h
  simp only [go_sem, ↓reduceIte, Nat.reduceEqDiff, Nat.reduceAdd, Nat.reduceMul, Nat.reduceBEq, Option.getD_none, Int.reduceToNat, Nat.reduceSub, Nat.reduceLT, Nat.reduceLeDiff, Int.reduceLE, Int.reduceLT, reduceCtorEq]
  refine R_loop (α := Nat) (fun k s' M' => k ≤ x.length ∧ s' 5 = aI k) (fun k => x.length - k) 0 ⟨by omega, by simp only [go_sem, ↓reduceIte, Nat.reduceEqDiff, Nat.reduceAdd, Nat.reduceMul, Nat.reduceBEq, Option.getD_none, Int.reduceToNat, Nat.reduceSub, Nat.reduceLT, Nat.reduceLeDiff, Int.reduceLE, Int.reduceLT, reduceCtorEq]; rfl⟩ ?_
  rintro k s' M' ⟨hk, h5⟩ ho
  unfold laws_eqIntS.b0
  have k0 : s' 0 = .dat none (ints x) := by rw [ho 0 rfl]; simp only [go_sem, ↓reduceIte, Nat.reduceEqDiff, Nat.reduceAdd, Nat.reduceMul, Nat.reduceBEq, Option.getD_none, Int.reduceToNat, Nat.reduceSub, Nat.reduceLT, Nat.reduceLeDiff, Int.reduceLE, Int.reduceLT, reduceCtorEq]
  have k1 : s' 1 = .dat none (ints x) := by rw [ho 1 rfl]; simp only [go_sem, ↓reduceIte, Nat.reduceEqDiff, Nat.reduceAdd, Nat.reduceMul, Nat.reduceBEq, Option.getD_none, Int.reduceToNat, Nat.reduceSub, Nat.reduceLT, Nat.reduceLeDiff, Int.reduceLE, Int.reduceLT, reduceCtorEq]
  clear ho
  by_cases hlt : k < x.length
  · have hi' : (k : Int) < x.length := by omega
    have ga : x[k]? = some x[k] := List.getElem?_eq_getElem hlt
    have hw : IntKind.i64.wrap (k + 1) = ((k + 1 : Nat) : Int) := wrap_k hlt (by omega)
    simp only [go_sem, ↓reduceIte, Nat.reduceEqDiff, Nat.reduceAdd, Nat.reduceMul, Nat.reduceBEq, Option.getD_none, Int.reduceToNat, Nat.reduceSub, Nat.reduceLT, Nat.reduceLeDiff, Int.reduceLE, Int.reduceLT, reduceCtorEq, h5, hi', ga, hw, k0, k1]
    exact ⟨k + 1, by dsimp only; omega, by omega, by simp only [go_sem, ↓reduceIte, Nat.reduceEqDiff, Nat.reduceAdd, Nat.reduceMul, Nat.reduceBEq, Option.getD_none, Int.reduceToNat, Nat.reduceSub, Nat.reduceLT, Nat.reduceLeDiff, Int.reduceLE, Int.reduceLT, reduceCtorEq, k0, k1]⟩
  · have hi' : ¬ (k : Int) < x.length := by omega
    obtain rfl : k = x.length := by omega
    simp only [go_sem, ↓reduceIte, Nat.reduceEqDiff, Nat.reduceAdd, Nat.reduceMul, Nat.reduceBEq, Option.getD_none, Int.reduceToNat, Nat.reduceSub, Nat.reduceLT, Nat.reduceLeDiff, Int.reduceLE, Int.reduceLT, reduceCtorEq, h5, hi', k0, k1]
theorem laws_szIntS.fcu (x : List Int) (n : Int) (hn : 0 ≤ n ∧ n ≤ 1048576) (hw : x.length ≤ 9223372036854775807) :
    FCt prog F_laws_szIntS [.ro, .ro] [ints x, Ii n] (Ii (if n < (x.length : Nat) then -1 else n - (x.length : Nat))) [] := by
  refine fct_run laws_szIntS.ok rfl ?_
  have hx : IntKind.i64.wrap (n - x.length) = n - x.length := wrap_in (by omega) (by omega)
  by_cases h : n < (x.length : Nat)
  · have h' : n - x.length < 0 := by omega
    simp only [go_sem, ↓reduceIte, Nat.reduceEqDiff, Nat.reduceAdd, Nat.reduceMul, Nat.reduceBEq, Option.getD_none, Int.reduceToNat, Nat.reduceSub, Nat.reduceLT, Nat.reduceLeDiff, Int.reduceLE, Int.reduceLT, reduceCtorEq, hx, h, h']
  · have h' : ¬ n - x.length < 0 := by omega
    simp only [go_sem, ↓reduceIte, Nat.reduceEqDiff, Nat.reduceAdd, Nat.reduceMul, Nat.reduceBEq, Option.getD_none, Int.reduceToNat, Nat.reduceSub, Nat.reduceLT, Nat.reduceLeDiff, Int.reduceLE, Int.reduceLT, reduceCtorEq, hx, h, h']
theorem laws_markIntS.fcu (x : List Int) (n : Int) (h : x.length ≤ 1048576) (hc : x.length ≤ 16777216) (hn : 0 ≤ n ∧ n + (x.length : Nat) ≤ 576460752303423488) :
    FCt prog F_laws_markIntS [.io, .ro] [ints x, Ii n] (Ii (n + (x.length : Nat))) [ints (mkIntS n x)] := by
  refine fct_run laws_markIntS.ok rfl ?_
  have hL : ((mkIntS n x).map Ii).length = (x.map Ii).length := by simp [mkIntS_len]
  simp only [go_sem, ↓reduceIte, Nat.reduceEqDiff, Nat.reduceAdd, Nat.reduceMul, Nat.reduceBEq, Option.getD_none, Int.reduceToNat, Nat.reduceSub, Nat.reduceLT, Nat.reduceLeDiff, Int.reduceLE, Int.reduceLT, reduceCtorEq]
  refine R_loop (α := Nat) (fun k s' M' => k ≤ x.length ∧ s' 5 = aI k ∧ s' 1 = aI (n + k) ∧ M'.m 0 = some (.arr 0 true 1 (ovr ((mkIntS n x).map Ii) (x.map Ii) k))) (fun k => x.length - k) 0
    ⟨by omega, by simp only [go_sem, ↓reduceIte, Nat.reduceEqDiff, Nat.reduceAdd, Nat.reduceMul, Nat.reduceBEq, Option.getD_none, Int.reduceToNat, Nat.reduceSub, Nat.reduceLT, Nat.reduceLeDiff, Int.reduceLE, Int.reduceLT, reduceCtorEq]; rfl, by simp only [go_sem, ↓reduceIte, Nat.reduceEqDiff, Nat.reduceAdd, Nat.reduceMul, Nat.reduceBEq, Option.getD_none, Int.reduceToNat, Nat.reduceSub, Nat.reduceLT, Nat.reduceLeDiff, Int.reduceLE, Int.reduceLT, reduceCtorEq]; simp, by simp only [go_sem, ↓reduceIte, Nat.reduceEqDiff, Nat.reduceAdd, Nat.reduceMul, Nat.reduceBEq, Option.getD_none, Int.reduceToNat, Nat.reduceSub, Nat.reduceLT, Nat.reduceLeDiff, Int.reduceLE, Int.reduceLT, reduceCtorEq]; simp [ovr_zero]⟩ ?_
  rintro k s' M' ⟨hk, h5, h1, hm⟩ ho
  unfold laws_markIntS.b0
  have k0 : s' 0 = .sl 0 0 0 x.length 1 := by rw [ho 0 rfl]; simp only [go_sem, ↓reduceIte, Nat.reduceEqDiff, Nat.reduceAdd, Nat.reduceMul, Nat.reduceBEq, Option.getD_none, Int.reduceToNat, Nat.reduceSub, Nat.reduceLT, Nat.reduceLeDiff, Int.reduceLE, Int.reduceLT, reduceCtorEq]
  clear ho
  by_cases hlt : k < x.length
  · have hi' : (k : Int) < x.length := by omega
    have ga : x[k]? = some x[k] := List.getElem?_eq_getElem hlt
    have hw : IntKind.i64.wrap (k + 1) = ((k + 1 : Nat) : Int) := wrap_k hlt (by omega)
    have hw1 : IntKind.i64.wrap (n + k + 1) = n + (k + 1 : Nat) := by rw [wrap_in (by omega) (by omega)]; try omega
    have hmk : (mkIntS n x)[k]? = some (n + k) := upFrom_get hlt
    have hg : (ovr ((mkIntS n x).map Ii) (x.map Ii) k)[k]? = some (Ii x[k]) := by rw [ovr_get hL (by simpa using hlt)]; simp [hlt]
    have hkl : k < (ovr ((mkIntS n x).map Ii) (x.map Ii) k).length := by rw [ovr_len hL (by simp; omega)]; simpa using hlt
    have hg2 : ∀ d, ((ovr ((mkIntS n x).map Ii) (x.map Ii) k).set k d)[k]? = some d := fun d => by rw [List.getElem?_set, if_pos rfl, if_pos hkl]
    have hs : (ovr ((mkIntS n x).map Ii) (x.map Ii) k).set k (.int .i64 (n + k)) = ovr ((mkIntS n x).map Ii) (x.map Ii) (k + 1) := ovr_set hL (by simpa using hlt) (by rw [List.getElem?_map, hmk]; rfl)
    simp only [go_sem, ↓reduceIte, Nat.reduceEqDiff, Nat.reduceAdd, Nat.reduceMul, Nat.reduceBEq, Option.getD_none, Int.reduceToNat, Nat.reduceSub, Nat.reduceLT, Nat.reduceLeDiff, Int.reduceLE, Int.reduceLT, reduceCtorEq, hi', hw, hw1, hg, hg2, List.set_set, hs, k0, h1, h5, hm]
    exact ⟨k + 1, by dsimp only; omega, by omega, by simp only [go_sem, ↓reduceIte, Nat.reduceEqDiff, Nat.reduceAdd, Nat.reduceMul, Nat.reduceBEq, Option.getD_none, Int.reduceToNat, Nat.reduceSub, Nat.reduceLT, Nat.reduceLeDiff, Int.reduceLE, Int.reduceLT, reduceCtorEq, k0, h1, h5, hm], by simp only [go_sem, ↓reduceIte, Nat.reduceEqDiff, Nat.reduceAdd, Nat.reduceMul, Nat.reduceBEq, Option.getD_none, Int.reduceToNat, Nat.reduceSub, Nat.reduceLT, Nat.reduceLeDiff, Int.reduceLE, Int.reduceLT, reduceCtorEq, k0, h1, h5, hm], by simp only [go_sem, ↓reduceIte, Nat.reduceEqDiff, Nat.reduceAdd, Nat.reduceMul, Nat.reduceBEq, Option.getD_none, Int.reduceToNat, Nat.reduceSub, Nat.reduceLT, Nat.reduceLeDiff, Int.reduceLE, Int.reduceLT, reduceCtorEq, k0, h1, h5, hm]⟩
  · have hi' : ¬ (k : Int) < x.length := by omega
    obtain rfl : k = x.length := by omega
    have hall : ovr ((mkIntS n x).map Ii) (x.map Ii) x.length = (mkIntS n x).map Ii := by have := ovr_all hL; simpa using this
    have htk : ((mkIntS n x).map Ii).take x.length = (mkIntS n x).map Ii := List.take_of_length_le (by simp [mkIntS_len])
    have hce : ((x.length : Nat) : Int) = x.length := by omega
    simp only [go_sem, ↓reduceIte, Nat.reduceEqDiff, Nat.reduceAdd, Nat.reduceMul, Nat.reduceBEq, Option.getD_none, Int.reduceToNat, Nat.reduceSub, Nat.reduceLT, Nat.reduceLeDiff, Int.reduceLE, Int.reduceLT, reduceCtorEq, hi', hall, mkIntS_len, htk, hce, k0, h1, h5, hm]
    try rfl
theorem laws_heldIntS.fcu (x : List Int) (n : Int) (h : x.length ≤ 1048576) (hc : x.length ≤ 16777216) (hn : 0 ≤ n ∧ n + (x.length : Nat) ≤ 576460752303423488) :
    FCt prog F_laws_heldIntS [.ro, .ro] [ints (mkIntS n x), Ii n] (Ii (n + (x.length : Nat))) [] := by
  refine fct_run laws_heldIntS.ok rfl ?_
  simp only [go_sem, ↓reduceIte, Nat.reduceEqDiff, Nat.reduceAdd, Nat.reduceMul, Nat.reduceBEq, Option.getD_none, Int.reduceToNat, Nat.reduceSub, Nat.reduceLT, Nat.reduceLeDiff, Int.reduceLE, Int.reduceLT, reduceCtorEq]
  refine R_loop (α := Nat) (fun k s' M' => k ≤ x.length ∧ s' 5 = aI k ∧ s' 1 = aI (n + k)) (fun k => x.length - k) 0 ⟨by omega, by simp only [go_sem, ↓reduceIte, Nat.reduceEqDiff, Nat.reduceAdd, Nat.reduceMul, Nat.reduceBEq, Option.getD_none, Int.reduceToNat, Nat.reduceSub, Nat.reduceLT, Nat.reduceLeDiff, Int.reduceLE, Int.reduceLT, reduceCtorEq]; rfl, by simp only [go_sem, ↓reduceIte, Nat.reduceEqDiff, Nat.reduceAdd, Nat.reduceMul, Nat.reduceBEq, Option.getD_none, Int.reduceToNat, Nat.reduceSub, Nat.reduceLT, Nat.reduceLeDiff, Int.reduceLE, Int.reduceLT, reduceCtorEq]; simp⟩ ?_
  rintro k s' M' ⟨hk, h5, h1⟩ ho
  unfold laws_heldIntS.b0
  have k0 : s' 0 = .dat none (ints (mkIntS n x)) := by rw [ho 0 rfl]; simp only [go_sem, ↓reduceIte, Nat.reduceEqDiff, Nat.reduceAdd, Nat.reduceMul, Nat.reduceBEq, Option.getD_none, Int.reduceToNat, Nat.reduceSub, Nat.reduceLT, Nat.reduceLeDiff, Int.reduceLE, Int.reduceLT, reduceCtorEq]
  clear ho
  by_cases hlt : k < x.length
  · have hi' : (k : Int) < x.length := by omega
    have hw : IntKind.i64.wrap (k + 1) = ((k + 1 : Nat) : Int) := wrap_k hlt (by omega)
    have hw1 : IntKind.i64.wrap (n + k + 1) = n + (k + 1 : Nat) := by rw [wrap_in (by omega) (by omega)]; try omega
    have hmk : (mkIntS n x)[k]? = some (n + k) := upFrom_get hlt
    simp only [go_sem, ↓reduceIte, Nat.reduceEqDiff, Nat.reduceAdd, Nat.reduceMul, Nat.reduceBEq, Option.getD_none, Int.reduceToNat, Nat.reduceSub, Nat.reduceLT, Nat.reduceLeDiff, Int.reduceLE, Int.reduceLT, reduceCtorEq, hi', hw, hw1, hmk, k0, h1, h5, mkIntS_len]
    exact ⟨k + 1, by dsimp only; omega, by omega, by simp only [go_sem, ↓reduceIte, Nat.reduceEqDiff, Nat.reduceAdd, Nat.reduceMul, Nat.reduceBEq, Option.getD_none, Int.reduceToNat, Nat.reduceSub, Nat.reduceLT, Nat.reduceLeDiff, Int.reduceLE, Int.reduceLT, reduceCtorEq, k0, h1, h5, mkIntS_len], by simp only [go_sem, ↓reduceIte, Nat.reduceEqDiff, Nat.reduceAdd, Nat.reduceMul, Nat.reduceBEq, Option.getD_none, Int.reduceToNat, Nat.reduceSub, Nat.reduceLT, Nat.reduceLeDiff, Int.reduceLE, Int.reduceLT, reduceCtorEq, k0, h1, h5, mkIntS_len]⟩
  · have hi' : ¬ (k : Int) < x.length := by omega
    obtain rfl : k = x.length := by omega
    have hce : ((x.length : Nat) : Int) = x.length := by omega
    simp only [go_sem, ↓reduceIte, Nat.reduceEqDiff, Nat.reduceAdd, Nat.reduceMul, Nat.reduceBEq, Option.getD_none, Int.reduceToNat, Nat.reduceSub, Nat.reduceLT, Nat.reduceLeDiff, Int.reduceLE, Int.reduceLT, reduceCtorEq, hi', hce, k0, h1, h5, mkIntS_len]

end Go.Vm.Ytdembjfpgfaheaa
/- Walks: the laws' own helpers, in one form: rules, rows of rows. -/
namespace Go.Vm.Ytdembjfpgfaheaa
open Go Go.Vm
set_option maxRecDepth 10000
set_option maxHeartbeats 4000000
set_option linter.unusedSimpArgs false
set_option linter.unusedVariables false

end Go.Vm.Ytdembjfpgfaheaa
/- Walks: what is put into a row that is handed over; the least facts. -/
namespace Go.Vm.Ytdembjfpgfaheaa
open Go Go.Vm
set_option maxRecDepth 10000
set_option maxHeartbeats 4000000
set_option linter.unusedSimpArgs false
set_option linter.unusedVariables false

theorem spec_l1Put.fco (l : List Int) (x : Int) (hl : l.length ≤ 4294967296) : FCt prog F_spec_l1Put [.co, .ro] [ints l, Ii x] (ints (putI l x)) [] := by
  refine fct_run spec_l1Put_co.ok rfl ?_
  simp only [go_sem, ↓reduceIte, Nat.reduceEqDiff, Nat.reduceAdd, Nat.reduceMul, Nat.reduceBEq, Option.getD_none, Int.reduceToNat, Nat.reduceSub, Nat.reduceLT, Nat.reduceLeDiff, Int.reduceLE, Int.reduceLT, reduceCtorEq]
  refine R_cut (fun e s' M' => e = .ex 0 ∧ s' 5 = aI (putK l x) ∧ M'.m 0 = some (.arr 0 true 1 (l.map Ii)) ∧ putK l x ≤ l.length) ?_ ?_
  · refine R_loop (α := Nat) (fun k s' M' => k ≤ l.length ∧ s' 5 = aI k ∧ M'.m 0 = some (.arr 0 true 1 (l.map Ii)) ∧ (l.take k).all (fun y => decide (y < x)) = true) (fun k => l.length - k) 0 ⟨by omega, by simp only [go_sem, ↓reduceIte, Nat.reduceEqDiff, Nat.reduceAdd, Nat.reduceMul, Nat.reduceBEq, Option.getD_none, Int.reduceToNat, Nat.reduceSub, Nat.reduceLT, Nat.reduceLeDiff, Int.reduceLE, Int.reduceLT, reduceCtorEq]; rfl, by simp only [go_sem, ↓reduceIte, Nat.reduceEqDiff, Nat.reduceAdd, Nat.reduceMul, Nat.reduceBEq, Option.getD_none, Int.reduceToNat, Nat.reduceSub, Nat.reduceLT, Nat.reduceLeDiff, Int.reduceLE, Int.reduceLT, reduceCtorEq], by simp⟩ ?_
    rintro k s' M' ⟨hk, h5, hm, hr⟩ ho
    unfold spec_l1Put_co.b0
    have k0 : s' 0 = .sl 0 0 0 l.length 1 := by rw [ho 0 rfl]; simp only [go_sem, ↓reduceIte, Nat.reduceEqDiff, Nat.reduceAdd, Nat.reduceMul, Nat.reduceBEq, Option.getD_none, Int.reduceToNat, Nat.reduceSub, Nat.reduceLT, Nat.reduceLeDiff, Int.reduceLE, Int.reduceLT, reduceCtorEq]
    have k1 : s' 1 = aI x := by rw [ho 1 rfl]; simp only [go_sem, ↓reduceIte, Nat.reduceEqDiff, Nat.reduceAdd, Nat.reduceMul, Nat.reduceBEq, Option.getD_none, Int.reduceToNat, Nat.reduceSub, Nat.reduceLT, Nat.reduceLeDiff, Int.reduceLE, Int.reduceLT, reduceCtorEq]
    clear ho
    by_cases hlt : k < l.length
    · have hi' : (k : Int) < l.length := by omega
      have ga : l[k]? = some l[k] := List.getElem?_eq_getElem hlt
      have hw : IntKind.i64.wrap (k + 1) = ((k + 1 : Nat) : Int) := wrap_k hlt (by omega)
      by_cases hc : l[k] < x
      · simp only [go_sem, ↓reduceIte, Nat.reduceEqDiff, Nat.reduceAdd, Nat.reduceMul, Nat.reduceBEq, Option.getD_none, Int.reduceToNat, Nat.reduceSub, Nat.reduceLT, Nat.reduceLeDiff, Int.reduceLE, Int.reduceLT, reduceCtorEq, hi', ga, hc, hw, k0, k1, h5, hm]
        exact ⟨k + 1, by dsimp only; omega, by omega, by simp only [go_sem, ↓reduceIte, Nat.reduceEqDiff, Nat.reduceAdd, Nat.reduceMul, Nat.reduceBEq, Option.getD_none, Int.reduceToNat, Nat.reduceSub, Nat.reduceLT, Nat.reduceLeDiff, Int.reduceLE, Int.reduceLT, reduceCtorEq, k0, k1, h5, hm], by simp only [go_sem, ↓reduceIte, Nat.reduceEqDiff, Nat.reduceAdd, Nat.reduceMul, Nat.reduceBEq, Option.getD_none, Int.reduceToNat, Nat.reduceSub, Nat.reduceLT, Nat.reduceLeDiff, Int.reduceLE, Int.reduceLT, reduceCtorEq, k0, k1, h5, hm], all_take hlt hr (by simpa using hc)⟩
      · have hp := putK_at hlt hr hc
        simp only [go_sem, ↓reduceIte, Nat.reduceEqDiff, Nat.reduceAdd, Nat.reduceMul, Nat.reduceBEq, Option.getD_none, Int.reduceToNat, Nat.reduceSub, Nat.reduceLT, Nat.reduceLeDiff, Int.reduceLE, Int.reduceLT, reduceCtorEq, hi', ga, hc, hp, k0, k1, h5, hm]
        exact hk
    · have hi' : ¬ (k : Int) < l.length := by omega
      rw [List.take_of_length_le (by omega)] at hr
      have hp := putK_end hr
      obtain rfl : k = l.length := by omega
      simp only [go_sem, ↓reduceIte, Nat.reduceEqDiff, Nat.reduceAdd, Nat.reduceMul, Nat.reduceBEq, Option.getD_none, Int.reduceToNat, Nat.reduceSub, Nat.reduceLT, Nat.reduceLeDiff, Int.reduceLE, Int.reduceLT, reduceCtorEq, hi', hp, k0, k1, h5, hm]
  · rintro e s' M' ⟨rfl, h5, hm, hk⟩ ho
    have k0 : s' 0 = .sl 0 0 0 l.length 1 := by rw [ho 0 rfl]; simp only [go_sem, ↓reduceIte, Nat.reduceEqDiff, Nat.reduceAdd, Nat.reduceMul, Nat.reduceBEq, Option.getD_none, Int.reduceToNat, Nat.reduceSub, Nat.reduceLT, Nat.reduceLeDiff, Int.reduceLE, Int.reduceLT, reduceCtorEq]
    have k1 : s' 1 = aI x := by rw [ho 1 rfl]; simp only [go_sem, ↓reduceIte, Nat.reduceEqDiff, Nat.reduceAdd, Nat.reduceMul, Nat.reduceBEq, Option.getD_none, Int.reduceToNat, Nat.reduceSub, Nat.reduceLT, Nat.reduceLeDiff, Int.reduceLE, Int.reduceLT, reduceCtorEq]
    clear ho
    have hle : (putK l x : Int) ≤ l.length := by omega
    have hlt2 := putL_len hk
    have hb1 : putK l x * 8 ≤ 70368744177664 := by omega
    have hb2 : (putK l x + 1) * 8 ≤ 70368744177664 := by omega
    have hb3 : (putK l x + 1 + (l.length - putK l x)) * 8 ≤ 70368744177664 := by omega
    have ht1 : (l.take (putK l x)).take (putK l x) = l.take (putK l x) := by rw [List.take_take, Nat.min_self]
    have hl1 : ((l.take (putK l x)).map Ii ++ [D.int IntKind.i64 x]).length = putK l x + 1 := by rw [List.length_append, List.length_map, hlt2]; rfl
    have ht2 : ((l.take (putK l x)).map Ii ++ [D.int IntKind.i64 x]).take (putK l x + 1) = (l.take (putK l x)).map Ii ++ [D.int IntKind.i64 x] := List.take_of_length_le (by omega)
    have hl2 : ((l.take (putK l x)).map Ii ++ [D.int IntKind.i64 x] ++ (l.drop (putK l x)).map Ii).length = putK l x + 1 + (l.length - putK l x) := by rw [List.length_append, hl1, List.length_map, List.length_drop]
    have ht3 : ((l.take (putK l x)).map Ii ++ [D.int IntKind.i64 x] ++ (l.drop (putK l x)).map Ii).take (putK l x + 1 + (l.length - putK l x)) = (l.take (putK l x)).map Ii ++ [D.int IntKind.i64 x] ++ (l.drop (putK l x)).map Ii := List.take_of_length_le (by omega)
    have ht4 : (l.drop (putK l x)).take (l.length - putK l x) = l.drop (putK l x) := List.take_of_length_le (by simp)
    have hsm : putK l x + (l.length - putK l x) = l.length := by omega
    have hsi : ((l.length : Int) - (putK l x : Int)).toNat = l.length - putK l x := by omega
    by_cases hlt : putK l x < l.length
    · have hi' : (putK l x : Int) < l.length := by omega
      have ga : l[putK l x]? = some l[putK l x] := List.getElem?_eq_getElem hlt
      simp only [go_sem, ↓reduceIte, Nat.reduceEqDiff, Nat.reduceAdd, Nat.reduceMul, Nat.reduceBEq, Option.getD_none, Int.reduceToNat, Nat.reduceSub, Nat.reduceLT, Nat.reduceLeDiff, Int.reduceLE, Int.reduceLT, reduceCtorEq, hi', ga, k0, k1, h5, hm, hle, hlt2, hb1, hb2, hb3, ht1, hl1, ht2, hl2, ht3, ht4, hsm, hsi, hk, take_map_len, Int.sub_zero, List.drop_zero]
      cases hc : (l[putK l x] == x) with
      | true =>
        have e : putI l x = l := by unfold putI; rw [ga, if_pos (by simpa using hc)]
        simp only [go_sem, ↓reduceIte, Nat.reduceEqDiff, Nat.reduceAdd, Nat.reduceMul, Nat.reduceBEq, Option.getD_none, Int.reduceToNat, Nat.reduceSub, Nat.reduceLT, Nat.reduceLeDiff, Int.reduceLE, Int.reduceLT, reduceCtorEq, e, k0, k1, h5, hm, hle, hlt2, hb1, hb2, hb3, ht1, hl1, ht2, hl2, ht3, ht4, hsm, hsi, hk, take_map_len, Int.sub_zero, List.drop_zero]
      | false =>
        have e : putI l x = l.take (putK l x) ++ x :: l.drop (putK l x) := by unfold putI; rw [ga, if_neg (by simpa using hc)]
        simp only [go_sem, ↓reduceIte, Nat.reduceEqDiff, Nat.reduceAdd, Nat.reduceMul, Nat.reduceBEq, Option.getD_none, Int.reduceToNat, Nat.reduceSub, Nat.reduceLT, Nat.reduceLeDiff, Int.reduceLE, Int.reduceLT, reduceCtorEq, ← List.map_take, ← List.map_drop, allSc, Nat.zero_le, List.take_length, List.length_drop, Int.le_refl, k0, k1, h5, hm, hle, hlt2, hb1, hb2, hb3, ht1, hl1, ht2, hl2, ht3, ht4, hsm, hsi, hk, take_map_len, Int.sub_zero, List.drop_zero]
        rw [e]
        simp
    · have hi' : ¬ (putK l x : Int) < l.length := by omega
      have e : putI l x = l.take (putK l x) ++ x :: l.drop (putK l x) := by
        unfold putI
        rw [List.getElem?_eq_none (by omega), if_neg (by simp)]
      simp only [go_sem, ↓reduceIte, Nat.reduceEqDiff, Nat.reduceAdd, Nat.reduceMul, Nat.reduceBEq, Option.getD_none, Int.reduceToNat, Nat.reduceSub, Nat.reduceLT, Nat.reduceLeDiff, Int.reduceLE, Int.reduceLT, reduceCtorEq, hi', ← List.map_take, ← List.map_drop, allSc, Nat.zero_le, List.take_length, List.length_drop, Int.le_refl, k0, k1, h5, hm, hle, hlt2, hb1, hb2, hb3, ht1, hl1, ht2, hl2, ht3, ht4, hsm, hsi, hk, take_map_len, Int.sub_zero, List.drop_zero]
      rw [e]
      simp
end Go.Vm.Ytdembjfpgfaheaa
/- Walks: do rules hold among facts? -/
namespace Go.Vm.Ytdembjfpgfaheaa
open Go Go.Vm
set_option maxRecDepth 10000
set_option maxHeartbeats 4000000
set_option linter.unusedSimpArgs false
set_option linter.unusedVariables false

end Go.Vm.Ytdembjfpgfaheaa
/- Plain law: the least facts. -/
namespace Go.Vm.Ytdembjfpgfaheaa
open Go Go.Vm
set_option maxRecDepth 10000
set_option maxHeartbeats 4000000
set_option linter.unusedSimpArgs false
set_option linter.unusedVariables false

theorem mem_putI {l : List Int} {x y : Int} : y ∈ putI l x ↔ y = x ∨ y ∈ l := by
  unfold putI
  split
  · rename_i h
    have := List.mem_of_getElem? h
    constructor
    · exact .inr
    · rintro (rfl | h)
      · exact this
      · exact h
  · rw [List.mem_append, List.mem_cons]
    have : y ∈ l ↔ y ∈ l.take (putK l x) ∨ y ∈ l.drop (putK l x) := by rw [← List.mem_append, List.take_append_drop]
    rw [this]
    constructor
    · rintro (h | rfl | h)
      · exact .inr (.inl h)
      · exact .inl rfl
      · exact .inr (.inr h)
    · rintro (rfl | h | h)
      · exact .inr (.inl rfl)
      · exact .inl h
      · exact .inr (.inr h)
theorem hasI_iff {l : List Int} {x : Int} : hasI l x = true ↔ x ∈ l := by
  unfold hasI
  rw [List.any_eq_true]
  exact ⟨fun ⟨y, h, e⟩ => by rw [← (by simpa using e : y = x)]; exact h, fun h => ⟨x, h, by simp⟩⟩
theorem hasI_put {l : List Int} {x y : Int} : hasI (putI l x) y = (decide (y = x) || hasI l y) := by
  rw [Bool.eq_iff_iff, hasI_iff, mem_putI, Bool.or_eq_true, decide_eq_true_eq, hasI_iff]
/-- how many are not there -/
def lackN (n : Nat) (so : List Int) : Nat := ((List.range (n + 1)).filter fun (i : Nat) => !hasI so (i : Int)).length
theorem filter_lt {α : Type} {p q : α → Bool} {l : List α} {z : α} (hz : z ∈ l) (hp : p z = true) (hq : q z = false) (h : ∀ y, q y = true → p y = true) : (l.filter q).length < (l.filter p).length := by
  have e : l.filter q = (l.filter p).filter q := by
    rw [List.filter_filter]
    refine List.filter_congr fun y _ => ?_
    cases hh : q y with
    | false => simp
    | true => simp [h y hh]
  rw [e]
  exact List.length_filter_lt_length_iff_exists.2 ⟨z, List.mem_filter.2 ⟨hz, hp⟩, by simp [hq]⟩
theorem lack_put {n : Nat} {so : List Int} {x : Int} (hx : 0 ≤ x ∧ x ≤ n) (h : hasI so x = false) : lackN n (putI so x) + 1 ≤ lackN n so := by
  unfold lackN
  have e : ((x.toNat : Nat) : Int) = x := by omega
  refine Nat.succ_le_of_lt (filter_lt (z := x.toNat) (by simp; omega) ?_ ?_ fun y hy => ?_)
  · rw [e, h]; rfl
  · rw [e, hasI_put]; simp
  · rw [hasI_put] at hy; simp at hy; simp [hy.2]
theorem lack_le {n : Nat} {so : List Int} : lackN n so ≤ n + 1 := by
  unfold lackN
  exact Nat.le_trans (List.length_filter_le _ _) (by simp)
/-- a rule that gives a new fact -/
def readyR (so : List Int) (r : RuleD) : Bool := decide (r.thn > 0) && !hasI so r.thn && r.ifs.all (hasI so)
def ruleAt (l : List RuleD) (i : Nat) : RuleD := l.getD i ⟨[], 0⟩
def leastI (l : List RuleD) : Nat → List Int → List Int → List Int × List Int
  | 0, so, ap => (so, ap)
  | f + 1, so, ap => match l.findIdx? (readyR so) with
    | none => (so, ap)
    | some i => leastI l f (putI so (ruleAt l i).thn) (ap ++ [(i : Int)])
theorem ruleAt_get {l : List RuleD} {i : Nat} (h : i < l.length) : ruleAt l i = l[i] := by
  unfold ruleAt; rw [List.getD_eq_getElem?_getD, List.getElem?_eq_getElem h]; rfl
theorem ready_at {l : List RuleD} {so : List Int} {i : Nat} (h : l.findIdx? (readyR so) = some i) : i < l.length ∧ readyR so (ruleAt l i) = true := by
  rw [List.findIdx?_eq_some_iff_getElem] at h
  obtain ⟨hi, h, _⟩ := h
  exact ⟨hi, by rw [ruleAt_get hi]; exact h⟩
theorem ready_thn {so : List Int} {r : RuleD} (h : readyR so r = true) : 0 < r.thn ∧ hasI so r.thn = false := by
  simp only [readyR, Bool.and_eq_true, decide_eq_true_eq, Bool.not_eq_true'] at h
  exact ⟨h.1.1, h.1.2⟩
theorem ready_lack {n : Nat} {l : List RuleD} {so : List Int} {i : Nat} (hr : ∀ r ∈ l, r.thn ≤ n) (h : l.findIdx? (readyR so) = some i) : lackN n (putI so (ruleAt l i).thn) + 1 ≤ lackN n so := by
  obtain ⟨hi, h⟩ := ready_at h
  have := ready_thn h
  exact lack_put ⟨by omega, hr _ (by rw [ruleAt_get hi]; exact List.getElem_mem hi)⟩ this.2
theorem least_fuel {n : Nat} {l : List RuleD} (hr : ∀ r ∈ l, r.thn ≤ n) : ∀ (f g : Nat) (so ap : List Int), lackN n so ≤ f → lackN n so ≤ g → leastI l f so ap = leastI l g so ap := by
  intro f
  induction f with
  | zero =>
    intro g so ap hf hg
    cases g with
    | zero => rfl
    | succ g =>
      simp only [leastI]
      cases h : l.findIdx? (readyR so) with
      | none => rfl
      | some i => have := ready_lack hr h; omega
  | succ f ih =>
    intro g so ap hf hg
    cases g with
    | zero =>
      simp only [leastI]
      cases h : l.findIdx? (readyR so) with
      | none => rfl
      | some i => have := ready_lack hr h; omega
    | succ g =>
      simp only [leastI]
      cases h : l.findIdx? (readyR so) with
      | none => rfl
      | some i =>
        have := ready_lack hr h
        exact ih g _ _ (by omega) (by omega)
/-- the least facts and what was applied -/
def leastP (l : List RuleD) : List Int × List Int := leastI l 14 [] []
theorem least_step {n : Nat} {l : List RuleD} (hn : n ≤ 12) (hr : ∀ r ∈ l, r.thn ≤ n) {so ap : List Int} {i : Nat} (h : l.findIdx? (readyR so) = some i) : leastI l 14 (putI so (ruleAt l i).thn) (ap ++ [(i : Int)]) = leastI l 14 so ap := by
  have h1 : leastI l 15 so ap = leastI l 14 (putI so (ruleAt l i).thn) (ap ++ [(i : Int)]) := by simp only [leastI, h]
  have hl := lack_le (n := n) (so := so)
  rw [← h1]
  exact least_fuel hr _ _ _ _ (by omega) (by omega)
/-- what is known all along -/
structure LeastOk (n : Nat) (l : List RuleD) (so ap : List Int) : Prop where
  same : leastI l 14 so ap = leastP l
  sort : so = listI (n + 1) fun i => hasI so (i : Int)
  few : so.length ≤ ap.length
  left : ap.length + lackN n so ≤ n + 1
  apl : ∀ i ∈ ap, 0 ≤ i ∧ i < l.length ∧ 0 < (ruleAt l i.toNat).thn
theorem LeastOk.start {n : Nat} {l : List RuleD} : LeastOk n l [] [] where
  same := rfl
  sort := by
    have : listI (n + 1) (fun i => hasI [] (i : Int)) = [] := by
      unfold listI; rw [List.filter_eq_nil_iff.2 (by intro i _; simp [hasI])]; rfl
    rw [this]
  few := by simp
  left := by have := lack_le (n := n) (so := []); simpa using this
  apl := by simp
theorem LeastOk.next {n : Nat} {l : List RuleD} {so ap : List Int} (hn : n ≤ 12) (hr : ∀ r ∈ l, r.thn ≤ n) (h : LeastOk n l so ap) {i : Nat} (hi : l.findIdx? (readyR so) = some i) : LeastOk n l (putI so (ruleAt l i).thn) (ap ++ [(i : Int)]) where
  same := by rw [least_step hn hr hi]; exact h.same
  sort := by
    obtain ⟨h1, h2⟩ := ready_at hi
    have h3 := ready_thn h2
    have h4 : (ruleAt l i).thn ≤ n := hr _ (by rw [ruleAt_get h1]; exact List.getElem_mem h1)
    have hp := putI_list (n := n + 1) (p := fun i => hasI so (i : Int)) (x := (ruleAt l i).thn.toNat) (by omega)
    rw [← h.sort, show (((ruleAt l i).thn.toNat : Nat) : Int) = (ruleAt l i).thn by omega] at hp
    rw [hp]
    refine listI_congr fun j hj => ?_
    rw [← hp, hasI_put]
    by_cases e : j = (ruleAt l i).thn.toNat
    · rw [if_pos e]; simp; omega
    · rw [if_neg e]
      have : ¬ ((j : Int) = (ruleAt l i).thn) := by omega
      simp [this]
  few := by have := putI_len so (ruleAt l i).thn; have := h.few; simp; omega
  left := by have := ready_lack hr hi; have := h.left; simp; omega
  apl := fun j hj => by
    rcases List.mem_append.1 hj with hj | hj
    · exact h.apl j hj
    · obtain ⟨h1, h2⟩ := ready_at hi
      have : j = i := by simpa using hj
      subst this
      exact ⟨by omega, by omega, by rw [Int.toNat_natCast]; exact (ready_thn h2).1⟩
theorem LeastOk.len {n : Nat} {l : List RuleD} {so ap : List Int} (h : LeastOk n l so ap) (hn : n ≤ 12) : so.length ≤ 13 ∧ ap.length ≤ 13 := by
  have := h.few; have := h.left; omega
end Go.Vm.Ytdembjfpgfaheaa
/- Walks: the least facts. -/
namespace Go.Vm.Ytdembjfpgfaheaa
open Go Go.Vm
set_option maxRecDepth 10000
set_option maxHeartbeats 4000000
set_option linter.unusedSimpArgs false
set_option linter.unusedVariables false

end Go.Vm.Ytdembjfpgfaheaa
/- Walks: the least facts by the reference; why a fact holds. -/
namespace Go.Vm.Ytdembjfpgfaheaa
open Go Go.Vm
set_option maxRecDepth 10000
set_option maxHeartbeats 4000000
set_option linter.unusedSimpArgs false
set_option linter.unusedVariables false

end Go.Vm.Ytdembjfpgfaheaa
/- Walks: literals and clauses. -/
namespace Go.Vm.Ytdembjfpgfaheaa
open Go Go.Vm
set_option maxRecDepth 10000
set_option maxHeartbeats 4000000
set_option linter.unusedSimpArgs false
set_option linter.unusedVariables false

end Go.Vm.Ytdembjfpgfaheaa
/- Walks: rules as clauses. -/
namespace Go.Vm.Ytdembjfpgfaheaa
open Go Go.Vm
set_option maxRecDepth 10000
set_option maxHeartbeats 4000000
set_option linter.unusedSimpArgs false
set_option linter.unusedVariables false

theorem slices_Index__sint_int.fc (l : List Int) (x : Int) (hl : l.length ≤ 4294967296) : FCt prog F_slices_Index__sint_int [.ro, .ro] [ints l, Ii x] (Ii (idxB (fun y => x == y) l)) [] := by
  refine fct_run slices_Index__sint_int.ok rfl ?_
  simp only [go_sem, ↓reduceIte, Nat.reduceEqDiff, Nat.reduceAdd, Nat.reduceMul, Nat.reduceBEq, Option.getD_none, Int.reduceToNat, Nat.reduceSub, Nat.reduceLT, Nat.reduceLeDiff, Int.reduceLE, Int.reduceLT, reduceCtorEq]
  refine R_loop (α := Nat) (fun k s' M' => k ≤ l.length ∧ s' 8 = aI k ∧ (l.take k).all (fun y => !(x == y)) = true) (fun k => l.length - k) 0 ⟨by omega, by simp only [go_sem, ↓reduceIte, Nat.reduceEqDiff, Nat.reduceAdd, Nat.reduceMul, Nat.reduceBEq, Option.getD_none, Int.reduceToNat, Nat.reduceSub, Nat.reduceLT, Nat.reduceLeDiff, Int.reduceLE, Int.reduceLT, reduceCtorEq]; rfl, by simp⟩ ?_
  rintro k s' M' ⟨hk, h8, hr⟩ ho
  unfold slices_Index__sint_int.b0
  have k0 : s' 0 = .dat none (ints l) := by rw [ho 0 rfl]; simp only [go_sem, ↓reduceIte, Nat.reduceEqDiff, Nat.reduceAdd, Nat.reduceMul, Nat.reduceBEq, Option.getD_none, Int.reduceToNat, Nat.reduceSub, Nat.reduceLT, Nat.reduceLeDiff, Int.reduceLE, Int.reduceLT, reduceCtorEq]
  have k1 : s' 1 = aI x := by rw [ho 1 rfl]; simp only [go_sem, ↓reduceIte, Nat.reduceEqDiff, Nat.reduceAdd, Nat.reduceMul, Nat.reduceBEq, Option.getD_none, Int.reduceToNat, Nat.reduceSub, Nat.reduceLT, Nat.reduceLeDiff, Int.reduceLE, Int.reduceLT, reduceCtorEq]
  have k7 : s' 7 = aI l.length := by rw [ho 7 rfl]; simp only [go_sem, ↓reduceIte, Nat.reduceEqDiff, Nat.reduceAdd, Nat.reduceMul, Nat.reduceBEq, Option.getD_none, Int.reduceToNat, Nat.reduceSub, Nat.reduceLT, Nat.reduceLeDiff, Int.reduceLE, Int.reduceLT, reduceCtorEq]
  clear ho
  by_cases hlt : k < l.length
  · have hi' : (k : Int) < l.length := by omega
    have ga : l[k]? = some l[k] := List.getElem?_eq_getElem hlt
    have hw : IntKind.i64.wrap (k + 1) = ((k + 1 : Nat) : Int) := wrap_k hlt (by omega)
    simp only [go_sem, ↓reduceIte, Nat.reduceEqDiff, Nat.reduceAdd, Nat.reduceMul, Nat.reduceBEq, Option.getD_none, Int.reduceToNat, Nat.reduceSub, Nat.reduceLT, Nat.reduceLeDiff, Int.reduceLE, Int.reduceLT, reduceCtorEq, hi', ga, k0, k1, k7, h8]
    cases hc : (x == l[k]) with
    | true => simp only [go_sem, ↓reduceIte, Nat.reduceEqDiff, Nat.reduceAdd, Nat.reduceMul, Nat.reduceBEq, Option.getD_none, Int.reduceToNat, Nat.reduceSub, Nat.reduceLT, Nat.reduceLeDiff, Int.reduceLE, Int.reduceLT, reduceCtorEq, idxB_some (p := fun y => x == y) hlt hr hc, k0, k1, k7, h8]
    | false =>
      simp only [go_sem, ↓reduceIte, Nat.reduceEqDiff, Nat.reduceAdd, Nat.reduceMul, Nat.reduceBEq, Option.getD_none, Int.reduceToNat, Nat.reduceSub, Nat.reduceLT, Nat.reduceLeDiff, Int.reduceLE, Int.reduceLT, reduceCtorEq, hw, k0, k1, k7, h8]
      exact ⟨k + 1, by dsimp only; omega, by omega, by simp only [go_sem, ↓reduceIte, Nat.reduceEqDiff, Nat.reduceAdd, Nat.reduceMul, Nat.reduceBEq, Option.getD_none, Int.reduceToNat, Nat.reduceSub, Nat.reduceLT, Nat.reduceLeDiff, Int.reduceLE, Int.reduceLT, reduceCtorEq, k0, k1, k7, h8], all_take hlt hr (by rw [hc]; rfl)⟩
  · have hi' : ¬ (k : Int) < l.length := by omega
    obtain rfl : k = l.length := by omega
    rw [List.take_length] at hr
    simp only [go_sem, ↓reduceIte, Nat.reduceEqDiff, Nat.reduceAdd, Nat.reduceMul, Nat.reduceBEq, Option.getD_none, Int.reduceToNat, Nat.reduceSub, Nat.reduceLT, Nat.reduceLeDiff, Int.reduceLE, Int.reduceLT, reduceCtorEq, hi', idxB_none hr, k0, k1, k7, h8]
theorem slices_Contains__sint_int.fc (l : List Int) (x : Int) (hl : l.length ≤ 4294967296) : FCt prog F_slices_Contains__sint_int [.ro, .ro] [ints l, Ii x] (Bb (l.any (· == x))) [] := by
  refine fct_run slices_Contains__sint_int.ok rfl ?_
  have e : l.any (fun y => x == y) = l.any (· == x) := by congr 1; funext y; rw [Bool.beq_comm]
  simp only [go_sem, ↓reduceIte, Nat.reduceEqDiff, Nat.reduceAdd, Nat.reduceMul, Nat.reduceBEq, Option.getD_none, Int.reduceToNat, Nat.reduceSub, Nat.reduceLT, Nat.reduceLeDiff, Int.reduceLE, Int.reduceLT, reduceCtorEq]
  refine fcW_int (slices_Index__sint_int.fc l x hl) ?_
  simp only [go_sem, ↓reduceIte, Nat.reduceEqDiff, Nat.reduceAdd, Nat.reduceMul, Nat.reduceBEq, Option.getD_none, Int.reduceToNat, Nat.reduceSub, Nat.reduceLT, Nat.reduceLeDiff, Int.reduceLE, Int.reduceLT, reduceCtorEq, ge_iff_le, idxB_any, e]

end Go.Vm.Ytdembjfpgfaheaa
/- Walks: copies, and what is struck out of a row. -/
namespace Go.Vm.Ytdembjfpgfaheaa
open Go Go.Vm
set_option maxRecDepth 10000
set_option maxHeartbeats 4000000
set_option linter.unusedSimpArgs false
set_option linter.unusedVariables false

end Go.Vm.Ytdembjfpgfaheaa
/- Walks: what two sets of facts share; Horn clauses. -/
namespace Go.Vm.Ytdembjfpgfaheaa
open Go Go.Vm
set_option maxRecDepth 10000
set_option maxHeartbeats 4000000
set_option linter.unusedSimpArgs false
set_option linter.unusedVariables false

end Go.Vm.Ytdembjfpgfaheaa
/- Walks: the laws' own helpers for what may be. -/
namespace Go.Vm.Ytdembjfpgfaheaa
open Go Go.Vm
set_option maxRecDepth 10000
set_option maxHeartbeats 4000000
set_option linter.unusedSimpArgs false
set_option linter.unusedVariables false

abbrev strD (x : (Int × Int)) : D := .agg [Ii x.1, Ii x.2]
abbrev knownD (x : (Int × Int)) : D := .agg [Ii x.1, Ii x.2]
abbrev strs (l : List (Int × Int)) : D := .sl 2 (l.map strD)
abbrev knowns (l : List (Int × Int)) : D := .sl 2 (l.map knownD)
def mkBoolS (n : Int) (l : List Bool) : List Bool := (List.range l.length).map fun (i : Nat) => (n + (i : Int)).tmod 3 == 0
theorem mkBoolS_len {n : Int} {l : List Bool} : (mkBoolS n l).length = l.length := by simp [mkBoolS]
theorem mkBoolS_take {n : Int} {l : List Bool} : ((mkBoolS n l).map Bb).take l.length = (mkBoolS n l).map Bb := List.take_of_length_le (by simp [mkBoolS_len])
theorem hasBoolS {d : D} (h : HasTy (.sl .bool) d) : ∃ l : List Bool, d = bools l ∧ l.length ≤ 9223372036854775807 := by
  obtain ⟨l, rfl, hl, hp⟩ := hasSl (f := Bb) (p := fun x => True) (fun x h => by obtain ⟨a, rfl⟩ := hasBool h; exact ⟨a, rfl, trivial⟩) h
  exact ⟨l, rfl, hl⟩
theorem laws_toBoolS.fcu (x : List Bool) (h : x.length ≤ 1048576) :
    FCt prog F_laws_toBoolS [.ro] [bools x] (bools x) [] := by
  refine fct_run laws_toBoolS.ok rfl ?_
  have h0 := h
  have c1 : (x.length : Int) * (1 : Nat) ≤ 70368744177664 := by omega
  simp only [go_sem, ↓reduceIte, Nat.reduceEqDiff, Nat.reduceAdd, Nat.reduceMul, Nat.reduceBEq, Option.getD_none, Int.reduceToNat, Nat.reduceSub, Nat.reduceLT, Nat.reduceLeDiff, Int.reduceLE, Int.reduceLT, reduceCtorEq, Int.le_refl, c1]
  refine R_loop (α := Nat) (fun k s' M' => k ≤ x.length ∧ s' 4 = aI k ∧ ∃ v, s' 3 = .sl 256 v 0 x.length 1 ∧ M'.m 256 = some (.arr v true 1 (fill Bb (Bb false) x k))) (fun k => x.length - k) 0
    ⟨by omega, by simp only [go_sem, ↓reduceIte, Nat.reduceEqDiff, Nat.reduceAdd, Nat.reduceMul, Nat.reduceBEq, Option.getD_none, Int.reduceToNat, Nat.reduceSub, Nat.reduceLT, Nat.reduceLeDiff, Int.reduceLE, Int.reduceLT, reduceCtorEq]; rfl, _, by simp only [go_sem, ↓reduceIte, Nat.reduceEqDiff, Nat.reduceAdd, Nat.reduceMul, Nat.reduceBEq, Option.getD_none, Int.reduceToNat, Nat.reduceSub, Nat.reduceLT, Nat.reduceLeDiff, Int.reduceLE, Int.reduceLT, reduceCtorEq]; rfl, by simp only [go_sem, ↓reduceIte, Nat.reduceEqDiff, Nat.reduceAdd, Nat.reduceMul, Nat.reduceBEq, Option.getD_none, Int.reduceToNat, Nat.reduceSub, Nat.reduceLT, Nat.reduceLeDiff, Int.reduceLE, Int.reduceLT, reduceCtorEq]; rw [fill_zero]⟩ ?_
  rintro k s' M' ⟨hk, h4, v, h3, hm⟩ ho
  unfold laws_toBoolS.b0
  have k0 : s' 0 = .dat none (bools x) := by rw [ho 0 rfl]; simp only [go_sem, ↓reduceIte, Nat.reduceEqDiff, Nat.reduceAdd, Nat.reduceMul, Nat.reduceBEq, Option.getD_none, Int.reduceToNat, Nat.reduceSub, Nat.reduceLT, Nat.reduceLeDiff, Int.reduceLE, Int.reduceLT, reduceCtorEq]
  clear ho
  by_cases hlt : k < x.length
  · have hi' : (k : Int) < x.length := by omega
    have ga : x[k]? = some x[k] := List.getElem?_eq_getElem hlt
    have hw : IntKind.i64.wrap (k + 1) = ((k + 1 : Nat) : Int) := wrap_k hlt (by omega)
    have hf := fill_get (f := Bb) (z := (Bb false)) hlt
    simp only [go_sem, ↓reduceIte, Nat.reduceEqDiff, Nat.reduceAdd, Nat.reduceMul, Nat.reduceBEq, Option.getD_none, Int.reduceToNat, Nat.reduceSub, Nat.reduceLT, Nat.reduceLeDiff, Int.reduceLE, Int.reduceLT, reduceCtorEq, h4, h3, hi', ga, hw, hm, hf, k0]
    refine ⟨k + 1, by dsimp only; omega, by omega, by simp only [go_sem, ↓reduceIte, Nat.reduceEqDiff, Nat.reduceAdd, Nat.reduceMul, Nat.reduceBEq, Option.getD_none, Int.reduceToNat, Nat.reduceSub, Nat.reduceLT, Nat.reduceLeDiff, Int.reduceLE, Int.reduceLT, reduceCtorEq, k0], v, by simp only [go_sem, ↓reduceIte, Nat.reduceEqDiff, Nat.reduceAdd, Nat.reduceMul, Nat.reduceBEq, Option.getD_none, Int.reduceToNat, Nat.reduceSub, Nat.reduceLT, Nat.reduceLeDiff, Int.reduceLE, Int.reduceLT, reduceCtorEq, h3, k0], by simp only [go_sem, ↓reduceIte, Nat.reduceEqDiff, Nat.reduceAdd, Nat.reduceMul, Nat.reduceBEq, Option.getD_none, Int.reduceToNat, Nat.reduceSub, Nat.reduceLT, Nat.reduceLeDiff, Int.reduceLE, Int.reduceLT, reduceCtorEq, k0]; rw [← fill_set hlt]⟩
  · have hi' : ¬ (k : Int) < x.length := by omega
    obtain rfl : k = x.length := by omega
    have hlen := fill_len (f := Bb) (z := (Bb false)) (Nat.le_refl x.length)
    simp only [go_sem, ↓reduceIte, Nat.reduceEqDiff, Nat.reduceAdd, Nat.reduceMul, Nat.reduceBEq, Option.getD_none, Int.reduceToNat, Nat.reduceSub, Nat.reduceLT, Nat.reduceLeDiff, Int.reduceLE, Int.reduceLT, reduceCtorEq, h4, h3, hi', hm, hlen, k0]
    simp only [fill_all, mkR_one, take_map_len]
theorem laws_eqBoolS.fcu (x : List Bool) (h : x.length ≤ 1048576) :
    FCt prog F_laws_eqBoolS [.ro, .ro] [bools x, bools x] (Bb true) [] := by
  refine fct_run laws_eqBoolS.ok rfl ?_
  have h0 := h
  simp only [go_sem, ↓reduceIte, Nat.reduceEqDiff, Nat.reduceAdd, Nat.reduceMul, Nat.reduceBEq, Option.getD_none, Int.reduceToNat, Nat.reduceSub, Nat.reduceLT, Nat.reduceLeDiff, Int.reduceLE, Int.reduceLT, reduceCtorEq]
  refine R_loop (α := Nat) (fun k s' M' => k ≤ x.length ∧ s' 5 = aI k) (fun k => x.length - k) 0 ⟨by omega, by simp only [go_sem, ↓reduceIte, Nat.reduceEqDiff, Nat.reduceAdd, Nat.reduceMul, Nat.reduceBEq, Option.getD_none, Int.reduceToNat, Nat.reduceSub, Nat.reduceLT, Nat.reduceLeDiff, Int.reduceLE, Int.reduceLT, reduceCtorEq]; rfl⟩ ?_
  rintro k s' M' ⟨hk, h5⟩ ho
  unfold laws_eqBoolS.b0
  have k0 : s' 0 = .dat none (bools x) := by rw [ho 0 rfl]; simp only [go_sem, ↓reduceIte, Nat.reduceEqDiff, Nat.reduceAdd, Nat.reduceMul, Nat.reduceBEq, Option.getD_none, Int.reduceToNat, Nat.reduceSub, Nat.reduceLT, Nat.reduceLeDiff, Int.reduceLE, Int.reduceLT, reduceCtorEq]
  have k1 : s' 1 = .dat none (bools x) := by rw [ho 1 rfl]; simp only [go_sem, ↓reduceIte, Nat.reduceEqDiff, Nat.reduceAdd, Nat.reduceMul, Nat.reduceBEq, Option.getD_none, Int.reduceToNat, Nat.reduceSub, Nat.reduceLT, Nat.reduceLeDiff, Int.reduceLE, Int.reduceLT, reduceCtorEq]
  clear ho
  by_cases hlt : k < x.length
  · have hi' : (k : Int) < x.length := by omega
    have ga : x[k]? = some x[k] := List.getElem?_eq_getElem hlt
    have hw : IntKind.i64.wrap (k + 1) = ((k + 1 : Nat) : Int) := wrap_k hlt (by omega)
    have hbb : (x[k] == x[k]) = true := by simp
    simp only [go_sem, ↓reduceIte, Nat.reduceEqDiff, Nat.reduceAdd, Nat.reduceMul, Nat.reduceBEq, Option.getD_none, Int.reduceToNat, Nat.reduceSub, Nat.reduceLT, Nat.reduceLeDiff, Int.reduceLE, Int.reduceLT, reduceCtorEq, h5, hi', ga, hw, hbb, k0, k1]
    exact ⟨k + 1, by dsimp only; omega, by omega, by simp only [go_sem, ↓reduceIte, Nat.reduceEqDiff, Nat.reduceAdd, Nat.reduceMul, Nat.reduceBEq, Option.getD_none, Int.reduceToNat, Nat.reduceSub, Nat.reduceLT, Nat.reduceLeDiff, Int.reduceLE, Int.reduceLT, reduceCtorEq, k0, k1]⟩
  · have hi' : ¬ (k : Int) < x.length := by omega
    obtain rfl : k = x.length := by omega
    simp only [go_sem, ↓reduceIte, Nat.reduceEqDiff, Nat.reduceAdd, Nat.reduceMul, Nat.reduceBEq, Option.getD_none, Int.reduceToNat, Nat.reduceSub, Nat.reduceLT, Nat.reduceLeDiff, Int.reduceLE, Int.reduceLT, reduceCtorEq, h5, hi', k0, k1]
theorem laws_szBoolS.fcu (x : List Bool) (n : Int) (hn : 0 ≤ n ∧ n ≤ 1048576) (hw : x.length ≤ 9223372036854775807) :
    FCt prog F_laws_szBoolS [.ro, .ro] [bools x, Ii n] (Ii (if n < (x.length : Nat) then -1 else n - (x.length : Nat))) [] := by
  refine fct_run laws_szBoolS.ok rfl ?_
  have hx : IntKind.i64.wrap (n - x.length) = n - x.length := wrap_in (by omega) (by omega)
  by_cases h : n < (x.length : Nat)
  · have h' : n - x.length < 0 := by omega
    simp only [go_sem, ↓reduceIte, Nat.reduceEqDiff, Nat.reduceAdd, Nat.reduceMul, Nat.reduceBEq, Option.getD_none, Int.reduceToNat, Nat.reduceSub, Nat.reduceLT, Nat.reduceLeDiff, Int.reduceLE, Int.reduceLT, reduceCtorEq, hx, h, h']
  · have h' : ¬ n - x.length < 0 := by omega
    simp only [go_sem, ↓reduceIte, Nat.reduceEqDiff, Nat.reduceAdd, Nat.reduceMul, Nat.reduceBEq, Option.getD_none, Int.reduceToNat, Nat.reduceSub, Nat.reduceLT, Nat.reduceLeDiff, Int.reduceLE, Int.reduceLT, reduceCtorEq, hx, h, h']

theorem laws_markBoolS.fcu (x : List Bool) (n : Int) (h : x.length ≤ 1048576) (hc : x.length ≤ 16777216) (hn : 0 ≤ n ∧ n + (x.length : Nat) ≤ 576460752303423488) :
    FCt prog F_laws_markBoolS [.io, .ro] [bools x, Ii n] (Ii (n + (x.length : Nat))) [bools (mkBoolS n x)] := by
  refine fct_run laws_markBoolS.ok rfl ?_
  have hL : ((mkBoolS n x).map Bb).length = (x.map Bb).length := by simp [mkBoolS_len]
  simp only [go_sem, ↓reduceIte, Nat.reduceEqDiff, Nat.reduceAdd, Nat.reduceMul, Nat.reduceBEq, Option.getD_none, Int.reduceToNat, Nat.reduceSub, Nat.reduceLT, Nat.reduceLeDiff, Int.reduceLE, Int.reduceLT, reduceCtorEq]
  refine R_loop (α := Nat) (fun k s' M' => k ≤ x.length ∧ s' 5 = aI k ∧ s' 1 = aI (n + k) ∧ M'.m 0 = some (.arr 0 true 1 (ovr ((mkBoolS n x).map Bb) (x.map Bb) k))) (fun k => x.length - k) 0
    ⟨by omega, by simp only [go_sem, ↓reduceIte, Nat.reduceEqDiff, Nat.reduceAdd, Nat.reduceMul, Nat.reduceBEq, Option.getD_none, Int.reduceToNat, Nat.reduceSub, Nat.reduceLT, Nat.reduceLeDiff, Int.reduceLE, Int.reduceLT, reduceCtorEq]; rfl, by simp only [go_sem, ↓reduceIte, Nat.reduceEqDiff, Nat.reduceAdd, Nat.reduceMul, Nat.reduceBEq, Option.getD_none, Int.reduceToNat, Nat.reduceSub, Nat.reduceLT, Nat.reduceLeDiff, Int.reduceLE, Int.reduceLT, reduceCtorEq]; simp, by simp only [go_sem, ↓reduceIte, Nat.reduceEqDiff, Nat.reduceAdd, Nat.reduceMul, Nat.reduceBEq, Option.getD_none, Int.reduceToNat, Nat.reduceSub, Nat.reduceLT, Nat.reduceLeDiff, Int.reduceLE, Int.reduceLT, reduceCtorEq]; simp [ovr_zero]⟩ ?_
  rintro k s' M' ⟨hk, h5, h1, hm⟩ ho
  unfold laws_markBoolS.b0
  have k0 : s' 0 = .sl 0 0 0 x.length 1 := by rw [ho 0 rfl]; simp only [go_sem, ↓reduceIte, Nat.reduceEqDiff, Nat.reduceAdd, Nat.reduceMul, Nat.reduceBEq, Option.getD_none, Int.reduceToNat, Nat.reduceSub, Nat.reduceLT, Nat.reduceLeDiff, Int.reduceLE, Int.reduceLT, reduceCtorEq]
  clear ho
  by_cases hlt : k < x.length
  · have hi' : (k : Int) < x.length := by omega
    have ga : x[k]? = some x[k] := List.getElem?_eq_getElem hlt
    have hw : IntKind.i64.wrap (k + 1) = ((k + 1 : Nat) : Int) := wrap_k hlt (by omega)
    have hw1 : IntKind.i64.wrap (n + k + 1) = n + (k + 1 : Nat) := by rw [wrap_in (by omega) (by omega)]; try omega
    have hmk : (mkBoolS n x)[k]? = some (((n + (k : Int)).tmod 3 == 0)) := by simp [mkBoolS, hlt]
    have hg : (ovr ((mkBoolS n x).map Bb) (x.map Bb) k)[k]? = some (Bb x[k]) := by rw [ovr_get hL (by simpa using hlt)]; simp [hlt]
    have hkl : k < (ovr ((mkBoolS n x).map Bb) (x.map Bb) k).length := by rw [ovr_len hL (by simp; omega)]; simpa using hlt
    have hg2 : ∀ d, ((ovr ((mkBoolS n x).map Bb) (x.map Bb) k).set k d)[k]? = some d := fun d => by rw [List.getElem?_set, if_pos rfl, if_pos hkl]
    have hs : (ovr ((mkBoolS n x).map Bb) (x.map Bb) k).set k (.bool ((n + (k : Int)).tmod 3 == 0)) = ovr ((mkBoolS n x).map Bb) (x.map Bb) (k + 1) := ovr_set hL (by simpa using hlt) (by rw [List.getElem?_map, hmk]; rfl)
    simp only [go_sem, ↓reduceIte, Nat.reduceEqDiff, Nat.reduceAdd, Nat.reduceMul, Nat.reduceBEq, Option.getD_none, Int.reduceToNat, Nat.reduceSub, Nat.reduceLT, Nat.reduceLeDiff, Int.reduceLE, Int.reduceLT, reduceCtorEq, hi', hw, hw1, hg, hg2, List.set_set, hs, show ¬ (3 : Int) = 0 by omega, k0, h1, h5, hm]
    exact ⟨k + 1, by dsimp only; omega, by omega, by simp only [go_sem, ↓reduceIte, Nat.reduceEqDiff, Nat.reduceAdd, Nat.reduceMul, Nat.reduceBEq, Option.getD_none, Int.reduceToNat, Nat.reduceSub, Nat.reduceLT, Nat.reduceLeDiff, Int.reduceLE, Int.reduceLT, reduceCtorEq, k0, h1, h5, hm], by simp only [go_sem, ↓reduceIte, Nat.reduceEqDiff, Nat.reduceAdd, Nat.reduceMul, Nat.reduceBEq, Option.getD_none, Int.reduceToNat, Nat.reduceSub, Nat.reduceLT, Nat.reduceLeDiff, Int.reduceLE, Int.reduceLT, reduceCtorEq, k0, h1, h5, hm], by simp only [go_sem, ↓reduceIte, Nat.reduceEqDiff, Nat.reduceAdd, Nat.reduceMul, Nat.reduceBEq, Option.getD_none, Int.reduceToNat, Nat.reduceSub, Nat.reduceLT, Nat.reduceLeDiff, Int.reduceLE, Int.reduceLT, reduceCtorEq, k0, h1, h5, hm]⟩
  · have hi' : ¬ (k : Int) < x.length := by omega
    obtain rfl : k = x.length := by omega
    have hall : ovr ((mkBoolS n x).map Bb) (x.map Bb) x.length = (mkBoolS n x).map Bb := by have := ovr_all hL; simpa using this
    have htk : ((mkBoolS n x).map Bb).take x.length = (mkBoolS n x).map Bb := List.take_of_length_le (by simp [mkBoolS_len])
    have hce : ((x.length : Nat) : Int) = x.length := by omega
    simp only [go_sem, ↓reduceIte, Nat.reduceEqDiff, Nat.reduceAdd, Nat.reduceMul, Nat.reduceBEq, Option.getD_none, Int.reduceToNat, Nat.reduceSub, Nat.reduceLT, Nat.reduceLeDiff, Int.reduceLE, Int.reduceLT, reduceCtorEq, hi', hall, mkBoolS_len, htk, hce, k0, h1, h5, hm]
    try rfl
structure MayD where
  reg : List (Int × Int)
  bits : List (Int × Int)
  cell : List (Int × Int)
  isset : List Bool
  deriving DecidableEq
abbrev MayD.d (x : MayD) : D := .agg [strs x.reg, knowns x.bits, strs x.cell, bools x.isset]
end Go.Vm.Ytdembjfpgfaheaa
/- Walks: good may-states. -/
namespace Go.Vm.Ytdembjfpgfaheaa
open Go Go.Vm
set_option maxRecDepth 10000
set_option maxHeartbeats 4000000
set_option linter.unusedSimpArgs false
set_option linter.unusedVariables false

def gS (x : Int × Int) : Bool := goodS x.1 x.2
def gK (x : Int × Int) : Bool := goodK x.1 x.2
structure MayOk (m : MayD) : Prop where
  reg : m.reg.length = 6
  bits : m.bits.length = 6
  cell : m.cell.length = 16
  isset : m.isset.length = 16
  gr : ∀ x ∈ m.reg, gS x = true
  gb : ∀ x ∈ m.bits, gK x = true
  gc : ∀ x ∈ m.cell, gS x = true
end Go.Vm.Ytdembjfpgfaheaa
/- Walks: the may-state at the start. -/
namespace Go.Vm.Ytdembjfpgfaheaa
open Go Go.Vm
set_option maxRecDepth 10000
set_option maxHeartbeats 4000000
set_option linter.unusedSimpArgs false
set_option linter.unusedVariables false

end Go.Vm.Ytdembjfpgfaheaa
/- Walks: machines; is a machine among those that may be? -/
namespace Go.Vm.Ytdembjfpgfaheaa
open Go Go.Vm
set_option maxRecDepth 10000
set_option maxHeartbeats 4000000
set_option linter.unusedSimpArgs false
set_option linter.unusedVariables false

structure MachD where
  pc : Int
  regs : List Int
  cells : List Int
  isset : List Bool
  deriving DecidableEq
abbrev MachD.d (x : MachD) : D := .agg [Ii x.pc, ints x.regs, ints x.cells, bools x.isset]
structure MachOk (m : MachD) : Prop where
  pc : 0 ≤ m.pc ∧ m.pc ≤ 19
  regs : m.regs.length = 6
  cells : m.cells.length = 16
  isset : m.isset.length = 16
  wr : ∀ x ∈ m.regs, 0 ≤ x ∧ x ≤ 65535
  wc : ∀ x ∈ m.cells, 0 ≤ x ∧ x ≤ 65535
theorem all_range {p : Nat → Bool} {k : Nat} (h : (List.range k).all p = true) (h2 : p k = true) : (List.range (k + 1)).all p = true := by
  rw [List.range_succ, List.all_append, h]; simpa using h2
theorem not_range {p : Nat → Bool} {n k : Nat} (hk : k < n) (h2 : p k = false) : (List.range n).all p = false := by
  rw [← Bool.not_eq_true, List.all_eq_true]
  intro h
  have := h k (by simpa using hk)
  rw [h2] at this; cases this
end Go.Vm.Ytdembjfpgfaheaa
/- Walks: is a machine among those that may be (the reference). -/
namespace Go.Vm.Ytdembjfpgfaheaa
open Go Go.Vm
set_option maxRecDepth 10000
set_option maxHeartbeats 4000000
set_option linter.unusedSimpArgs false
set_option linter.unusedVariables false

end Go.Vm.Ytdembjfpgfaheaa
/- Bits of whole numbers: plain laws. -/
namespace Go.Vm.Ytdembjfpgfaheaa
open Go Go.Vm
set_option maxRecDepth 10000
set_option maxHeartbeats 4000000
set_option linter.unusedSimpArgs false
set_option linter.unusedVariables false

/-! ### as rows of 64 bits -/
end Go.Vm.Ytdembjfpgfaheaa
/- Walks: operations on words. -/
namespace Go.Vm.Ytdembjfpgfaheaa
open Go Go.Vm
set_option maxRecDepth 10000
set_option maxHeartbeats 4000000
set_option linter.unusedSimpArgs false
set_option linter.unusedVariables false

theorem cdW_not {A B : Prop} {t : Bool} (h1 : t = false → A) (h2 : t = true → B) : @cdW (some (!t)) ⟨A⟩ ⟨B⟩ := by
  cases t
  · exact h1 rfl
  · exact h2 rfl
theorem gdW_not {A B : Prop} {t b : Bool} (h1 : t = !b → A) (h2 : t = b → B) : @gdW (some (some (!t))) b ⟨A⟩ ⟨B⟩ := by
  cases t <;> cases b
  · exact h2 rfl
  · exact h1 rfl
  · exact h1 rfl
  · exact h2 rfl
end Go.Vm.Ytdembjfpgfaheaa
/- Walks: intervals. -/
namespace Go.Vm.Ytdembjfpgfaheaa
open Go Go.Vm
set_option maxRecDepth 10000
set_option maxHeartbeats 4000000
set_option linter.unusedSimpArgs false
set_option linter.unusedVariables false

end Go.Vm.Ytdembjfpgfaheaa
/- Walks: operations on intervals. -/
namespace Go.Vm.Ytdembjfpgfaheaa
open Go Go.Vm
set_option maxRecDepth 10000
set_option maxHeartbeats 8000000
set_option linter.unusedSimpArgs false
set_option linter.unusedVariables false

end Go.Vm.Ytdembjfpgfaheaa
/- Walks: known bits. -/
namespace Go.Vm.Ytdembjfpgfaheaa
open Go Go.Vm
set_option maxRecDepth 10000
set_option maxHeartbeats 8000000
set_option linter.unusedSimpArgs false
set_option linter.unusedVariables false

end Go.Vm.Ytdembjfpgfaheaa
/- Walks: operations on known bits. -/
namespace Go.Vm.Ytdembjfpgfaheaa
open Go Go.Vm
set_option maxRecDepth 10000
set_option maxHeartbeats 8000000
set_option linter.unusedSimpArgs false
set_option linter.unusedVariables false

end Go.Vm.Ytdembjfpgfaheaa
/- Walks: states are copied and joined. -/
namespace Go.Vm.Ytdembjfpgfaheaa
open Go Go.Vm
set_option maxRecDepth 10000
set_option maxHeartbeats 8000000
set_option linter.unusedSimpArgs false
set_option linter.unusedVariables false

structure MLen (m : MayD) : Prop where
  reg : m.reg.length = 6
  bits : m.bits.length = 6
  cell : m.cell.length = 16
  isset : m.isset.length = 16
theorem MayOk.len {m : MayD} (h : MayOk m) : MLen m := ⟨h.reg, h.bits, h.cell, h.isset⟩
section
variable {α : Type} {A B : List α} {k : Nat} {f : α → D}
end
end Go.Vm.Ytdembjfpgfaheaa
/- Walks: states are joined, if they are valid. -/
namespace Go.Vm.Ytdembjfpgfaheaa
open Go Go.Vm
set_option maxRecDepth 10000
set_option maxHeartbeats 8000000
set_option linter.unusedSimpArgs false
set_option linter.unusedVariables false

end Go.Vm.Ytdembjfpgfaheaa
/- Walks: steps. -/
namespace Go.Vm.Ytdembjfpgfaheaa
open Go Go.Vm
set_option maxRecDepth 10000
set_option maxHeartbeats 8000000
set_option linter.unusedSimpArgs false
set_option linter.unusedVariables false

structure StepD where
  kind : Int
  op : Int
  dst : Int
  src : Int
  imm : Int
  to : Int
  deriving DecidableEq
abbrev StepD.d (x : StepD) : D := .agg [Ii x.kind, Ii x.op, Ii x.dst, Ii x.src, Ii x.imm, Ii x.to]
abbrev TyStep : Ty := .st [(.int .i64), (.int .i64), (.int .i64), (.int .i64), (.int .i64), (.int .i64)]
theorem hasStep {d : D} (h : HasTy TyStep d) : ∃ x : StepD, d = StepD.d x ∧ True := by
  simp only [HasTy] at h
  obtain ⟨ys, rfl, h⟩ := h
  simp only [HasTys] at h
  obtain ⟨d0, s0, rfl, h0, d1, s1, rfl, h1, d2, s2, rfl, h2, d3, s3, rfl, h3, d4, s4, rfl, h4, d5, s5, rfl, h5, rfl⟩ := h
  obtain ⟨x0, rfl, _⟩ := hasInt h0
  obtain ⟨x1, rfl, _⟩ := hasInt h1
  obtain ⟨x2, rfl, _⟩ := hasInt h2
  obtain ⟨x3, rfl, _⟩ := hasInt h3
  obtain ⟨x4, rfl, _⟩ := hasInt h4
  obtain ⟨x5, rfl, _⟩ := hasInt h5
  exact ⟨⟨x0, x1, x2, x3, x4, x5⟩, rfl, trivial⟩
theorem laws_toStep.fcu (x : StepD) :
    FCt prog F_laws_toStep [.ro] [StepD.d x] (StepD.d x) [] := by
  refine fct_run laws_toStep.ok rfl ?_
  simp only [go_sem, ↓reduceIte, Nat.reduceEqDiff, Nat.reduceAdd, Nat.reduceMul, Nat.reduceBEq, Option.getD_none, Int.reduceToNat, Nat.reduceSub, Nat.reduceLT, Nat.reduceLeDiff, Int.reduceLE, Int.reduceLT, reduceCtorEq]
theorem laws_eqStep.fcu (x : StepD) :
    FCt prog F_laws_eqStep [.ro, .ro] [StepD.d x, StepD.d x] (Bb true) [] := by
  refine fct_run laws_eqStep.ok rfl ?_
  simp only [go_sem, ↓reduceIte, Nat.reduceEqDiff, Nat.reduceAdd, Nat.reduceMul, Nat.reduceBEq, Option.getD_none, Int.reduceToNat, Nat.reduceSub, Nat.reduceLT, Nat.reduceLeDiff, Int.reduceLE, Int.reduceLT, reduceCtorEq]

abbrev steps (l : List StepD) : D := .sl 6 (l.map StepD.d)
theorem noRs_steps {l : List StepD} : noRs (steps l) = true := noRs_sl (by
  intro d hd
  obtain ⟨x, _, rfl⟩ := List.mem_map.1 hd
  exact rfl)
def mkStepS (n : Int) (l : List StepD) : List StepD := (List.range l.length).map fun (i : Nat) => ⟨n + 6 * (i : Int), n + 6 * (i : Int) + 1, n + 6 * (i : Int) + 2, n + 6 * (i : Int) + 3, n + 6 * (i : Int) + 4, n + 6 * (i : Int) + 5⟩
theorem mkStepS_len {n : Int} {l : List StepD} : (mkStepS n l).length = l.length := by simp [mkStepS]
theorem mkStepS_take {n : Int} {l : List StepD} : ((mkStepS n l).map StepD.d).take l.length = (mkStepS n l).map StepD.d := List.take_of_length_le (by simp [mkStepS_len])
theorem hasStepS {d : D} (h : HasTy (.sl TyStep) d) : ∃ l : List StepD, d = steps l ∧ l.length ≤ 9223372036854775807 := by
  obtain ⟨l, rfl, hl, hp⟩ := hasSl (f := StepD.d) (p := fun x => True) (fun x h => hasStep h) h
  exact ⟨l, rfl, hl⟩
theorem laws_toStepS.fcu (x : List StepD) (h : x.length ≤ 1048576) :
    FCt prog F_laws_toStepS [.ro] [steps x] (steps x) [] := by
  refine fct_run laws_toStepS.ok rfl ?_
  have h0 := h
  have c1 : (x.length : Int) * (48 : Nat) ≤ 70368744177664 := by omega
  simp only [go_sem, ↓reduceIte, Nat.reduceEqDiff, Nat.reduceAdd, Nat.reduceMul, Nat.reduceBEq, Option.getD_none, Int.reduceToNat, Nat.reduceSub, Nat.reduceLT, Nat.reduceLeDiff, Int.reduceLE, Int.reduceLT, reduceCtorEq, Int.le_refl, c1]
  refine R_loop (α := Nat) (fun k s' M' => k ≤ x.length ∧ s' 4 = aI k ∧ ∃ v, s' 3 = .sl 256 v 0 x.length 6 ∧ M'.m 256 = some (.arr v true 6 (fill StepD.d (.agg [Ii 0, Ii 0, Ii 0, Ii 0, Ii 0, Ii 0]) x k))) (fun k => x.length - k) 0
    ⟨by omega, by simp only [go_sem, ↓reduceIte, Nat.reduceEqDiff, Nat.reduceAdd, Nat.reduceMul, Nat.reduceBEq, Option.getD_none, Int.reduceToNat, Nat.reduceSub, Nat.reduceLT, Nat.reduceLeDiff, Int.reduceLE, Int.reduceLT, reduceCtorEq]; rfl, _, by simp only [go_sem, ↓reduceIte, Nat.reduceEqDiff, Nat.reduceAdd, Nat.reduceMul, Nat.reduceBEq, Option.getD_none, Int.reduceToNat, Nat.reduceSub, Nat.reduceLT, Nat.reduceLeDiff, Int.reduceLE, Int.reduceLT, reduceCtorEq]; rfl, by simp only [go_sem, ↓reduceIte, Nat.reduceEqDiff, Nat.reduceAdd, Nat.reduceMul, Nat.reduceBEq, Option.getD_none, Int.reduceToNat, Nat.reduceSub, Nat.reduceLT, Nat.reduceLeDiff, Int.reduceLE, Int.reduceLT, reduceCtorEq]; rw [fill_zero]⟩ ?_
  rintro k s' M' ⟨hk, h4, v, h3, hm⟩ ho
  unfold laws_toStepS.b0
  have k0 : s' 0 = .dat none (steps x) := by rw [ho 0 rfl]; simp only [go_sem, ↓reduceIte, Nat.reduceEqDiff, Nat.reduceAdd, Nat.reduceMul, Nat.reduceBEq, Option.getD_none, Int.reduceToNat, Nat.reduceSub, Nat.reduceLT, Nat.reduceLeDiff, Int.reduceLE, Int.reduceLT, reduceCtorEq]
  clear ho
  by_cases hlt : k < x.length
  · have hi' : (k : Int) < x.length := by omega
    have ga : x[k]? = some x[k] := List.getElem?_eq_getElem hlt
    have hw : IntKind.i64.wrap (k + 1) = ((k + 1 : Nat) : Int) := wrap_k hlt (by omega)
    have hf := fill_get (f := StepD.d) (z := (.agg [Ii 0, Ii 0, Ii 0, Ii 0, Ii 0, Ii 0])) hlt
    simp only [go_sem, ↓reduceIte, Nat.reduceEqDiff, Nat.reduceAdd, Nat.reduceMul, Nat.reduceBEq, Option.getD_none, Int.reduceToNat, Nat.reduceSub, Nat.reduceLT, Nat.reduceLeDiff, Int.reduceLE, Int.reduceLT, reduceCtorEq, h4, h3, hi', ga, hw, hm, hf, k0]
    refine fcW_bd (laws_toStep.fcu _) rfl ?_
    simp only [go_sem, ↓reduceIte, Nat.reduceEqDiff, Nat.reduceAdd, Nat.reduceMul, Nat.reduceBEq, Option.getD_none, Int.reduceToNat, Nat.reduceSub, Nat.reduceLT, Nat.reduceLeDiff, Int.reduceLE, Int.reduceLT, reduceCtorEq, h4, h3, hi', ga, hw, hm, hf, take_map_len, k0]
    refine ⟨k + 1, by dsimp only; omega, by omega, by simp only [go_sem, ↓reduceIte, Nat.reduceEqDiff, Nat.reduceAdd, Nat.reduceMul, Nat.reduceBEq, Option.getD_none, Int.reduceToNat, Nat.reduceSub, Nat.reduceLT, Nat.reduceLeDiff, Int.reduceLE, Int.reduceLT, reduceCtorEq, k0], v, by simp only [go_sem, ↓reduceIte, Nat.reduceEqDiff, Nat.reduceAdd, Nat.reduceMul, Nat.reduceBEq, Option.getD_none, Int.reduceToNat, Nat.reduceSub, Nat.reduceLT, Nat.reduceLeDiff, Int.reduceLE, Int.reduceLT, reduceCtorEq, h3, k0], by simp only [go_sem, ↓reduceIte, Nat.reduceEqDiff, Nat.reduceAdd, Nat.reduceMul, Nat.reduceBEq, Option.getD_none, Int.reduceToNat, Nat.reduceSub, Nat.reduceLT, Nat.reduceLeDiff, Int.reduceLE, Int.reduceLT, reduceCtorEq, k0]; rw [← fill_set hlt]⟩
  · have hi' : ¬ (k : Int) < x.length := by omega
    obtain rfl : k = x.length := by omega
    have hlen := fill_len (f := StepD.d) (z := (.agg [Ii 0, Ii 0, Ii 0, Ii 0, Ii 0, Ii 0])) (Nat.le_refl x.length)
    simp only [go_sem, ↓reduceIte, Nat.reduceEqDiff, Nat.reduceAdd, Nat.reduceMul, Nat.reduceBEq, Option.getD_none, Int.reduceToNat, Nat.reduceSub, Nat.reduceLT, Nat.reduceLeDiff, Int.reduceLE, Int.reduceLT, reduceCtorEq, h4, h3, hi', hm, hlen, k0]
    simp only [fill_all, mkR_one, take_map_len]
theorem laws_eqStepS.fcu (x : List StepD) (h : x.length ≤ 1048576) :
    FCt prog F_laws_eqStepS [.ro, .ro] [steps x, steps x] (Bb true) [] := by
  refine fct_run laws_eqStepS.ok rfl ?_
  have h0 := h
  simp only [go_sem, ↓reduceIte, Nat.reduceEqDiff, Nat.reduceAdd, Nat.reduceMul, Nat.reduceBEq, Option.getD_none, Int.reduceToNat, Nat.reduceSub, Nat.reduceLT, Nat.reduceLeDiff, Int.reduceLE, Int.reduceLT, reduceCtorEq]
  refine R_loop (α := Nat) (fun k s' M' => k ≤ x.length ∧ s' 5 = aI k) (fun k => x.length - k) 0 ⟨by omega, by simp only [go_sem, ↓reduceIte, Nat.reduceEqDiff, Nat.reduceAdd, Nat.reduceMul, Nat.reduceBEq, Option.getD_none, Int.reduceToNat, Nat.reduceSub, Nat.reduceLT, Nat.reduceLeDiff, Int.reduceLE, Int.reduceLT, reduceCtorEq]; rfl⟩ ?_
  rintro k s' M' ⟨hk, h5⟩ ho
  unfold laws_eqStepS.b0
  have k0 : s' 0 = .dat none (steps x) := by rw [ho 0 rfl]; simp only [go_sem, ↓reduceIte, Nat.reduceEqDiff, Nat.reduceAdd, Nat.reduceMul, Nat.reduceBEq, Option.getD_none, Int.reduceToNat, Nat.reduceSub, Nat.reduceLT, Nat.reduceLeDiff, Int.reduceLE, Int.reduceLT, reduceCtorEq]
  have k1 : s' 1 = .dat none (steps x) := by rw [ho 1 rfl]; simp only [go_sem, ↓reduceIte, Nat.reduceEqDiff, Nat.reduceAdd, Nat.reduceMul, Nat.reduceBEq, Option.getD_none, Int.reduceToNat, Nat.reduceSub, Nat.reduceLT, Nat.reduceLeDiff, Int.reduceLE, Int.reduceLT, reduceCtorEq]
  clear ho
  by_cases hlt : k < x.length
  · have hi' : (k : Int) < x.length := by omega
    have ga : x[k]? = some x[k] := List.getElem?_eq_getElem hlt
    have hw : IntKind.i64.wrap (k + 1) = ((k + 1 : Nat) : Int) := wrap_k hlt (by omega)
    simp only [go_sem, ↓reduceIte, Nat.reduceEqDiff, Nat.reduceAdd, Nat.reduceMul, Nat.reduceBEq, Option.getD_none, Int.reduceToNat, Nat.reduceSub, Nat.reduceLT, Nat.reduceLeDiff, Int.reduceLE, Int.reduceLT, reduceCtorEq, h5, hi', ga, hw, k0, k1]
    refine fcW_bool (laws_eqStep.fcu _) ?_
    simp only [go_sem, ↓reduceIte, Nat.reduceEqDiff, Nat.reduceAdd, Nat.reduceMul, Nat.reduceBEq, Option.getD_none, Int.reduceToNat, Nat.reduceSub, Nat.reduceLT, Nat.reduceLeDiff, Int.reduceLE, Int.reduceLT, reduceCtorEq, h5, hw, k0, k1]
    exact ⟨k + 1, by dsimp only; omega, by omega, by simp only [go_sem, ↓reduceIte, Nat.reduceEqDiff, Nat.reduceAdd, Nat.reduceMul, Nat.reduceBEq, Option.getD_none, Int.reduceToNat, Nat.reduceSub, Nat.reduceLT, Nat.reduceLeDiff, Int.reduceLE, Int.reduceLT, reduceCtorEq, k0, k1]⟩
  · have hi' : ¬ (k : Int) < x.length := by omega
    obtain rfl : k = x.length := by omega
    simp only [go_sem, ↓reduceIte, Nat.reduceEqDiff, Nat.reduceAdd, Nat.reduceMul, Nat.reduceBEq, Option.getD_none, Int.reduceToNat, Nat.reduceSub, Nat.reduceLT, Nat.reduceLeDiff, Int.reduceLE, Int.reduceLT, reduceCtorEq, h5, hi', k0, k1]
theorem laws_szStepS.fcu (x : List StepD) (n : Int) (hn : 0 ≤ n ∧ n ≤ 1048576) (hw : x.length ≤ 9223372036854775807) :
    FCt prog F_laws_szStepS [.ro, .ro] [steps x, Ii n] (Ii (if n < (x.length : Nat) then -1 else n - (x.length : Nat))) [] := by
  refine fct_run laws_szStepS.ok rfl ?_
  have hx : IntKind.i64.wrap (n - x.length) = n - x.length := wrap_in (by omega) (by omega)
  by_cases h : n < (x.length : Nat)
  · have h' : n - x.length < 0 := by omega
    simp only [go_sem, ↓reduceIte, Nat.reduceEqDiff, Nat.reduceAdd, Nat.reduceMul, Nat.reduceBEq, Option.getD_none, Int.reduceToNat, Nat.reduceSub, Nat.reduceLT, Nat.reduceLeDiff, Int.reduceLE, Int.reduceLT, reduceCtorEq, hx, h, h']
  · have h' : ¬ n - x.length < 0 := by omega
    simp only [go_sem, ↓reduceIte, Nat.reduceEqDiff, Nat.reduceAdd, Nat.reduceMul, Nat.reduceBEq, Option.getD_none, Int.reduceToNat, Nat.reduceSub, Nat.reduceLT, Nat.reduceLeDiff, Int.reduceLE, Int.reduceLT, reduceCtorEq, hx, h, h']
theorem laws_markStepS.fcu (x : List StepD) (n : Int) (h : x.length ≤ 1048576) (hc : (6 * x.length) ≤ 16777216) (hn : 0 ≤ n ∧ n + ((6 * x.length) : Nat) ≤ 576460752303423488) :
    FCt prog F_laws_markStepS [.io, .ro] [steps x, Ii n] (Ii (n + ((6 * x.length) : Nat))) [steps (mkStepS n x)] := by
  refine fct_run laws_markStepS.ok rfl ?_
  have hL : ((mkStepS n x).map StepD.d).length = (x.map StepD.d).length := by simp [mkStepS_len]
  simp only [go_sem, ↓reduceIte, Nat.reduceEqDiff, Nat.reduceAdd, Nat.reduceMul, Nat.reduceBEq, Option.getD_none, Int.reduceToNat, Nat.reduceSub, Nat.reduceLT, Nat.reduceLeDiff, Int.reduceLE, Int.reduceLT, reduceCtorEq]
  refine R_loop (α := Nat) (fun k s' M' => k ≤ x.length ∧ s' 5 = aI k ∧ s' 1 = aI (n + 6 * k) ∧ M'.m 0 = some (.arr 0 true 6 (ovr ((mkStepS n x).map StepD.d) (x.map StepD.d) k))) (fun k => x.length - k) 0
    ⟨by omega, by simp only [go_sem, ↓reduceIte, Nat.reduceEqDiff, Nat.reduceAdd, Nat.reduceMul, Nat.reduceBEq, Option.getD_none, Int.reduceToNat, Nat.reduceSub, Nat.reduceLT, Nat.reduceLeDiff, Int.reduceLE, Int.reduceLT, reduceCtorEq]; rfl, by simp only [go_sem, ↓reduceIte, Nat.reduceEqDiff, Nat.reduceAdd, Nat.reduceMul, Nat.reduceBEq, Option.getD_none, Int.reduceToNat, Nat.reduceSub, Nat.reduceLT, Nat.reduceLeDiff, Int.reduceLE, Int.reduceLT, reduceCtorEq]; simp, by simp only [go_sem, ↓reduceIte, Nat.reduceEqDiff, Nat.reduceAdd, Nat.reduceMul, Nat.reduceBEq, Option.getD_none, Int.reduceToNat, Nat.reduceSub, Nat.reduceLT, Nat.reduceLeDiff, Int.reduceLE, Int.reduceLT, reduceCtorEq]; simp [ovr_zero]⟩ ?_
  rintro k s' M' ⟨hk, h5, h1, hm⟩ ho
  unfold laws_markStepS.b0
  have k0 : s' 0 = .sl 0 0 0 x.length 6 := by rw [ho 0 rfl]; simp only [go_sem, ↓reduceIte, Nat.reduceEqDiff, Nat.reduceAdd, Nat.reduceMul, Nat.reduceBEq, Option.getD_none, Int.reduceToNat, Nat.reduceSub, Nat.reduceLT, Nat.reduceLeDiff, Int.reduceLE, Int.reduceLT, reduceCtorEq]
  clear ho
  by_cases hlt : k < x.length
  · have hi' : (k : Int) < x.length := by omega
    have ga : x[k]? = some x[k] := List.getElem?_eq_getElem hlt
    have hw : IntKind.i64.wrap (k + 1) = ((k + 1 : Nat) : Int) := wrap_k hlt (by omega)
    have hw1 : IntKind.i64.wrap (n + 6 * k + 1) = n + 6 * k + 1 := by rw [wrap_in (by omega) (by omega)]; try omega
    have hw2 : IntKind.i64.wrap (n + 6 * k + 1 + 1) = n + 6 * k + 2 := by rw [wrap_in (by omega) (by omega)]; try omega
    have hw3 : IntKind.i64.wrap (n + 6 * k + 2 + 1) = n + 6 * k + 3 := by rw [wrap_in (by omega) (by omega)]; try omega
    have hw4 : IntKind.i64.wrap (n + 6 * k + 3 + 1) = n + 6 * k + 4 := by rw [wrap_in (by omega) (by omega)]; try omega
    have hw5 : IntKind.i64.wrap (n + 6 * k + 4 + 1) = n + 6 * k + 5 := by rw [wrap_in (by omega) (by omega)]; try omega
    have hw6 : IntKind.i64.wrap (n + 6 * k + 5 + 1) = n + 6 * (k + 1 : Nat) := by rw [wrap_in (by omega) (by omega)]; try omega
    have hmk : (mkStepS n x)[k]? = some (⟨n + 6 * (k : Int), n + 6 * (k : Int) + 1, n + 6 * (k : Int) + 2, n + 6 * (k : Int) + 3, n + 6 * (k : Int) + 4, n + 6 * (k : Int) + 5⟩) := by simp [mkStepS, hlt]
    have hg : (ovr ((mkStepS n x).map StepD.d) (x.map StepD.d) k)[k]? = some (StepD.d x[k]) := by rw [ovr_get hL (by simpa using hlt)]; simp [hlt]
    have hkl : k < (ovr ((mkStepS n x).map StepD.d) (x.map StepD.d) k).length := by rw [ovr_len hL (by simp; omega)]; simpa using hlt
    have hg2 : ∀ d, ((ovr ((mkStepS n x).map StepD.d) (x.map StepD.d) k).set k d)[k]? = some d := fun d => by rw [List.getElem?_set, if_pos rfl, if_pos hkl]
    have hs : (ovr ((mkStepS n x).map StepD.d) (x.map StepD.d) k).set k (.agg [.int .i64 (n + 6 * k), .int .i64 (n + 6 * k + 1), .int .i64 (n + 6 * k + 2), .int .i64 (n + 6 * k + 3), .int .i64 (n + 6 * k + 4), .int .i64 (n + 6 * k + 5)]) = ovr ((mkStepS n x).map StepD.d) (x.map StepD.d) (k + 1) := ovr_set hL (by simpa using hlt) (by rw [List.getElem?_map, hmk]; rfl)
    simp only [go_sem, ↓reduceIte, Nat.reduceEqDiff, Nat.reduceAdd, Nat.reduceMul, Nat.reduceBEq, Option.getD_none, Int.reduceToNat, Nat.reduceSub, Nat.reduceLT, Nat.reduceLeDiff, Int.reduceLE, Int.reduceLT, reduceCtorEq, hi', hw, hw1, hw2, hw3, hw4, hw5, hw6, hg, hg2, List.set_set, hs, k0, h1, h5, hm]
    exact ⟨k + 1, by dsimp only; omega, by omega, by simp only [go_sem, ↓reduceIte, Nat.reduceEqDiff, Nat.reduceAdd, Nat.reduceMul, Nat.reduceBEq, Option.getD_none, Int.reduceToNat, Nat.reduceSub, Nat.reduceLT, Nat.reduceLeDiff, Int.reduceLE, Int.reduceLT, reduceCtorEq, k0, h1, h5, hm], by simp only [go_sem, ↓reduceIte, Nat.reduceEqDiff, Nat.reduceAdd, Nat.reduceMul, Nat.reduceBEq, Option.getD_none, Int.reduceToNat, Nat.reduceSub, Nat.reduceLT, Nat.reduceLeDiff, Int.reduceLE, Int.reduceLT, reduceCtorEq, k0, h1, h5, hm], by simp only [go_sem, ↓reduceIte, Nat.reduceEqDiff, Nat.reduceAdd, Nat.reduceMul, Nat.reduceBEq, Option.getD_none, Int.reduceToNat, Nat.reduceSub, Nat.reduceLT, Nat.reduceLeDiff, Int.reduceLE, Int.reduceLT, reduceCtorEq, k0, h1, h5, hm]⟩
  · have hi' : ¬ (k : Int) < x.length := by omega
    obtain rfl : k = x.length := by omega
    have hall : ovr ((mkStepS n x).map StepD.d) (x.map StepD.d) x.length = (mkStepS n x).map StepD.d := by have := ovr_all hL; simpa using this
    have htk : ((mkStepS n x).map StepD.d).take x.length = (mkStepS n x).map StepD.d := List.take_of_length_le (by simp [mkStepS_len])
    have hce : (((6 * x.length) : Nat) : Int) = 6 * x.length := by omega
    simp only [go_sem, ↓reduceIte, Nat.reduceEqDiff, Nat.reduceAdd, Nat.reduceMul, Nat.reduceBEq, Option.getD_none, Int.reduceToNat, Nat.reduceSub, Nat.reduceLT, Nat.reduceLeDiff, Int.reduceLE, Int.reduceLT, reduceCtorEq, hi', hall, mkStepS_len, htk, hce, k0, h1, h5, hm]
    try rfl

theorem spec_l2Reg.fc (n : Int) : FCt prog F_spec_l2Reg [.ro] [Ii n] (Bb (inB n 0 5)) [] := by
  refine fct_run spec_l2Reg.ok rfl ?_
  repeat' (first | with_reducible rfl | refine fcW_bool (spec_l1In.fc ..) ?_ | with_reducible refine cdW_dec (fun _ => ?_) (fun _ => ?_) | refine cdW_not (fun _ => ?_) (fun _ => ?_) | refine cdW_any (fun _ => ?_) (fun _ => ?_) | with_reducible refine gdW_decT (fun _ => ?_) (fun _ => ?_) | with_reducible refine gdW_decF (fun _ => ?_) (fun _ => ?_) | refine gdW_not (fun _ => ?_) (fun _ => ?_) | refine gdW_any (fun _ => ?_) (fun _ => ?_) | simp only [go_sem, ↓reduceIte, Nat.reduceEqDiff, Nat.reduceAdd, Nat.reduceMul, Nat.reduceBEq, Option.getD_none, Int.reduceToNat, Nat.reduceSub, Nat.reduceLT, Nat.reduceLeDiff, Int.reduceLE, Int.reduceLT, reduceCtorEq, bne, Int.reduceEq, Int.reduceBEq, Int.reduceBNe, Int.reduceLE, Int.reduceNeg, Int.reduceAdd, Int.reduceSub, Int.reduceMul, *] | rfl)
def zeroB (s : StepD) (op dst src imm to : Bool) : Bool := (op || s.op == 0) && (dst || s.dst == 0) && (src || s.src == 0) && (imm || s.imm == 0) && (to || s.to == 0)
theorem spec_l2Zero.fc (s : StepD) (op dst src imm to : Bool) : FCt prog F_spec_l2Zero [.ro, .ro, .ro, .ro, .ro, .ro] [s.d, Bb op, Bb dst, Bb src, Bb imm, Bb to] (Bb (zeroB s op dst src imm to)) [] := by
  refine fct_run spec_l2Zero.ok rfl ?_
  unfold zeroB
  repeat' (first | with_reducible rfl | with_reducible refine cdW_dec (fun _ => ?_) (fun _ => ?_) | refine cdW_not (fun _ => ?_) (fun _ => ?_) | refine cdW_any (fun _ => ?_) (fun _ => ?_) | with_reducible refine gdW_decT (fun _ => ?_) (fun _ => ?_) | with_reducible refine gdW_decF (fun _ => ?_) (fun _ => ?_) | refine gdW_not (fun _ => ?_) (fun _ => ?_) | refine gdW_any (fun _ => ?_) (fun _ => ?_) | simp only [go_sem, ↓reduceIte, Nat.reduceEqDiff, Nat.reduceAdd, Nat.reduceMul, Nat.reduceBEq, Option.getD_none, Int.reduceToNat, Nat.reduceSub, Nat.reduceLT, Nat.reduceLeDiff, Int.reduceLE, Int.reduceLT, reduceCtorEq, bne, Int.reduceEq, Int.reduceBEq, Int.reduceBNe, Int.reduceLE, Int.reduceNeg, Int.reduceAdd, Int.reduceSub, Int.reduceMul, *] | rfl)
def stepB (s : StepD) : Bool :=
  if !inB s.dst 0 5 then false else if !inB s.src 0 5 then false else
  if s.kind == 1 then inB s.op 1 10 && zeroB s true true true false false else
  if s.kind == 2 then inB s.op 1 10 && inB s.imm 0 255 && zeroB s true true false true false else
  if s.kind == 3 then inB s.imm 0 255 && zeroB s false true false true false else
  if s.kind == 4 then inB s.imm 256 65535 && zeroB s false true false true false else
  if s.kind == 5 then inB s.imm 0 7 && zeroB s false true true true false else
  if s.kind == 6 then inB s.imm 0 255 && zeroB s false true false true false else
  if s.kind == 7 then inB s.imm 0 255 && zeroB s false true false true false else
  if s.kind == 8 then inB s.to 1 19 && zeroB s false false false false true else
  if s.kind == 9 then inB s.to 1 19 && zeroB s false true true false true else
  if s.kind == 10 then inB s.to 1 19 && zeroB s false true true false true else
  (s.kind == 11) && zeroB s false false false false false
theorem spec_l2Step.fc (s : StepD) : FCt prog F_spec_l2Step [.ro] [s.d] (Bb (stepB s)) [] := by
  refine fct_run spec_l2Step.ok rfl ?_
  unfold stepB
  repeat' (first | with_reducible rfl | refine fcW_bool (spec_l1In.fc ..) ?_ | refine fcW_bool (spec_l2Reg.fc ..) ?_ | refine fcW_bool (spec_l2Zero.fc ..) ?_ | with_reducible refine cdW_dec (fun _ => ?_) (fun _ => ?_) | refine cdW_not (fun _ => ?_) (fun _ => ?_) | refine cdW_any (fun _ => ?_) (fun _ => ?_) | with_reducible refine gdW_decT (fun _ => ?_) (fun _ => ?_) | with_reducible refine gdW_decF (fun _ => ?_) (fun _ => ?_) | refine gdW_not (fun _ => ?_) (fun _ => ?_) | refine gdW_any (fun _ => ?_) (fun _ => ?_) | simp only [go_sem, ↓reduceIte, Nat.reduceEqDiff, Nat.reduceAdd, Nat.reduceMul, Nat.reduceBEq, Option.getD_none, Int.reduceToNat, Nat.reduceSub, Nat.reduceLT, Nat.reduceLeDiff, Int.reduceLE, Int.reduceLT, reduceCtorEq, bne, Int.reduceEq, Int.reduceBEq, Int.reduceBNe, Int.reduceLE, Int.reduceNeg, Int.reduceAdd, Int.reduceSub, Int.reduceMul, *] | rfl)
end Go.Vm.Ytdembjfpgfaheaa
/- Walks: valid steps. -/
namespace Go.Vm.Ytdembjfpgfaheaa
open Go Go.Vm
set_option maxRecDepth 10000
set_option maxHeartbeats 8000000
set_option linter.unusedSimpArgs false
set_option linter.unusedVariables false

/-- the letters of a kind's fields -/
def fldL (k : Int) : List UInt8 :=
  if k == 1 then [111, 100, 115] else if k == 2 then [111, 100, 105] else if k == 3 then [100, 105] else if k == 4 then [100, 105] else if k == 6 then [100, 105] else if k == 7 then [100, 105] else
  if k == 5 then [100, 115, 105] else if k == 8 then [116] else if k == 9 then [100, 115, 116] else if k == 10 then [100, 115, 116] else []
def strL (l : List UInt8) : ByteArray := ⟨l.toArray⟩
theorem impl_fields.fc (k : Int) : FCt prog F_impl_fields [.ro] [Ii k] (.str (strL (fldL k))) [] := by
  refine fct_run impl_fields.ok rfl ?_
  unfold fldL
  repeat' (first | with_reducible rfl | with_reducible refine cdW_dec (fun _ => ?_) (fun _ => ?_) | refine cdW_not (fun _ => ?_) (fun _ => ?_) | refine cdW_any (fun _ => ?_) (fun _ => ?_) | with_reducible refine gdW_decT (fun _ => ?_) (fun _ => ?_) | with_reducible refine gdW_decF (fun _ => ?_) (fun _ => ?_) | refine gdW_not (fun _ => ?_) (fun _ => ?_) | refine gdW_any (fun _ => ?_) (fun _ => ?_) | simp only [go_sem, ↓reduceIte, Nat.reduceEqDiff, Nat.reduceAdd, Nat.reduceMul, Nat.reduceBEq, Option.getD_none, Int.reduceToNat, Nat.reduceSub, Nat.reduceLT, Nat.reduceLeDiff, Int.reduceLE, Int.reduceLT, reduceCtorEq, bne, Int.reduceEq, Int.reduceBEq, Int.reduceBNe, Int.reduceLE, Int.reduceNeg, Int.reduceAdd, Int.reduceSub, Int.reduceMul, *] | rfl)
  all_goals rfl
def rgF (k : Int) (c : Int) : Int × Int :=
  if c == 111 then (1, 10) else if c == 100 then (0, 5) else if c == 115 then (0, 5) else if c == 116 then (1, 19) else
  if k == 4 then (256, 65535) else if k == 5 then (0, 7) else (0, 255)
theorem impl_Step_ranges.fc (s : StepD) (c : Int) : FCt prog F_impl_Step_ranges [.ro, .ro] [s.d, .int .u8 c] (.tup [Ii (rgF s.kind c).1, Ii (rgF s.kind c).2]) [] := by
  refine fct_run impl_Step_ranges.ok rfl ?_
  unfold rgF
  repeat' (first | with_reducible rfl | with_reducible refine cdW_dec (fun _ => ?_) (fun _ => ?_) | refine cdW_not (fun _ => ?_) (fun _ => ?_) | refine cdW_any (fun _ => ?_) (fun _ => ?_) | with_reducible refine gdW_decT (fun _ => ?_) (fun _ => ?_) | with_reducible refine gdW_decF (fun _ => ?_) (fun _ => ?_) | refine gdW_not (fun _ => ?_) (fun _ => ?_) | refine gdW_any (fun _ => ?_) (fun _ => ?_) | simp only [go_sem, ↓reduceIte, Nat.reduceEqDiff, Nat.reduceAdd, Nat.reduceMul, Nat.reduceBEq, Option.getD_none, Int.reduceToNat, Nat.reduceSub, Nat.reduceLT, Nat.reduceLeDiff, Int.reduceLE, Int.reduceLT, reduceCtorEq, bne, Int.reduceEq, Int.reduceBEq, Int.reduceBNe, Int.reduceLE, Int.reduceNeg, Int.reduceAdd, Int.reduceSub, Int.reduceMul, *] | rfl)
/-- the place of a letter's field -/
theorem field_pc {c : Int} {j : Nat} (h : c = 111 ∧ j = 1 ∨ c = 100 ∧ j = 2 ∨ c = 115 ∧ j = 3 ∨ c = 105 ∧ j = 4 ∨ c = 116 ∧ j = 5) : PCt prog F_impl_pStep_field (.int .u8 c) j := by
  refine ⟨by kernel_rfl, ?_⟩
  intro X w a v hv
  simp only [TV] at hv
  obtain ⟨rfl, _⟩ := hv
  rcases h with ⟨rfl, rfl⟩ | ⟨rfl, rfl⟩ | ⟨rfl, rfl⟩ | ⟨rfl, rfl⟩ | ⟨rfl, rfl⟩ <;>
  · go_enter Go.Proofs.Try.func110, Go.Proofs.Try.ntmps110
    go_wp2
    go_ret
    exact ⟨rfl, rfl⟩
def getF (s : StepD) (c : UInt8) : Int := if c = 111 then s.op else if c = 100 then s.dst else if c = 115 then s.src else if c = 105 then s.imm else s.to
def clrF (s : StepD) (c : UInt8) : StepD := if c = 111 then { s with op := 0 } else if c = 100 then { s with dst := 0 } else if c = 115 then { s with src := 0 } else if c = 105 then { s with imm := 0 } else { s with to := 0 }
def okF (s : StepD) (c : UInt8) : Bool := inB (getF s c) (rgF s.kind c.toNat).1 (rgF s.kind c.toNat).2
def restF (s : StepD) (l : List UInt8) : StepD := l.foldl clrF { s with kind := 0 }
def validB (s : StepD) : Bool := (fldL s.kind).all (okF s) && (inB s.kind 1 11 && (restF s (fldL s.kind) == ⟨0, 0, 0, 0, 0, 0⟩))
theorem fldL_len (k : Int) : (fldL k).length ≤ 3 := by
  unfold fldL; repeat' (split <;> try decide)
theorem fldL_mem {k : Int} {c : UInt8} (h : c ∈ fldL k) : c = 111 ∨ c = 100 ∨ c = 115 ∨ c = 105 ∨ c = 116 := by
  have : (fldL k).all (fun c => c == 111 || c == 100 || c == 115 || c == 105 || c == 116) = true := by
    unfold fldL; repeat' split
    all_goals rfl
  have := List.all_eq_true.1 this c h
  simp only [Bool.or_eq_true, beq_iff_eq] at this
  rcases this with (((h | h) | h) | h) | h <;> simp [h]
theorem valid_not {s : StepD} {i : Nat} (h : i < (fldL s.kind).length) (h2 : okF s (fldL s.kind)[i] = false) : validB s = false := by
  unfold validB; rw [not_all h h2]; rfl
theorem rest_step {s : StepD} {l : List UInt8} {i : Nat} (h : i < l.length) : restF s (l.take (i + 1)) = clrF (restF s (l.take i)) l[i] := by
  unfold restF; rw [take_succ' h, List.foldl_append]; rfl
theorem impl_Step_valid.fc (s : StepD) : FCt prog F_impl_Step_valid [.ro] [s.d] (Bb (validB s)) [] := by
  refine fct_run impl_Step_valid.ok rfl ?_
  simp only [go_sem, ↓reduceIte, Nat.reduceEqDiff, Nat.reduceAdd, Nat.reduceMul, Nat.reduceBEq, Option.getD_none, Int.reduceToNat, Nat.reduceSub, Nat.reduceLT, Nat.reduceLeDiff, Int.reduceLE, Int.reduceLT, reduceCtorEq]
  refine fcW_str (impl_fields.fc s.kind) ?_
  have hln := fldL_len s.kind
  have hsz : (strL (fldL s.kind)).size = (fldL s.kind).length := rfl
  simp only [go_sem, ↓reduceIte, Nat.reduceEqDiff, Nat.reduceAdd, Nat.reduceMul, Nat.reduceBEq, Option.getD_none, Int.reduceToNat, Nat.reduceSub, Nat.reduceLT, Nat.reduceLeDiff, Int.reduceLE, Int.reduceLT, reduceCtorEq, hsz]
  refine R_loop (α := Nat) (fun i s' M' => i ≤ (fldL s.kind).length ∧ s' 14 = aI i ∧ ((fldL s.kind).take i).all (okF s) = true ∧ M'.m 64 = some (.box 0 (.dat none s.d)) ∧
      ∃ r, restF s ((fldL s.kind).take i) = r ∧ M'.m 256 = some (.box 192 (.agg [aI r.kind, aI r.op, aI r.dst, aI r.src, aI r.imm, aI r.to]))) (fun i => (fldL s.kind).length - i) 0
    ⟨by omega, by simp only [go_sem, ↓reduceIte, Nat.reduceEqDiff, Nat.reduceAdd, Nat.reduceMul, Nat.reduceBEq, Option.getD_none, Int.reduceToNat, Nat.reduceSub, Nat.reduceLT, Nat.reduceLeDiff, Int.reduceLE, Int.reduceLT, reduceCtorEq]; rfl, by simp, by simp only [go_sem, ↓reduceIte, Nat.reduceEqDiff, Nat.reduceAdd, Nat.reduceMul, Nat.reduceBEq, Option.getD_none, Int.reduceToNat, Nat.reduceSub, Nat.reduceLT, Nat.reduceLeDiff, Int.reduceLE, Int.reduceLT, reduceCtorEq], { s with kind := 0 }, by simp [restF], by simp only [go_sem, ↓reduceIte, Nat.reduceEqDiff, Nat.reduceAdd, Nat.reduceMul, Nat.reduceBEq, Option.getD_none, Int.reduceToNat, Nat.reduceSub, Nat.reduceLT, Nat.reduceLeDiff, Int.reduceLE, Int.reduceLT, reduceCtorEq]⟩ ?_
  rintro i s' M' ⟨hi, h14, hall, m1, r, hr, m2⟩ ho
  unfold impl_Step_valid.b0
  have k1 : s' 1 = .ptr 64 0 0 none := by rw [ho 1 rfl]; simp only [go_sem, ↓reduceIte, Nat.reduceEqDiff, Nat.reduceAdd, Nat.reduceMul, Nat.reduceBEq, Option.getD_none, Int.reduceToNat, Nat.reduceSub, Nat.reduceLT, Nat.reduceLeDiff, Int.reduceLE, Int.reduceLT, reduceCtorEq]
  have k3 : s' 3 = .ptr 256 192 0 none := by rw [ho 3 rfl]; simp only [go_sem, ↓reduceIte, Nat.reduceEqDiff, Nat.reduceAdd, Nat.reduceMul, Nat.reduceBEq, Option.getD_none, Int.reduceToNat, Nat.reduceSub, Nat.reduceLT, Nat.reduceLeDiff, Int.reduceLE, Int.reduceLT, reduceCtorEq]
  have k13 : s' 13 = aI (fldL s.kind).length := by rw [ho 13 rfl]; simp only [go_sem, ↓reduceIte, Nat.reduceEqDiff, Nat.reduceAdd, Nat.reduceMul, Nat.reduceBEq, Option.getD_none, Int.reduceToNat, Nat.reduceSub, Nat.reduceLT, Nat.reduceLeDiff, Int.reduceLE, Int.reduceLT, reduceCtorEq]
  clear ho
  by_cases hlt : i < (fldL s.kind).length
  · have hi' : (i : Int) < (fldL s.kind).length := by omega
    have hw : IntKind.i64.wrap (i + 1) = ((i + 1 : Nat) : Int) := by rw [wrap_in (by omega) (by omega)]; omega
    have hbd : 0 ≤ (i : Int) ∧ (i : Int) < (strL (fldL s.kind)).size := ⟨by omega, by rw [hsz]; omega⟩
    have hgt : ∀ h, (strL (fldL s.kind))[i]'h = (fldL s.kind)[i] := fun _ => rfl
    have hmem := fldL_mem (List.getElem_mem hlt)
    have hnot := valid_not hlt
    have hst := rest_step (s := s) hlt
    rw [hr] at hst
    have hall' : okF s (fldL s.kind)[i] = true → ((fldL s.kind).take (i + 1)).all (okF s) = true := fun h => all_take hlt hall h
    simp only [go_sem, ↓reduceIte, Nat.reduceEqDiff, Nat.reduceAdd, Nat.reduceMul, Nat.reduceBEq, Option.getD_none, Int.reduceToNat, Nat.reduceSub, Nat.reduceLT, Nat.reduceLeDiff, Int.reduceLE, Int.reduceLT, reduceCtorEq, hi', k1, k3, k13, h14, m1, m2]
    refine fcW_str (impl_fields.fc s.kind) ?_
    simp only [go_sem, ↓reduceIte, Nat.reduceEqDiff, Nat.reduceAdd, Nat.reduceMul, Nat.reduceBEq, Option.getD_none, Int.reduceToNat, Nat.reduceSub, Nat.reduceLT, Nat.reduceLeDiff, Int.reduceLE, Int.reduceLT, reduceCtorEq, hbd, hgt, ↓reduceDIte, k1, k3, k13, h14, m1, m2]
    generalize (fldL s.kind)[i] = c at hmem hnot hst hall' ⊢
    refine fcW_bd (impl_Step_ranges.fc s c.toNat) rfl ?_
    simp only [go_sem, ↓reduceIte, Nat.reduceEqDiff, Nat.reduceAdd, Nat.reduceMul, Nat.reduceBEq, Option.getD_none, Int.reduceToNat, Nat.reduceSub, Nat.reduceLT, Nat.reduceLeDiff, Int.reduceLE, Int.reduceLT, reduceCtorEq, k1, k3, k13, h14, m1, m2]
    unfold okF at hnot hall'
    rcases hmem with rfl | rfl | rfl | rfl | rfl
    · refine fcF_of (field_pc (j := 1) (.inl ⟨rfl, rfl⟩)) ?_
      simp only [go_sem, ↓reduceIte, Nat.reduceEqDiff, Nat.reduceAdd, Nat.reduceMul, Nat.reduceBEq, Option.getD_none, Int.reduceToNat, Nat.reduceSub, Nat.reduceLT, Nat.reduceLeDiff, Int.reduceLE, Int.reduceLT, reduceCtorEq, k1, k3, k13, h14, m1, m2]
      refine fcW_bool (impl_in.fc _ _ _) ?_
      cases hc : inB s.op (rgF s.kind (UInt8.toNat 111)).1 (rgF s.kind (UInt8.toNat 111)).2 with
      | false => simp only [go_sem, ↓reduceIte, Nat.reduceEqDiff, Nat.reduceAdd, Nat.reduceMul, Nat.reduceBEq, Option.getD_none, Int.reduceToNat, Nat.reduceSub, Nat.reduceLT, Nat.reduceLeDiff, Int.reduceLE, Int.reduceLT, reduceCtorEq, hnot hc, k1, k3, k13, h14, m1, m2]
      | true =>
        simp only [go_sem, ↓reduceIte, Nat.reduceEqDiff, Nat.reduceAdd, Nat.reduceMul, Nat.reduceBEq, Option.getD_none, Int.reduceToNat, Nat.reduceSub, Nat.reduceLT, Nat.reduceLeDiff, Int.reduceLE, Int.reduceLT, reduceCtorEq, k1, k3, k13, h14, m1, m2]
        refine fcF_of (field_pc (j := 1) (.inl ⟨rfl, rfl⟩)) ?_
        simp only [go_sem, ↓reduceIte, Nat.reduceEqDiff, Nat.reduceAdd, Nat.reduceMul, Nat.reduceBEq, Option.getD_none, Int.reduceToNat, Nat.reduceSub, Nat.reduceLT, Nat.reduceLeDiff, Int.reduceLE, Int.reduceLT, reduceCtorEq, hw, k1, k3, k13, h14, m1, m2]
        exact ⟨i + 1, by dsimp only; omega, by omega, by simp only [go_sem, ↓reduceIte, Nat.reduceEqDiff, Nat.reduceAdd, Nat.reduceMul, Nat.reduceBEq, Option.getD_none, Int.reduceToNat, Nat.reduceSub, Nat.reduceLT, Nat.reduceLeDiff, Int.reduceLE, Int.reduceLT, reduceCtorEq, k1, k3, k13, h14, m1, m2], hall' hc, by simp only [go_sem, ↓reduceIte, Nat.reduceEqDiff, Nat.reduceAdd, Nat.reduceMul, Nat.reduceBEq, Option.getD_none, Int.reduceToNat, Nat.reduceSub, Nat.reduceLT, Nat.reduceLeDiff, Int.reduceLE, Int.reduceLT, reduceCtorEq, k1, k3, k13, h14, m1, m2], _, hst, by simp only [go_sem, ↓reduceIte, Nat.reduceEqDiff, Nat.reduceAdd, Nat.reduceMul, Nat.reduceBEq, Option.getD_none, Int.reduceToNat, Nat.reduceSub, Nat.reduceLT, Nat.reduceLeDiff, Int.reduceLE, Int.reduceLT, reduceCtorEq, k1, k3, k13, h14, m1, m2]; rfl⟩
    · refine fcF_of (field_pc (j := 2) (.inr (.inl ⟨rfl, rfl⟩))) ?_
      simp only [go_sem, ↓reduceIte, Nat.reduceEqDiff, Nat.reduceAdd, Nat.reduceMul, Nat.reduceBEq, Option.getD_none, Int.reduceToNat, Nat.reduceSub, Nat.reduceLT, Nat.reduceLeDiff, Int.reduceLE, Int.reduceLT, reduceCtorEq, k1, k3, k13, h14, m1, m2]
      refine fcW_bool (impl_in.fc _ _ _) ?_
      cases hc : inB s.dst (rgF s.kind (UInt8.toNat 100)).1 (rgF s.kind (UInt8.toNat 100)).2 with
      | false => simp only [go_sem, ↓reduceIte, Nat.reduceEqDiff, Nat.reduceAdd, Nat.reduceMul, Nat.reduceBEq, Option.getD_none, Int.reduceToNat, Nat.reduceSub, Nat.reduceLT, Nat.reduceLeDiff, Int.reduceLE, Int.reduceLT, reduceCtorEq, hnot hc, k1, k3, k13, h14, m1, m2]
      | true =>
        simp only [go_sem, ↓reduceIte, Nat.reduceEqDiff, Nat.reduceAdd, Nat.reduceMul, Nat.reduceBEq, Option.getD_none, Int.reduceToNat, Nat.reduceSub, Nat.reduceLT, Nat.reduceLeDiff, Int.reduceLE, Int.reduceLT, reduceCtorEq, k1, k3, k13, h14, m1, m2]
        refine fcF_of (field_pc (j := 2) (.inr (.inl ⟨rfl, rfl⟩))) ?_
        simp only [go_sem, ↓reduceIte, Nat.reduceEqDiff, Nat.reduceAdd, Nat.reduceMul, Nat.reduceBEq, Option.getD_none, Int.reduceToNat, Nat.reduceSub, Nat.reduceLT, Nat.reduceLeDiff, Int.reduceLE, Int.reduceLT, reduceCtorEq, hw, k1, k3, k13, h14, m1, m2]
        exact ⟨i + 1, by dsimp only; omega, by omega, by simp only [go_sem, ↓reduceIte, Nat.reduceEqDiff, Nat.reduceAdd, Nat.reduceMul, Nat.reduceBEq, Option.getD_none, Int.reduceToNat, Nat.reduceSub, Nat.reduceLT, Nat.reduceLeDiff, Int.reduceLE, Int.reduceLT, reduceCtorEq, k1, k3, k13, h14, m1, m2], hall' hc, by simp only [go_sem, ↓reduceIte, Nat.reduceEqDiff, Nat.reduceAdd, Nat.reduceMul, Nat.reduceBEq, Option.getD_none, Int.reduceToNat, Nat.reduceSub, Nat.reduceLT, Nat.reduceLeDiff, Int.reduceLE, Int.reduceLT, reduceCtorEq, k1, k3, k13, h14, m1, m2], _, hst, by simp only [go_sem, ↓reduceIte, Nat.reduceEqDiff, Nat.reduceAdd, Nat.reduceMul, Nat.reduceBEq, Option.getD_none, Int.reduceToNat, Nat.reduceSub, Nat.reduceLT, Nat.reduceLeDiff, Int.reduceLE, Int.reduceLT, reduceCtorEq, k1, k3, k13, h14, m1, m2]; rfl⟩
    · refine fcF_of (field_pc (j := 3) (.inr (.inr (.inl ⟨rfl, rfl⟩)))) ?_
      simp only [go_sem, ↓reduceIte, Nat.reduceEqDiff, Nat.reduceAdd, Nat.reduceMul, Nat.reduceBEq, Option.getD_none, Int.reduceToNat, Nat.reduceSub, Nat.reduceLT, Nat.reduceLeDiff, Int.reduceLE, Int.reduceLT, reduceCtorEq, k1, k3, k13, h14, m1, m2]
      refine fcW_bool (impl_in.fc _ _ _) ?_
      cases hc : inB s.src (rgF s.kind (UInt8.toNat 115)).1 (rgF s.kind (UInt8.toNat 115)).2 with
      | false => simp only [go_sem, ↓reduceIte, Nat.reduceEqDiff, Nat.reduceAdd, Nat.reduceMul, Nat.reduceBEq, Option.getD_none, Int.reduceToNat, Nat.reduceSub, Nat.reduceLT, Nat.reduceLeDiff, Int.reduceLE, Int.reduceLT, reduceCtorEq, hnot hc, k1, k3, k13, h14, m1, m2]
      | true =>
        simp only [go_sem, ↓reduceIte, Nat.reduceEqDiff, Nat.reduceAdd, Nat.reduceMul, Nat.reduceBEq, Option.getD_none, Int.reduceToNat, Nat.reduceSub, Nat.reduceLT, Nat.reduceLeDiff, Int.reduceLE, Int.reduceLT, reduceCtorEq, k1, k3, k13, h14, m1, m2]
        refine fcF_of (field_pc (j := 3) (.inr (.inr (.inl ⟨rfl, rfl⟩)))) ?_
        simp only [go_sem, ↓reduceIte, Nat.reduceEqDiff, Nat.reduceAdd, Nat.reduceMul, Nat.reduceBEq, Option.getD_none, Int.reduceToNat, Nat.reduceSub, Nat.reduceLT, Nat.reduceLeDiff, Int.reduceLE, Int.reduceLT, reduceCtorEq, hw, k1, k3, k13, h14, m1, m2]
        exact ⟨i + 1, by dsimp only; omega, by omega, by simp only [go_sem, ↓reduceIte, Nat.reduceEqDiff, Nat.reduceAdd, Nat.reduceMul, Nat.reduceBEq, Option.getD_none, Int.reduceToNat, Nat.reduceSub, Nat.reduceLT, Nat.reduceLeDiff, Int.reduceLE, Int.reduceLT, reduceCtorEq, k1, k3, k13, h14, m1, m2], hall' hc, by simp only [go_sem, ↓reduceIte, Nat.reduceEqDiff, Nat.reduceAdd, Nat.reduceMul, Nat.reduceBEq, Option.getD_none, Int.reduceToNat, Nat.reduceSub, Nat.reduceLT, Nat.reduceLeDiff, Int.reduceLE, Int.reduceLT, reduceCtorEq, k1, k3, k13, h14, m1, m2], _, hst, by simp only [go_sem, ↓reduceIte, Nat.reduceEqDiff, Nat.reduceAdd, Nat.reduceMul, Nat.reduceBEq, Option.getD_none, Int.reduceToNat, Nat.reduceSub, Nat.reduceLT, Nat.reduceLeDiff, Int.reduceLE, Int.reduceLT, reduceCtorEq, k1, k3, k13, h14, m1, m2]; rfl⟩
    · refine fcF_of (field_pc (j := 4) (.inr (.inr (.inr (.inl ⟨rfl, rfl⟩))))) ?_
      simp only [go_sem, ↓reduceIte, Nat.reduceEqDiff, Nat.reduceAdd, Nat.reduceMul, Nat.reduceBEq, Option.getD_none, Int.reduceToNat, Nat.reduceSub, Nat.reduceLT, Nat.reduceLeDiff, Int.reduceLE, Int.reduceLT, reduceCtorEq, k1, k3, k13, h14, m1, m2]
      refine fcW_bool (impl_in.fc _ _ _) ?_
      cases hc : inB s.imm (rgF s.kind (UInt8.toNat 105)).1 (rgF s.kind (UInt8.toNat 105)).2 with
      | false => simp only [go_sem, ↓reduceIte, Nat.reduceEqDiff, Nat.reduceAdd, Nat.reduceMul, Nat.reduceBEq, Option.getD_none, Int.reduceToNat, Nat.reduceSub, Nat.reduceLT, Nat.reduceLeDiff, Int.reduceLE, Int.reduceLT, reduceCtorEq, hnot hc, k1, k3, k13, h14, m1, m2]
      | true =>
        simp only [go_sem, ↓reduceIte, Nat.reduceEqDiff, Nat.reduceAdd, Nat.reduceMul, Nat.reduceBEq, Option.getD_none, Int.reduceToNat, Nat.reduceSub, Nat.reduceLT, Nat.reduceLeDiff, Int.reduceLE, Int.reduceLT, reduceCtorEq, k1, k3, k13, h14, m1, m2]
        refine fcF_of (field_pc (j := 4) (.inr (.inr (.inr (.inl ⟨rfl, rfl⟩))))) ?_
        simp only [go_sem, ↓reduceIte, Nat.reduceEqDiff, Nat.reduceAdd, Nat.reduceMul, Nat.reduceBEq, Option.getD_none, Int.reduceToNat, Nat.reduceSub, Nat.reduceLT, Nat.reduceLeDiff, Int.reduceLE, Int.reduceLT, reduceCtorEq, hw, k1, k3, k13, h14, m1, m2]
        exact ⟨i + 1, by dsimp only; omega, by omega, by simp only [go_sem, ↓reduceIte, Nat.reduceEqDiff, Nat.reduceAdd, Nat.reduceMul, Nat.reduceBEq, Option.getD_none, Int.reduceToNat, Nat.reduceSub, Nat.reduceLT, Nat.reduceLeDiff, Int.reduceLE, Int.reduceLT, reduceCtorEq, k1, k3, k13, h14, m1, m2], hall' hc, by simp only [go_sem, ↓reduceIte, Nat.reduceEqDiff, Nat.reduceAdd, Nat.reduceMul, Nat.reduceBEq, Option.getD_none, Int.reduceToNat, Nat.reduceSub, Nat.reduceLT, Nat.reduceLeDiff, Int.reduceLE, Int.reduceLT, reduceCtorEq, k1, k3, k13, h14, m1, m2], _, hst, by simp only [go_sem, ↓reduceIte, Nat.reduceEqDiff, Nat.reduceAdd, Nat.reduceMul, Nat.reduceBEq, Option.getD_none, Int.reduceToNat, Nat.reduceSub, Nat.reduceLT, Nat.reduceLeDiff, Int.reduceLE, Int.reduceLT, reduceCtorEq, k1, k3, k13, h14, m1, m2]; rfl⟩
    · refine fcF_of (field_pc (j := 5) (.inr (.inr (.inr (.inr ⟨rfl, rfl⟩))))) ?_
      simp only [go_sem, ↓reduceIte, Nat.reduceEqDiff, Nat.reduceAdd, Nat.reduceMul, Nat.reduceBEq, Option.getD_none, Int.reduceToNat, Nat.reduceSub, Nat.reduceLT, Nat.reduceLeDiff, Int.reduceLE, Int.reduceLT, reduceCtorEq, k1, k3, k13, h14, m1, m2]
      refine fcW_bool (impl_in.fc _ _ _) ?_
      cases hc : inB s.to (rgF s.kind (UInt8.toNat 116)).1 (rgF s.kind (UInt8.toNat 116)).2 with
      | false => simp only [go_sem, ↓reduceIte, Nat.reduceEqDiff, Nat.reduceAdd, Nat.reduceMul, Nat.reduceBEq, Option.getD_none, Int.reduceToNat, Nat.reduceSub, Nat.reduceLT, Nat.reduceLeDiff, Int.reduceLE, Int.reduceLT, reduceCtorEq, hnot hc, k1, k3, k13, h14, m1, m2]
      | true =>
        simp only [go_sem, ↓reduceIte, Nat.reduceEqDiff, Nat.reduceAdd, Nat.reduceMul, Nat.reduceBEq, Option.getD_none, Int.reduceToNat, Nat.reduceSub, Nat.reduceLT, Nat.reduceLeDiff, Int.reduceLE, Int.reduceLT, reduceCtorEq, k1, k3, k13, h14, m1, m2]
        refine fcF_of (field_pc (j := 5) (.inr (.inr (.inr (.inr ⟨rfl, rfl⟩))))) ?_
        simp only [go_sem, ↓reduceIte, Nat.reduceEqDiff, Nat.reduceAdd, Nat.reduceMul, Nat.reduceBEq, Option.getD_none, Int.reduceToNat, Nat.reduceSub, Nat.reduceLT, Nat.reduceLeDiff, Int.reduceLE, Int.reduceLT, reduceCtorEq, hw, k1, k3, k13, h14, m1, m2]
        exact ⟨i + 1, by dsimp only; omega, by omega, by simp only [go_sem, ↓reduceIte, Nat.reduceEqDiff, Nat.reduceAdd, Nat.reduceMul, Nat.reduceBEq, Option.getD_none, Int.reduceToNat, Nat.reduceSub, Nat.reduceLT, Nat.reduceLeDiff, Int.reduceLE, Int.reduceLT, reduceCtorEq, k1, k3, k13, h14, m1, m2], hall' hc, by simp only [go_sem, ↓reduceIte, Nat.reduceEqDiff, Nat.reduceAdd, Nat.reduceMul, Nat.reduceBEq, Option.getD_none, Int.reduceToNat, Nat.reduceSub, Nat.reduceLT, Nat.reduceLeDiff, Int.reduceLE, Int.reduceLT, reduceCtorEq, k1, k3, k13, h14, m1, m2], _, hst, by simp only [go_sem, ↓reduceIte, Nat.reduceEqDiff, Nat.reduceAdd, Nat.reduceMul, Nat.reduceBEq, Option.getD_none, Int.reduceToNat, Nat.reduceSub, Nat.reduceLT, Nat.reduceLeDiff, Int.reduceLE, Int.reduceLT, reduceCtorEq, k1, k3, k13, h14, m1, m2]; rfl⟩
  obtain rfl : i = (fldL s.kind).length := by omega
  rw [List.take_length] at hall hr
  simp only [go_sem, ↓reduceIte, Nat.reduceEqDiff, Nat.reduceAdd, Nat.reduceMul, Nat.reduceBEq, Option.getD_none, Int.reduceToNat, Nat.reduceSub, Nat.reduceLT, Nat.reduceLeDiff, Int.reduceLE, Int.reduceLT, reduceCtorEq, Int.lt_irrefl, k1, k3, k13, h14, m1, m2]
  refine fcW_bool (impl_in.fc _ _ _) ?_
  have hv : validB s = (inB s.kind 1 11 && (r == ⟨0, 0, 0, 0, 0, 0⟩)) := by unfold validB; rw [hall, hr, Bool.true_and]
  cases hc : inB s.kind 1 11 with
  | false => simp only [go_sem, ↓reduceIte, Nat.reduceEqDiff, Nat.reduceAdd, Nat.reduceMul, Nat.reduceBEq, Option.getD_none, Int.reduceToNat, Nat.reduceSub, Nat.reduceLT, Nat.reduceLeDiff, Int.reduceLE, Int.reduceLT, reduceCtorEq, hv, hc, k1, k3, k13, h14, m1, m2]
  | true =>
    rw [hc, Bool.true_and] at hv
    have hz : (r == ⟨0, 0, 0, 0, 0, 0⟩) = (r.kind == 0 && (r.op == 0 && (r.dst == 0 && (r.src == 0 && (r.imm == 0 && r.to == 0))))) := by
      obtain ⟨a, b, c, d, e, f⟩ := r
      rw [Bool.eq_iff_iff]
      simp only [beq_iff_eq, StepD.mk.injEq, Bool.and_eq_true]
    simp only [go_sem, ↓reduceIte, Nat.reduceEqDiff, Nat.reduceAdd, Nat.reduceMul, Nat.reduceBEq, Option.getD_none, Int.reduceToNat, Nat.reduceSub, Nat.reduceLT, Nat.reduceLeDiff, Int.reduceLE, Int.reduceLT, reduceCtorEq, hv, hz, Bool.bne_false, k1, k3, k13, h14, m1, m2]
theorem valid_kind {s : StepD} (h : validB s = true ∨ stepB s = true) : s.kind = 1 ∨ s.kind = 2 ∨ s.kind = 3 ∨ s.kind = 4 ∨ s.kind = 5 ∨ s.kind = 6 ∨ s.kind = 7 ∨ s.kind = 8 ∨ s.kind = 9 ∨ s.kind = 10 ∨ s.kind = 11 := by
  by_cases hk : 1 ≤ s.kind ∧ s.kind ≤ 11
  · omega
  · exfalso
    have e : ∀ j : Int, 1 ≤ j ∧ j ≤ 11 → (s.kind == j) = false := fun j hj => by rw [beq_eq_false_iff_ne]; omega
    rcases h with h | h
    · unfold validB at h
      simp only [Bool.and_eq_true, inB, decide_eq_true_eq] at h
      omega
    · unfold stepB at h
      simp only [e 1 (by omega), e 2 (by omega), e 3 (by omega), e 4 (by omega), e 5 (by omega), e 6 (by omega), e 7 (by omega), e 8 (by omega), e 9 (by omega), e 10 (by omega), e 11 (by omega)] at h
      simp at h
theorem valid_step (s : StepD) : validB s = stepB s := by
  by_cases h : validB s = true ∨ stepB s = true
  · obtain ⟨k, o, d, r, m, t⟩ := s
    rcases valid_kind h with rfl | rfl | rfl | rfl | rfl | rfl | rfl | rfl | rfl | rfl | rfl <;>
    · rw [Bool.eq_iff_iff]
      simp [validB, stepB, fldL, okF, getF, rgF, restF, clrF, zeroB, inB]
      try omega
  · cases h1 : validB s <;> cases h2 : stepB s <;> simp_all
end Go.Vm.Ytdembjfpgfaheaa
/- Walks: valid programs. -/
namespace Go.Vm.Ytdembjfpgfaheaa
open Go Go.Vm
set_option maxRecDepth 10000
set_option maxHeartbeats 8000000
set_option linter.unusedSimpArgs false
set_option linter.unusedVariables false

def jumpB (s : StepD) : Bool := s.kind == 8 || (s.kind == 9 || s.kind == 10)
theorem impl_Step_jumps.fc (s : StepD) : FCt prog F_impl_Step_jumps [.ro] [s.d] (Bb (jumpB s)) [] := by
  refine fct_run impl_Step_jumps.ok rfl ?_
  unfold jumpB
  repeat' (first | with_reducible rfl | with_reducible refine cdW_dec (fun _ => ?_) (fun _ => ?_) | refine cdW_not (fun _ => ?_) (fun _ => ?_) | refine cdW_any (fun _ => ?_) (fun _ => ?_) | with_reducible refine gdW_decT (fun _ => ?_) (fun _ => ?_) | with_reducible refine gdW_decF (fun _ => ?_) (fun _ => ?_) | refine gdW_not (fun _ => ?_) (fun _ => ?_) | refine gdW_any (fun _ => ?_) (fun _ => ?_) | simp only [go_sem, ↓reduceIte, Nat.reduceEqDiff, Nat.reduceAdd, Nat.reduceMul, Nat.reduceBEq, Option.getD_none, Int.reduceToNat, Nat.reduceSub, Nat.reduceLT, Nat.reduceLeDiff, Int.reduceLE, Int.reduceLT, reduceCtorEq, bne, Int.reduceEq, Int.reduceBEq, Int.reduceBNe, Int.reduceLE, Int.reduceNeg, Int.reduceAdd, Int.reduceSub, Int.reduceMul, *] | rfl)
structure StepOk (s : StepD) : Prop where
  kind : 1 ≤ s.kind ∧ s.kind ≤ 11
  dst : 0 ≤ s.dst ∧ s.dst ≤ 5
  src : 0 ≤ s.src ∧ s.src ≤ 5
  imm : 0 ≤ s.imm ∧ s.imm ≤ 65535
  op : 0 ≤ s.op ∧ s.op ≤ 10
  to : 0 ≤ s.to ∧ s.to ≤ 19
  jmp : s.to > 0 ↔ s.kind = 8 ∨ s.kind = 9 ∨ s.kind = 10
  iop : s.kind = 1 ∨ s.kind = 2 → 1 ≤ s.op
theorem step_ok {s : StepD} (h : stepB s = true) : StepOk s := by
  obtain ⟨k, o, d, r, m, t⟩ := s
  rcases valid_kind (.inr h) with rfl | rfl | rfl | rfl | rfl | rfl | rfl | rfl | rfl | rfl | rfl <;>
  · simp [stepB, zeroB, inB] at h
    constructor <;> dsimp only <;> omega
theorem jump_to {s : StepD} (h : stepB s = true) : jumpB s = decide (s.to > 0) := by
  have := (step_ok h).jmp
  rw [Bool.eq_iff_iff, decide_eq_true_eq, this]
  simp [jumpB]
def okAt (p : List StepD) (i : Nat) : Bool := match p[i]? with
  | some s => stepB s && !(decide (s.to > 0) && decide ((i : Int) + s.to + 1 ≥ p.length))
  | none => false
def lastK (p : List StepD) : Int := match p[p.length - 1]? with
  | some s => s.kind
  | none => 0
def goodP (p : List StepD) : Bool := inB p.length 1 20 && (lastK p == 11) && (List.range p.length).all (okAt p)
theorem goodP_not {p : List StepD} {i : Nat} (hi : i < p.length) (h : okAt p i = false) : goodP p = false := by
  unfold goodP; rw [not_range hi h, Bool.and_false]
theorem impl_GoodProgram.fc (p : List StepD) (hp : p.length ≤ 4194304) : FCt prog F_impl_GoodProgram [.ro] [steps p] (Bb (goodP p)) [] := by
  refine fct_run impl_GoodProgram.ok rfl ?_
  simp only [go_sem, ↓reduceIte, Nat.reduceEqDiff, Nat.reduceAdd, Nat.reduceMul, Nat.reduceBEq, Option.getD_none, Int.reduceToNat, Nat.reduceSub, Nat.reduceLT, Nat.reduceLeDiff, Int.reduceLE, Int.reduceLT, reduceCtorEq]
  refine fcW_bool (impl_in.fc _ _ _) ?_
  cases h1 : inB p.length 1 20 with
  | false =>
    have : goodP p = false := by unfold goodP; rw [h1]; rfl
    simp only [go_sem, ↓reduceIte, Nat.reduceEqDiff, Nat.reduceAdd, Nat.reduceMul, Nat.reduceBEq, Option.getD_none, Int.reduceToNat, Nat.reduceSub, Nat.reduceLT, Nat.reduceLeDiff, Int.reduceLE, Int.reduceLT, reduceCtorEq, this]
  | true =>
    have hl : 1 ≤ p.length ∧ p.length ≤ 20 := by simp [inB] at h1; omega
    have w1 : IntKind.i64.wrap ((p.length : Int) - 1) = ((p.length - 1 : Nat) : Int) := by rw [wrap_in (by omega) (by omega)]; omega
    have g1 : p[p.length - 1]? = some (p[p.length - 1]'(by omega)) := List.getElem?_eq_getElem (by omega)
    have b1 : ((p.length - 1 : Nat) : Int) < p.length := by omega
    have hk : lastK p = (p[p.length - 1]'(by omega)).kind := by unfold lastK; rw [g1]
    simp only [go_sem, ↓reduceIte, Nat.reduceEqDiff, Nat.reduceAdd, Nat.reduceMul, Nat.reduceBEq, Option.getD_none, Int.reduceToNat, Nat.reduceSub, Nat.reduceLT, Nat.reduceLeDiff, Int.reduceLE, Int.reduceLT, reduceCtorEq, w1, g1, b1]
    cases h2 : ((p[p.length - 1]'(by omega)).kind == 11) with
    | false =>
      have : goodP p = false := by unfold goodP; rw [hk, h2, Bool.and_false]; rfl
      have h3 : ((p[p.length - 1]'(by omega)).kind != 11) = true := by rw [bne, h2]; rfl
      simp only [go_sem, ↓reduceIte, Nat.reduceEqDiff, Nat.reduceAdd, Nat.reduceMul, Nat.reduceBEq, Option.getD_none, Int.reduceToNat, Nat.reduceSub, Nat.reduceLT, Nat.reduceLeDiff, Int.reduceLE, Int.reduceLT, reduceCtorEq, this, h3]
    | true =>
      have h3 : ((p[p.length - 1]'(by omega)).kind != 11) = false := by rw [bne, h2]; rfl
      simp only [go_sem, ↓reduceIte, Nat.reduceEqDiff, Nat.reduceAdd, Nat.reduceMul, Nat.reduceBEq, Option.getD_none, Int.reduceToNat, Nat.reduceSub, Nat.reduceLT, Nat.reduceLeDiff, Int.reduceLE, Int.reduceLT, reduceCtorEq, h3]
      refine R_loop (α := Nat) (fun i s' M' => i ≤ p.length ∧ s' 21 = aI i ∧ (List.range i).all (okAt p) = true) (fun i => p.length - i) 0 ⟨by omega, by simp only [go_sem, ↓reduceIte, Nat.reduceEqDiff, Nat.reduceAdd, Nat.reduceMul, Nat.reduceBEq, Option.getD_none, Int.reduceToNat, Nat.reduceSub, Nat.reduceLT, Nat.reduceLeDiff, Int.reduceLE, Int.reduceLT, reduceCtorEq]; rfl, by simp⟩ ?_
      rintro i s' M' ⟨hi, h21, hr⟩ ho
      unfold impl_GoodProgram.b0
      have k0 : s' 0 = .dat none (steps p) := by rw [ho 0 rfl]; simp only [go_sem, ↓reduceIte, Nat.reduceEqDiff, Nat.reduceAdd, Nat.reduceMul, Nat.reduceBEq, Option.getD_none, Int.reduceToNat, Nat.reduceSub, Nat.reduceLT, Nat.reduceLeDiff, Int.reduceLE, Int.reduceLT, reduceCtorEq]
      have k19 : s' 19 = .dat none (steps p) := by rw [ho 19 rfl]; simp only [go_sem, ↓reduceIte, Nat.reduceEqDiff, Nat.reduceAdd, Nat.reduceMul, Nat.reduceBEq, Option.getD_none, Int.reduceToNat, Nat.reduceSub, Nat.reduceLT, Nat.reduceLeDiff, Int.reduceLE, Int.reduceLT, reduceCtorEq]
      have k20 : s' 20 = aI p.length := by rw [ho 20 rfl]; simp only [go_sem, ↓reduceIte, Nat.reduceEqDiff, Nat.reduceAdd, Nat.reduceMul, Nat.reduceBEq, Option.getD_none, Int.reduceToNat, Nat.reduceSub, Nat.reduceLT, Nat.reduceLeDiff, Int.reduceLE, Int.reduceLT, reduceCtorEq]
      clear ho
      by_cases hlt : i < p.length
      · have hi' : (i : Int) < p.length := by omega
        have ga : p[i]? = some p[i] := List.getElem?_eq_getElem hlt
        have hw : IntKind.i64.wrap (i + 1) = ((i + 1 : Nat) : Int) := wrap_k hlt (by omega)
        have bad := goodP_not hlt
        have oka : okAt p i = (stepB p[i] && !(decide (p[i].to > 0) && decide ((i : Int) + p[i].to + 1 ≥ p.length))) := by unfold okAt; rw [ga]
        simp only [go_sem, ↓reduceIte, Nat.reduceEqDiff, Nat.reduceAdd, Nat.reduceMul, Nat.reduceBEq, Option.getD_none, Int.reduceToNat, Nat.reduceSub, Nat.reduceLT, Nat.reduceLeDiff, Int.reduceLE, Int.reduceLT, reduceCtorEq, hi', ga, k0, k19, k20, h21]
        refine fcW_bool (impl_Step_valid.fc p[i]) ?_
        rw [valid_step]
        cases hv : stepB p[i] with
        | false =>
          have hb := bad (by rw [oka, hv, Bool.false_and])
          simp only [go_sem, ↓reduceIte, Nat.reduceEqDiff, Nat.reduceAdd, Nat.reduceMul, Nat.reduceBEq, Option.getD_none, Int.reduceToNat, Nat.reduceSub, Nat.reduceLT, Nat.reduceLeDiff, Int.reduceLE, Int.reduceLT, reduceCtorEq, hb, k0, k19, k20, h21]
        | true =>
          have ok := step_ok hv
          rw [hv, Bool.true_and] at oka
          simp only [go_sem, ↓reduceIte, Nat.reduceEqDiff, Nat.reduceAdd, Nat.reduceMul, Nat.reduceBEq, Option.getD_none, Int.reduceToNat, Nat.reduceSub, Nat.reduceLT, Nat.reduceLeDiff, Int.reduceLE, Int.reduceLT, reduceCtorEq, k0, k19, k20, h21]
          refine fcW_bool (impl_Step_jumps.fc p[i]) ?_
          rw [jump_to hv]
          have w2 : IntKind.i64.wrap ((i : Int) + p[i].to) = (i : Int) + p[i].to := by have := ok.to; exact wrap_in (by omega) (by omega)
          have w3 : IntKind.i64.wrap ((i : Int) + p[i].to + 1) = (i : Int) + p[i].to + 1 := by have := ok.to; exact wrap_in (by omega) (by omega)
          by_cases hj : p[i].to > 0
          · by_cases he : (i : Int) + p[i].to + 1 ≥ p.length
            · have hb := bad (by rw [oka, decide_eq_true hj, decide_eq_true he]; rfl)
              simp only [go_sem, ↓reduceIte, Nat.reduceEqDiff, Nat.reduceAdd, Nat.reduceMul, Nat.reduceBEq, Option.getD_none, Int.reduceToNat, Nat.reduceSub, Nat.reduceLT, Nat.reduceLeDiff, Int.reduceLE, Int.reduceLT, reduceCtorEq, hj, he, w2, w3, hb, k0, k19, k20, h21]
            · simp only [go_sem, ↓reduceIte, Nat.reduceEqDiff, Nat.reduceAdd, Nat.reduceMul, Nat.reduceBEq, Option.getD_none, Int.reduceToNat, Nat.reduceSub, Nat.reduceLT, Nat.reduceLeDiff, Int.reduceLE, Int.reduceLT, reduceCtorEq, hj, he, w2, w3, hw, k0, k19, k20, h21]
              exact ⟨i + 1, by dsimp only; omega, by omega, by simp only [go_sem, ↓reduceIte, Nat.reduceEqDiff, Nat.reduceAdd, Nat.reduceMul, Nat.reduceBEq, Option.getD_none, Int.reduceToNat, Nat.reduceSub, Nat.reduceLT, Nat.reduceLeDiff, Int.reduceLE, Int.reduceLT, reduceCtorEq, k0, k19, k20, h21], all_range hr (by rw [oka, decide_eq_false he, Bool.and_false]; rfl)⟩
          · simp only [go_sem, ↓reduceIte, Nat.reduceEqDiff, Nat.reduceAdd, Nat.reduceMul, Nat.reduceBEq, Option.getD_none, Int.reduceToNat, Nat.reduceSub, Nat.reduceLT, Nat.reduceLeDiff, Int.reduceLE, Int.reduceLT, reduceCtorEq, hj, hw, k0, k19, k20, h21]
            exact ⟨i + 1, by dsimp only; omega, by omega, by simp only [go_sem, ↓reduceIte, Nat.reduceEqDiff, Nat.reduceAdd, Nat.reduceMul, Nat.reduceBEq, Option.getD_none, Int.reduceToNat, Nat.reduceSub, Nat.reduceLT, Nat.reduceLeDiff, Int.reduceLE, Int.reduceLT, reduceCtorEq, k0, k19, k20, h21], all_range hr (by rw [oka, decide_eq_false hj, Bool.false_and]; rfl)⟩
      · have hi' : ¬ (i : Int) < p.length := by omega
        obtain rfl : i = p.length := by omega
        have : goodP p = true := by unfold goodP; rw [h1, hk, h2, hr]; rfl
        simp only [go_sem, ↓reduceIte, Nat.reduceEqDiff, Nat.reduceAdd, Nat.reduceMul, Nat.reduceBEq, Option.getD_none, Int.reduceToNat, Nat.reduceSub, Nat.reduceLT, Nat.reduceLeDiff, Int.reduceLE, Int.reduceLT, reduceCtorEq, this, Int.lt_irrefl, k0, k19, k20, h21]
theorem spec_GoodProgram.fc (p : List StepD) (hp : p.length ≤ 4194304) : FCt prog F_spec_GoodProgram [.ro] [steps p] (Bb (goodP p)) [] := by
  refine fct_run spec_GoodProgram.ok rfl ?_
  simp only [go_sem, ↓reduceIte, Nat.reduceEqDiff, Nat.reduceAdd, Nat.reduceMul, Nat.reduceBEq, Option.getD_none, Int.reduceToNat, Nat.reduceSub, Nat.reduceLT, Nat.reduceLeDiff, Int.reduceLE, Int.reduceLT, reduceCtorEq]
  refine R_loop (α := Nat) (fun i s' M' => i ≤ p.length ∧ s' 7 = aI i ∧ (List.range i).all (okAt p) = true) (fun i => p.length - i) 0 ⟨by omega, by simp only [go_sem, ↓reduceIte, Nat.reduceEqDiff, Nat.reduceAdd, Nat.reduceMul, Nat.reduceBEq, Option.getD_none, Int.reduceToNat, Nat.reduceSub, Nat.reduceLT, Nat.reduceLeDiff, Int.reduceLE, Int.reduceLT, reduceCtorEq]; rfl, by simp⟩ ?_
  rintro i s' M' ⟨hi, h21, hr⟩ ho
  unfold spec_GoodProgram.b0
  have k0 : s' 0 = .dat none (steps p) := by rw [ho 0 rfl]; simp only [go_sem, ↓reduceIte, Nat.reduceEqDiff, Nat.reduceAdd, Nat.reduceMul, Nat.reduceBEq, Option.getD_none, Int.reduceToNat, Nat.reduceSub, Nat.reduceLT, Nat.reduceLeDiff, Int.reduceLE, Int.reduceLT, reduceCtorEq]
  have k5 : s' 5 = .dat none (steps p) := by rw [ho 5 rfl]; simp only [go_sem, ↓reduceIte, Nat.reduceEqDiff, Nat.reduceAdd, Nat.reduceMul, Nat.reduceBEq, Option.getD_none, Int.reduceToNat, Nat.reduceSub, Nat.reduceLT, Nat.reduceLeDiff, Int.reduceLE, Int.reduceLT, reduceCtorEq]
  have k6 : s' 6 = aI p.length := by rw [ho 6 rfl]; simp only [go_sem, ↓reduceIte, Nat.reduceEqDiff, Nat.reduceAdd, Nat.reduceMul, Nat.reduceBEq, Option.getD_none, Int.reduceToNat, Nat.reduceSub, Nat.reduceLT, Nat.reduceLeDiff, Int.reduceLE, Int.reduceLT, reduceCtorEq]
  clear ho
  by_cases hlt : i < p.length
  · have hi' : (i : Int) < p.length := by omega
    have ga : p[i]? = some p[i] := List.getElem?_eq_getElem hlt
    have hw : IntKind.i64.wrap (i + 1) = ((i + 1 : Nat) : Int) := wrap_k hlt (by omega)
    have bad := goodP_not hlt
    have oka : okAt p i = (stepB p[i] && !(decide (p[i].to > 0) && decide ((i : Int) + p[i].to + 1 ≥ p.length))) := by unfold okAt; rw [ga]
    simp only [go_sem, ↓reduceIte, Nat.reduceEqDiff, Nat.reduceAdd, Nat.reduceMul, Nat.reduceBEq, Option.getD_none, Int.reduceToNat, Nat.reduceSub, Nat.reduceLT, Nat.reduceLeDiff, Int.reduceLE, Int.reduceLT, reduceCtorEq, hi', ga, k0, k5, k6, h21]
    refine fcW_bool (spec_l2Step.fc p[i]) ?_
    cases hv : stepB p[i] with
    | false =>
      have hb := bad (by rw [oka, hv, Bool.false_and])
      simp only [go_sem, ↓reduceIte, Nat.reduceEqDiff, Nat.reduceAdd, Nat.reduceMul, Nat.reduceBEq, Option.getD_none, Int.reduceToNat, Nat.reduceSub, Nat.reduceLT, Nat.reduceLeDiff, Int.reduceLE, Int.reduceLT, reduceCtorEq, hb, k0, k5, k6, h21]
    | true =>
      have ok := step_ok hv
      rw [hv, Bool.true_and] at oka
      have w2 : IntKind.i64.wrap ((i : Int) + p[i].to) = (i : Int) + p[i].to := by have := ok.to; exact wrap_in (by omega) (by omega)
      have w3 : IntKind.i64.wrap ((i : Int) + p[i].to + 1) = (i : Int) + p[i].to + 1 := by have := ok.to; exact wrap_in (by omega) (by omega)
      by_cases hj : p[i].to > 0
      · by_cases he : (i : Int) + p[i].to + 1 ≥ p.length
        · have hb := bad (by rw [oka, decide_eq_true hj, decide_eq_true he]; rfl)
          simp only [go_sem, ↓reduceIte, Nat.reduceEqDiff, Nat.reduceAdd, Nat.reduceMul, Nat.reduceBEq, Option.getD_none, Int.reduceToNat, Nat.reduceSub, Nat.reduceLT, Nat.reduceLeDiff, Int.reduceLE, Int.reduceLT, reduceCtorEq, hj, he, w2, w3, hb, k0, k5, k6, h21]
        · simp only [go_sem, ↓reduceIte, Nat.reduceEqDiff, Nat.reduceAdd, Nat.reduceMul, Nat.reduceBEq, Option.getD_none, Int.reduceToNat, Nat.reduceSub, Nat.reduceLT, Nat.reduceLeDiff, Int.reduceLE, Int.reduceLT, reduceCtorEq, hj, he, w2, w3, hw, k0, k5, k6, h21]
          exact ⟨i + 1, by dsimp only; omega, by omega, by simp only [go_sem, ↓reduceIte, Nat.reduceEqDiff, Nat.reduceAdd, Nat.reduceMul, Nat.reduceBEq, Option.getD_none, Int.reduceToNat, Nat.reduceSub, Nat.reduceLT, Nat.reduceLeDiff, Int.reduceLE, Int.reduceLT, reduceCtorEq, k0, k5, k6, h21], all_range hr (by rw [oka, decide_eq_false he, Bool.and_false]; rfl)⟩
      · simp only [go_sem, ↓reduceIte, Nat.reduceEqDiff, Nat.reduceAdd, Nat.reduceMul, Nat.reduceBEq, Option.getD_none, Int.reduceToNat, Nat.reduceSub, Nat.reduceLT, Nat.reduceLeDiff, Int.reduceLE, Int.reduceLT, reduceCtorEq, hj, hw, k0, k5, k6, h21]
        exact ⟨i + 1, by dsimp only; omega, by omega, by simp only [go_sem, ↓reduceIte, Nat.reduceEqDiff, Nat.reduceAdd, Nat.reduceMul, Nat.reduceBEq, Option.getD_none, Int.reduceToNat, Nat.reduceSub, Nat.reduceLT, Nat.reduceLeDiff, Int.reduceLE, Int.reduceLT, reduceCtorEq, k0, k5, k6, h21], all_range hr (by rw [oka, decide_eq_false hj, Bool.false_and]; rfl)⟩
  · have hi' : ¬ (i : Int) < p.length := by omega
    obtain rfl : i = p.length := by omega
    simp only [go_sem, ↓reduceIte, Nat.reduceEqDiff, Nat.reduceAdd, Nat.reduceMul, Nat.reduceBEq, Option.getD_none, Int.reduceToNat, Nat.reduceSub, Nat.reduceLT, Nat.reduceLeDiff, Int.reduceLE, Int.reduceLT, reduceCtorEq, Int.lt_irrefl, k0, k5, k6, h21]
    refine fcW_bool (spec_l1In.fc _ _ _) ?_
    cases h1 : inB p.length 1 20 with
    | false =>
      have : goodP p = false := by unfold goodP; rw [h1]; rfl
      simp only [go_sem, ↓reduceIte, Nat.reduceEqDiff, Nat.reduceAdd, Nat.reduceMul, Nat.reduceBEq, Option.getD_none, Int.reduceToNat, Nat.reduceSub, Nat.reduceLT, Nat.reduceLeDiff, Int.reduceLE, Int.reduceLT, reduceCtorEq, this, k0, k5, k6, h21]
    | true =>
      have hl : 1 ≤ p.length ∧ p.length ≤ 20 := by simp [inB] at h1; omega
      have w1 : IntKind.i64.wrap ((p.length : Int) - 1) = ((p.length - 1 : Nat) : Int) := by rw [wrap_in (by omega) (by omega)]; omega
      have g1 : p[p.length - 1]? = some (p[p.length - 1]'(by omega)) := List.getElem?_eq_getElem (by omega)
      have b1 : ((p.length - 1 : Nat) : Int) < p.length := by omega
      have hk : lastK p = (p[p.length - 1]'(by omega)).kind := by unfold lastK; rw [g1]
      have : goodP p = ((p[p.length - 1]'(by omega)).kind == 11) := by unfold goodP; rw [h1, hk, hr, Bool.and_true, Bool.true_and]
      simp only [go_sem, ↓reduceIte, Nat.reduceEqDiff, Nat.reduceAdd, Nat.reduceMul, Nat.reduceBEq, Option.getD_none, Int.reduceToNat, Nat.reduceSub, Nat.reduceLT, Nat.reduceLeDiff, Int.reduceLE, Int.reduceLT, reduceCtorEq, w1, g1, b1, this, k0, k5, k6, h21]
end Go.Vm.Ytdembjfpgfaheaa
/- Walks: contexts; a machine's step. -/
namespace Go.Vm.Ytdembjfpgfaheaa
open Go Go.Vm
set_option maxRecDepth 10000
set_option maxHeartbeats 16000000
set_option linter.unusedSimpArgs false
set_option linter.unusedVariables false

structure MachLen (m : MachD) : Prop where
  regs : m.regs.length = 6
  cells : m.cells.length = 16
  isset : m.isset.length = 16
theorem MachOk.len {m : MachD} (h : MachOk m) : MachLen m := ⟨h.regs, h.cells, h.isset⟩
end Go.Vm.Ytdembjfpgfaheaa
/- Walks: a machine's step, by the reference. -/
namespace Go.Vm.Ytdembjfpgfaheaa
open Go Go.Vm
set_option maxRecDepth 10000
set_option maxHeartbeats 16000000
set_option linter.unusedSimpArgs false
set_option linter.unusedVariables false

end Go.Vm.Ytdembjfpgfaheaa
/- Walks: one step of a machine, if all is valid. -/
namespace Go.Vm.Ytdembjfpgfaheaa
open Go Go.Vm
set_option maxRecDepth 10000
set_option maxHeartbeats 16000000
set_option linter.unusedSimpArgs false
set_option linter.unusedVariables false

structure ProgOk (p : List StepD) : Prop where
  len : 1 ≤ p.length ∧ p.length ≤ 20
  all : ∀ (i : Nat) (h : i < p.length), stepB p[i] = true ∧ (p[i].to > 0 → (i : Int) + p[i].to + 1 < p.length)
  last : lastK p = 11
theorem prog_ok {p : List StepD} (h : goodP p = true) : ProgOk p := by
  simp only [goodP, Bool.and_eq_true, inB, decide_eq_true_eq, beq_iff_eq, List.all_eq_true, List.mem_range] at h
  refine ⟨by omega, fun i hi => ?_, h.1.2⟩
  have := h.2 i hi
  unfold okAt at this
  rw [List.getElem?_eq_getElem hi] at this
  simp only [Bool.and_eq_true, Bool.not_eq_true', Bool.and_eq_false_iff, decide_eq_false_iff_not] at this
  exact ⟨this.1, by omega⟩
end Go.Vm.Ytdembjfpgfaheaa
/- Walks: the contexts that are tried. -/
namespace Go.Vm.Ytdembjfpgfaheaa
open Go Go.Vm
set_option maxRecDepth 10000
set_option maxHeartbeats 16000000
set_option linter.unusedSimpArgs false
set_option linter.unusedVariables false

theorem map_snoc {α : Type} {f : α → D} {l : List α} {x : α} : l.map f ++ [f x] = (l ++ [x]).map f := by rw [List.map_append]; rfl
end Go.Vm.Ytdembjfpgfaheaa
/- Walks: the contexts that are tried, by the reference. -/
namespace Go.Vm.Ytdembjfpgfaheaa
open Go Go.Vm
set_option maxRecDepth 10000
set_option maxHeartbeats 16000000
set_option linter.unusedSimpArgs false
set_option linter.unusedVariables false

end Go.Vm.Ytdembjfpgfaheaa
/- slices.Sort, by the kit's contract: rows of whole numbers are put in order. -/
namespace Go.Vm.Ytdembjfpgfaheaa
open Go Go.Vm
set_option maxRecDepth 10000
set_option maxHeartbeats 4000000
set_option linter.unusedSimpArgs false
set_option linter.unusedVariables false

def sortI (l : List Int) : List Int := l.mergeSort fun x y => decide (x ≤ y)
theorem TE_int {X : Nat → Prop} {o : Bool} {w : World} : ∀ {l : List Int} {vs : List Value} {F : List Nat}, TE X o w 1 (l.map Ii) vs F ↔ vs = l.map (Value.int .i64) ∧ F = []
  | [], vs, F => by simp only [List.map_nil, TE]
  | n :: l, vs, F => by
    rw [List.map_cons, TE_cons]
    constructor
    · rintro ⟨us, r, F1, F2, rfl, _, rfl, h1, h2⟩
      obtain ⟨u, rfl, h1⟩ := h1
      simp only [TV] at h1
      obtain ⟨rfl, rfl⟩ := h1
      obtain ⟨rfl, rfl⟩ := TE_int.1 h2
      exact ⟨rfl, rfl⟩
    · rintro ⟨rfl, rfl⟩
      exact ⟨[.int .i64 n], _, [], [], rfl, ⟨rfl, by intro u hu; rw [List.mem_singleton] at hu; subst hu; rfl⟩, rfl, ⟨_, rfl, by simp [TV]⟩, TE_int.2 ⟨rfl, rfl⟩⟩
theorem add_none {b off j : Nat} : (⟨b, off, none⟩ : Addr).add j = ⟨b, off + j, none⟩ := by
  unfold Addr.add
  split
  · rename_i h; simp_all
  · rfl
theorem slices_Sort__sint_int.fc (l : List Int) (hl : l.length ≤ 4294967296) : FCt prog F_slices_Sort__sint_int [.io] [ints l] (.tup []) [ints (sortI l)] := by
  refine ⟨by kernel_rfl, ?_⟩
  intro Y w args F hY hF hFY har
  simp only [AR] at har
  obtain ⟨d, ds', v, vs', F1, F2, hd, rfl, rfl, hv, hds, rfl, rfl⟩ := har
  cases hd
  simp only [List.append_nil] at hv hF hFY hY ⊢
  simp only [TV, Md.own] at hv
  have hls : (sortI l).length = l.length := List.length_mergeSort l
  rcases hv with ⟨hx, hn, rfl⟩ | ⟨a, c, vs, rfl, hsp, hlc, hb, hcl, hown⟩
  · obtain rfl : l = [] := by cases l with | nil => rfl | cons a l => cases hx
    have := hn.own
    subst this
    refine Calls.mono (Go.Proofs.Any.slices_Sort_int_none Go.Proofs.Try.laysSort none 0 w) ?_
    rintro e w' ⟨rfl, rfl⟩
    refine ⟨Nat.le_refl _, IOk.refl, fun _ _ _ => rfl, [], [], by simp, by simp, ?_, ?_⟩
    · simp [TV, TL]
    · simp only [AO, if_true]
      refine ⟨_, [], rfl, _, [], [], [], rfl, rfl, ?_, rfl⟩
      simp only [TV]
      exact .inl ⟨by simp [sortI], hn, trivial⟩
  · rcases hown with ⟨_, F', rfl, hrm, hte⟩ | ⟨ho, _⟩
    case inr => simp at ho
    obtain ⟨rfl, rfl⟩ := TE_int.1 hte
    obtain ⟨cs, E, hblk, hsz⟩ := hrm
    obtain ⟨b, off, sp⟩ := a
    dsimp only at hsp hb hblk hsz hcl
    subst hsp
    rw [List.length_map] at *
    have hH : Go.Sort.Holds (Value.int .i64) w b off l.toArray := by
      intro j hj
      have hj' : j < l.length := by simpa using hj
      refine ⟨?_, by simp [World.frozen?, hblk]⟩
      have := hcl j (.int .i64 l[j]) (by simp [hj'])
      rw [add_none] at this
      rw [this]
      simp [hj']
    refine Calls.mono (Go.Proofs.Any.slices_Sort_int Go.Proofs.Try.laysSort b off c l w hH hb (by omega)) ?_
    rintro e w' ⟨rfl, n, os, hw0⟩
    have hw' : Go.Sort.grow (Go.Sort.putRow (Value.int .i64) (Go.Sort.ahead w n) b off (sortI l).toArray) os = w' := hw0.symm
    clear hw0
    have hz : (sortI l).toArray.size = l.toArray.size := by simp [hls]
    have hheap : ∀ i, i < w.heap.size → (Go.Sort.grow (Go.Sort.putRow (Value.int .i64) (Go.Sort.ahead w n) b off (sortI l).toArray) os).heap[i]? = (w.heap.modify b (Go.Sort.onCells (Go.Sort.putCells (Value.int .i64) off (sortI l).toArray)))[i]? := by
      intro i hi
      show ((w.heap.modify b _) ++ os)[i]? = _
      rw [Array.getElem?_append_left (by simpa using hi)]
    have hother : ∀ i, i < w.heap.size → i ≠ b → (Go.Sort.grow (Go.Sort.putRow (Value.int .i64) (Go.Sort.ahead w n) b off (sortI l).toArray) os).heap[i]? = w.heap[i]? := by
      intro i hi hne
      rw [hheap i hi, Array.getElem?_modify, if_neg (fun h => hne h.symm)]
    have hsame : (Go.Sort.grow (Go.Sort.putRow (Value.int .i64) (Go.Sort.ahead w n) b off (sortI l).toArray) os).heap[b]? = some (.cells (Go.Sort.putCells (Value.int .i64) off (sortI l).toArray cs) E (0, 0)) := by
      rw [hheap b hb, Array.getElem?_modify, if_pos rfl, hblk]; rfl
    have hsize : w.heap.size ≤ (Go.Sort.grow (Go.Sort.putRow (Value.int .i64) (Go.Sort.ahead w n) b off (sortI l).toArray) os).heap.size := by
      show _ ≤ ((w.heap.modify b _) ++ os).size
      simp
    have hcs : (Go.Sort.putCells (Value.int .i64) off (sortI l).toArray cs).size = cs.size := by simp [Go.Sort.putCells]
    rw [hw'] at hother hsame hsize
    have hio : IOk w w' := by
      subst hw'
      refine ⟨rfl, rfl, rfl, fun i cs' E' fr hk => ?_⟩
      have hi : i < w.heap.size := (Array.getElem?_eq_some_iff.1 hk).1
      by_cases hib : i = b
      · subst hib
        rw [hblk] at hk
        cases hk
        exact ⟨_, _, hsame, hcs⟩
      · exact ⟨cs', E', by rw [hother i hi hib]; exact hk, rfl⟩
    refine ⟨hsize, hio, fun i hi hne => hother i hi (fun h => hne (by simp [h])), [], [b], by simp, by simp, ?_, ?_⟩
    · simp [TV, TL]
    · simp only [AO, if_true]
      refine ⟨_, [], rfl, _, [], [b], [], rfl, rfl, ?_, rfl⟩
      simp only [TV]
      refine .inr ⟨⟨b, off, none⟩, c, (sortI l).map (Value.int .i64), by rw [List.length_map, hls], rfl, by rw [List.length_map, hls]; exact hlc, by show b < _; omega, ?_, .inl ⟨trivial, [], rfl, ⟨_, E, hsame, by rw [hcs]; exact hsz⟩, TE_int.2 ⟨rfl, rfl⟩⟩⟩
      intro k v hk
      rw [add_none]
      obtain ⟨hkl, rfl⟩ := List.getElem?_eq_some_iff.1 hk
      rw [List.length_map] at hkl
      have hoff : off + k < cs.size := by
        rcases hsz with h | h
        · omega
        · have : l.length ≤ c := by simpa using hlc
          omega
      simp only [World.cell?, hsame]
      simp [Go.Sort.putCells, hoff, hkl]
end Go.Vm.Ytdembjfpgfaheaa
/- Plain laws: literals that one leads to. -/
namespace Go.Vm.Ytdembjfpgfaheaa
open Go Go.Vm
set_option maxRecDepth 10000
set_option maxHeartbeats 4000000
set_option linter.unusedSimpArgs false
set_option linter.unusedVariables false

/-- an arc of the clauses -/
def Arc (l : List (List Int)) (a b : Int) : Prop := ∃ c ∈ l, ∃ k, k < c.length ∧ c[k]? = some (-a) ∧ c[c.length - 1 - k]? = some b
inductive Reach (l : List (List Int)) (x : Int) : Int → Prop
  | refl : Reach l x x
  | step {y z : Int} : Reach l x y → Arc l y z → Reach l x z
def Lit (v : Nat) (x : Int) : Prop := x ≠ 0 ∧ -(v : Int) ≤ x ∧ x ≤ v
/-- strictly increasing -/
def Inc (l : List Int) : Prop := l.Pairwise (· < ·)
theorem inc_ext : ∀ {a b : List Int}, Inc a → Inc b → (∀ x, x ∈ a ↔ x ∈ b) → a = b
  | [], [], _, _, _ => rfl
  | [], y :: b, _, _, h => by have := (h y).2 List.mem_cons_self; cases this
  | x :: a, [], _, _, h => by have := (h x).1 List.mem_cons_self; cases this
  | x :: a, y :: b, ha, hb, h => by
    obtain ⟨ha1, ha2⟩ := List.pairwise_cons.1 ha
    obtain ⟨hb1, hb2⟩ := List.pairwise_cons.1 hb
    have hxy : x = y := by
      rcases List.mem_cons.1 ((h x).1 List.mem_cons_self) with e | e
      · exact e
      · rcases List.mem_cons.1 ((h y).2 List.mem_cons_self) with e2 | e2
        · exact e2.symm
        · have := hb1 x e; have := ha1 y e2; omega
    subst hxy
    refine congrArg _ (inc_ext ha2 hb2 fun z => ?_)
    constructor
    · intro hz
      rcases List.mem_cons.1 ((h z).1 (List.mem_cons_of_mem _ hz)) with e | e
      · have := ha1 z hz; omega
      · exact e
    · intro hz
      rcases List.mem_cons.1 ((h z).2 (List.mem_cons_of_mem _ hz)) with e | e
      · have := hb1 z hz; omega
      · exact e
theorem sortI_mem {l : List Int} {x : Int} : x ∈ sortI l ↔ x ∈ l := List.mem_mergeSort
/-- clauses of literals -/
def LitsOk (v : Nat) (l : List (List Int)) : Prop := ∀ c ∈ l, ∀ n ∈ c, Lit v n
theorem arc_lit {v : Nat} {l : List (List Int)} {a b : Int} (hl : LitsOk v l) (h : Arc l a b) : Lit v b := by
  obtain ⟨c, hc, k, _, _, hb⟩ := h
  exact hl c hc b (List.mem_of_getElem? hb)
theorem reach_lit {v : Nat} {l : List (List Int)} {x y : Int} (hl : LitsOk v l) (hx : Lit v x) (h : Reach l x y) : Lit v y := by
  cases h with
  | refl => exact hx
  | step _ h => exact arc_lit hl h
theorem nodup_few {v : Nat} {l : List Int} (hn : l.Nodup) (h : ∀ y ∈ l, Lit v y) : l.length ≤ 2 * v + 1 := by
  have h1 : (l.map fun y => (y + (v : Int)).toNat).Nodup := by
    refine List.pairwise_map.2 (List.Pairwise.imp_of_mem (fun {x y} hx hy hne e => ?_) hn)
    have := h x hx; have := h y hy
    unfold Lit at *
    omega
  have := len_le_of_lt (2 * v + 1) _ h1 (by
    intro z hz
    obtain ⟨y, hy, rfl⟩ := List.mem_map.1 hz
    have := h y hy
    unfold Lit at this
    omega)
  simpa using this
end Go.Vm.Ytdembjfpgfaheaa
/- Walks: what a literal leads to. -/
namespace Go.Vm.Ytdembjfpgfaheaa
open Go Go.Vm
set_option maxRecDepth 10000
set_option maxHeartbeats 16000000
set_option linter.unusedSimpArgs false
set_option linter.unusedVariables false

/-- rows that are gone through: no literal twice, all reached -/
structure Gone (v : Nat) (l : List (List Int)) (x : Int) (out : List Int) : Prop where
  nd : out.Nodup
  hd : out[0]? = some x
  rc : ∀ y ∈ out, Reach l x y
theorem Gone.len {v : Nat} {l : List (List Int)} {x : Int} {out : List Int} (h : Gone v l x out) (hl : LitsOk v l) (hx : Lit v x) : out.length ≤ 2 * v + 1 := nodup_few h.nd fun y hy => reach_lit hl hx (h.rc y hy)
end Go.Vm.Ytdembjfpgfaheaa
/- Walks: what a literal leads to, by the reference. -/
namespace Go.Vm.Ytdembjfpgfaheaa
open Go Go.Vm
set_option maxRecDepth 10000
set_option maxHeartbeats 16000000
set_option linter.unusedSimpArgs false
set_option linter.unusedVariables false

theorem putI_mem {l : List Int} {x y : Int} : y ∈ putI l x ↔ y = x ∨ y ∈ l := by
  unfold putI
  split
  · rename_i h
    have := List.mem_of_getElem? h
    constructor
    · exact .inr
    · rintro (rfl | h)
      · exact this
      · exact h
  · conv => rhs; rw [← List.take_append_drop (putK l x) l]
    rw [List.mem_append, List.mem_cons, List.mem_append]
    constructor
    · rintro (h | h | h)
      · exact .inr (.inl h)
      · exact .inl h
      · exact .inr (.inr h)
    · rintro (h | h | h)
      · exact .inr (.inl h)
      · exact .inl h
      · exact .inr (.inr h)
theorem putK_lt {l : List Int} {x : Int} {i : Nat} (hi : i < putK l x) (hl : i < l.length) : l[i] < x := by
  have := List.not_of_lt_findIdx (p := fun y => !decide (y < x)) (xs := l) hi
  simpa using this
theorem putI_inc {l : List Int} {x : Int} (h : Inc l) : Inc (putI l x) := by
  unfold putI
  split
  · exact h
  · rename_i hn
    have hsp := h
    unfold Inc at hsp
    rw [← List.take_append_drop (putK l x) l, List.pairwise_append] at hsp
    obtain ⟨h1, h2, h3⟩ := hsp
    unfold Inc
    rw [List.pairwise_append, List.pairwise_cons]
    have hlo : ∀ a ∈ l.take (putK l x), a < x := by
      intro a ha
      rw [List.mem_take_iff_getElem] at ha
      obtain ⟨i, hi, rfl⟩ := ha
      exact putK_lt (by omega) (by omega)
    have hhi : ∀ b ∈ l.drop (putK l x), x < b := by
      intro b hb
      by_cases hk : putK l x < l.length
      · have hge : ¬ l[putK l x] < x := by
          intro hlt
          have q := (List.findIdx_eq (p := fun y => !decide (y < x)) hk).1 rfl
          have q1 := q.1
          simp [hlt] at q1
        have hne : l[putK l x] ≠ x := fun e => hn (by rw [List.getElem?_eq_getElem hk, e])
        rw [List.drop_eq_getElem_cons hk] at hb h2
        obtain ⟨h4, _⟩ := List.pairwise_cons.1 h2
        rcases List.mem_cons.1 hb with rfl | hb
        · omega
        · have := h4 b hb; omega
      · rw [List.drop_eq_nil_iff.2 (by omega)] at hb; cases hb
    refine ⟨h1, ⟨hhi, h2⟩, fun a ha b hb => ?_⟩
    rcases List.mem_cons.1 hb with rfl | hb
    · exact hlo a ha
    · exact h3 a ha b hb
/-- a row at one of some names, or none -/
def RowX (x : AV) (M : Mem) (nms : List Nat) (ds : List D) : Prop := (ds = [] ∧ x = .nil 1) ∨ ∃ nm ∈ nms, ∃ v, x = .sl nm v 0 ds.length 1 ∧ M.m nm = some (.arr v true 1 ds)
end Go.Vm.Ytdembjfpgfaheaa
/- Walks: a sorted row without its repeats. -/
namespace Go.Vm.Ytdembjfpgfaheaa
open Go Go.Vm
set_option maxRecDepth 10000
set_option maxHeartbeats 16000000
set_option linter.unusedSimpArgs false
set_option linter.unusedVariables false

/-- place k differs from the one before it -/
def ddB (l : List Int) (k : Nat) : Bool := (k == 0) || !(l.getD k 0 == l.getD (k - 1) 0)
def ddK (l : List Int) (k : Nat) : List Int := ((List.range k).filter (ddB l)).map fun i => l.getD i 0
theorem ddK_step (l : List Int) (k : Nat) : ddK l (k + 1) = ddK l k ++ (if ddB l k then [l.getD k 0] else []) := by
  unfold ddK
  rw [List.range_succ, List.filter_append, List.map_append]
  simp only [List.filter_cons, List.filter_nil]
  split <;> rfl
theorem getD_at {l : List Int} {k : Nat} (h : k < l.length) : l.getD k 0 = l[k] := by
  rw [List.getD_eq_getElem?_getD, List.getElem?_eq_getElem h]; rfl
theorem ddK_sorted {l : List Int} (h : l.Pairwise (· ≤ ·)) : ∀ k, k ≤ l.length → Inc (ddK l k) ∧ (∀ y, y ∈ ddK l k ↔ y ∈ l.take k) ∧ ∀ y ∈ ddK l k, y ≤ l.getD (k - 1) 0
  | 0, _ => by simp [ddK, Inc]
  | k + 1, hk => by
    obtain ⟨h1, h2, h3⟩ := ddK_sorted h k (by omega)
    have hlt : k < l.length := by omega
    have htk : l.take (k + 1) = l.take k ++ [l[k]] := take_succ' hlt
    have hle : ∀ y ∈ l.take k, y ≤ l[k] := by
      intro y hy
      rw [List.mem_take_iff_getElem] at hy
      obtain ⟨i, hi, rfl⟩ := hy
      exact List.pairwise_iff_getElem.1 h i k (by omega) hlt (by omega)
    rw [ddK_step, getD_at hlt, htk]
    have e : k + 1 - 1 = k := rfl
    rw [e, getD_at hlt]
    cases hd : ddB l k with
    | true =>
      rw [if_pos rfl]
      refine ⟨?_, fun y => by rw [List.mem_append, List.mem_append, h2 y], fun y hy => ?_⟩
      · unfold Inc
        rw [List.pairwise_append]
        refine ⟨h1, List.pairwise_singleton _ _, fun a ha b hb => ?_⟩
        rw [List.mem_singleton] at hb; subst hb
        have ha2 := hle a ((h2 a).1 ha)
        have ha3 := h3 a ha
        by_cases hk0 : k = 0
        · subst hk0; simp [ddK] at ha
        · have hne : ¬ l[k] = l.getD (k - 1) 0 := by
            intro e2
            unfold ddB at hd
            rw [getD_at hlt, e2] at hd
            simp [hk0] at hd
          have hp : l.getD (k - 1) 0 ≤ l[k] := by
            rw [getD_at (by omega)]
            exact List.pairwise_iff_getElem.1 h (k - 1) k (by omega) hlt (by omega)
          omega
      · rcases List.mem_append.1 hy with hy | hy
        · exact hle y ((h2 y).1 hy)
        · rw [List.mem_singleton] at hy; omega
    | false =>
      rw [if_neg (by decide), List.append_nil]
      have hk0 : ¬ k = 0 := by rintro rfl; simp [ddB] at hd
      have heq : l[k] = l.getD (k - 1) 0 := by
        unfold ddB at hd
        rw [getD_at hlt] at hd
        simp [hk0] at hd
        simpa using hd
      have hk1 : l.getD (k - 1) 0 = l[k - 1] := getD_at (by omega)
      refine ⟨h1, fun y => ?_, fun y hy => hle y ((h2 y).1 hy)⟩
      rw [h2 y, List.mem_append, List.mem_singleton]
      constructor
      · exact .inl
      · rintro (hy | hy)
        · exact hy
        · rw [hy, heq, hk1, List.mem_take_iff_getElem]
          exact ⟨k - 1, by omega, rfl⟩
/-- a set of numbers, in order -/
def setL (l : List Int) : List Int := l.foldl putI []
theorem foldPut (l : List Int) : ∀ s, Inc s → Inc (l.foldl putI s) ∧ ∀ y, y ∈ l.foldl putI s ↔ y ∈ s ∨ y ∈ l := by
  induction l with
  | nil => intro s h; exact ⟨h, fun y => by simp⟩
  | cons x l ih =>
    intro s h
    obtain ⟨h1, h2⟩ := ih (putI s x) (putI_inc h)
    refine ⟨h1, fun y => ?_⟩
    rw [List.foldl_cons, h2 y, putI_mem, List.mem_cons]
    constructor
    · rintro ((h | h) | h)
      · exact .inr (.inl h)
      · exact .inl h
      · exact .inr (.inr h)
    · rintro (h | h | h)
      · exact .inl (.inr h)
      · exact .inl (.inl h)
      · exact .inr h
theorem compact_sort (l : List Int) : ddK (sortI l) (sortI l).length = setL l := by
  have hs : (sortI l).Pairwise (· ≤ ·) := by
    have : (sortI l).Pairwise (fun a b => decide (a ≤ b) = true) := List.pairwise_mergeSort (fun a b c h1 h2 => by simp at *; omega) (fun a b => by simp; omega) l
    exact this.imp fun h => by simpa using h
  obtain ⟨h1, h2, _⟩ := ddK_sorted hs _ (Nat.le_refl _)
  obtain ⟨h3, h4⟩ := foldPut l [] List.Pairwise.nil
  refine inc_ext h1 h3 fun y => ?_
  rw [h2 y, List.take_length, sortI_mem]
  unfold setL
  rw [h4 y]
  simp
end Go.Vm.Ytdembjfpgfaheaa
/- Walks: slices.Compact. -/
namespace Go.Vm.Ytdembjfpgfaheaa
open Go Go.Vm
set_option maxRecDepth 10000
set_option maxHeartbeats 16000000
set_option linter.unusedSimpArgs false
set_option linter.unusedVariables false

theorem slices_Compact__sint_int.fc (l : List Int) (hl : l.length ≤ 4294967296) :
    FCt prog F_slices_Compact__sint_int [.co] [ints l] (ints (ddK l l.length)) [] := by
  refine fct_run slices_Compact__sint_int.ok rfl ?_
  by_cases hn2 : (l.length : Int) < 2
  · have hself : ddK l l.length = l := by
      have : l = [] ∨ ∃ a, l = [a] := by
        match l, hn2 with
        | [], _ => exact .inl rfl
        | [a], _ => exact .inr ⟨a, rfl⟩
        | _ :: _ :: l, h => simp at h; omega
      rcases this with rfl | ⟨a, rfl⟩ <;> rfl
    simp only [go_sem, ↓reduceIte, Nat.reduceEqDiff, Nat.reduceAdd, Nat.reduceMul, Nat.reduceBEq, Option.getD_none, Int.reduceToNat, Nat.reduceSub, Nat.reduceLT, Nat.reduceLeDiff, Int.reduceLE, Int.reduceLT, reduceCtorEq, hn2, hself, take_map_len]
  · simp only [go_sem, ↓reduceIte, Nat.reduceEqDiff, Nat.reduceAdd, Nat.reduceMul, Nat.reduceBEq, Option.getD_none, Int.reduceToNat, Nat.reduceSub, Nat.reduceLT, Nat.reduceLeDiff, Int.reduceLE, Int.reduceLT, reduceCtorEq, hn2]
    refine R_loop (α := Nat) (fun k s' M' => 1 ≤ k ∧ k ≤ l.length ∧ s' 3 = aI k ∧ ddK l k = l.take k ∧ M'.m 0 = some (.arr 0 true 1 (l.map Ii))) (fun k => l.length - k) 1
      ⟨by omega, by omega, by simp only [go_sem, ↓reduceIte, Nat.reduceEqDiff, Nat.reduceAdd, Nat.reduceMul, Nat.reduceBEq, Option.getD_none, Int.reduceToNat, Nat.reduceSub, Nat.reduceLT, Nat.reduceLeDiff, Int.reduceLE, Int.reduceLT, reduceCtorEq]; try rfl, by
        have := ddK_step l 0
        rw [this]
        have e : l.take 1 = [l.getD 0 0] := by
          match l, hn2 with
          | [], h => simp at h
          | a :: l, _ => rfl
        rw [e]; rfl, by simp only [go_sem, ↓reduceIte, Nat.reduceEqDiff, Nat.reduceAdd, Nat.reduceMul, Nat.reduceBEq, Option.getD_none, Int.reduceToNat, Nat.reduceSub, Nat.reduceLT, Nat.reduceLeDiff, Int.reduceLE, Int.reduceLT, reduceCtorEq]⟩ ?_
    rintro k s' M' ⟨hk1, hk, h3, hdd, hm⟩ ho
    unfold slices_Compact__sint_int.b1
    have q0 : s' 0 = .sl 0 0 0 l.length 1 := by rw [ho 0 rfl]; simp only [go_sem, ↓reduceIte, Nat.reduceEqDiff, Nat.reduceAdd, Nat.reduceMul, Nat.reduceBEq, Option.getD_none, Int.reduceToNat, Nat.reduceSub, Nat.reduceLT, Nat.reduceLeDiff, Int.reduceLE, Int.reduceLT, reduceCtorEq]
    clear ho
    by_cases hlt : k < l.length
    · have hi' : (k : Int) < l.length := by omega
      have ga : l[k]? = some l[k] := List.getElem?_eq_getElem hlt
      have hw : IntKind.i64.wrap (k + 1) = ((k + 1 : Nat) : Int) := wrap_k hlt (by omega)
      have hs := ddK_step l k
      have htk : l.take (k + 1) = l.take k ++ [l[k]] := take_succ' hlt
      have w1 : IntKind.i64.wrap ((k : Int) - 1) = ((k - 1 : Nat) : Int) := by rw [wrap_in (by omega) (by omega)]; omega
      have hi1 : ((k - 1 : Nat) : Int) < l.length := by omega
      have g1 : l[k - 1]? = some l[k - 1] := List.getElem?_eq_getElem (by omega)
      have hdb : ddB l k = !(l[k] == l[k - 1]) := by
        unfold ddB
        rw [getD_at hlt, getD_at (by omega)]
        have : (k == 0) = false := by rw [beq_eq_false_iff_ne]; omega
        rw [this, Bool.false_or]
      rw [hdb, getD_at hlt] at hs
      simp only [go_sem, ↓reduceIte, Nat.reduceEqDiff, Nat.reduceAdd, Nat.reduceMul, Nat.reduceBEq, Option.getD_none, Int.reduceToNat, Nat.reduceSub, Nat.reduceLT, Nat.reduceLeDiff, Int.reduceLE, Int.reduceLT, reduceCtorEq, hi', ga, w1, hi1, g1, q0, h3, hm]
      cases hq : (l[k] == l[k - 1]) with
      | false =>
        rw [hq, hdd] at hs
        simp only [Bool.not_false, if_true] at hs
        rw [← htk] at hs
        simp only [go_sem, ↓reduceIte, Nat.reduceEqDiff, Nat.reduceAdd, Nat.reduceMul, Nat.reduceBEq, Option.getD_none, Int.reduceToNat, Nat.reduceSub, Nat.reduceLT, Nat.reduceLeDiff, Int.reduceLE, Int.reduceLT, reduceCtorEq, hq, hw, q0, h3, hm]
        exact ⟨k + 1, by dsimp only; omega, by omega, by omega, by simp only [go_sem, ↓reduceIte, Nat.reduceEqDiff, Nat.reduceAdd, Nat.reduceMul, Nat.reduceBEq, Option.getD_none, Int.reduceToNat, Nat.reduceSub, Nat.reduceLT, Nat.reduceLeDiff, Int.reduceLE, Int.reduceLT, reduceCtorEq, q0, h3, hm], hs, by simp only [go_sem, ↓reduceIte, Nat.reduceEqDiff, Nat.reduceAdd, Nat.reduceMul, Nat.reduceBEq, Option.getD_none, Int.reduceToNat, Nat.reduceSub, Nat.reduceLT, Nat.reduceLeDiff, Int.reduceLE, Int.reduceLT, reduceCtorEq, q0, h3, hm]⟩
      | true =>
        rw [hq, hdd] at hs
        simp only [Bool.not_true, Bool.false_eq_true, if_false, List.append_nil] at hs
        have hle : (k : Int) ≤ l.length := by omega
        have hle' : k ≤ l.length := by omega
        have hsub0 : ((l.length : Int) - (k : Int)).toNat = l.length - k := by omega
        simp only [go_sem, ↓reduceIte, Nat.reduceEqDiff, Nat.reduceAdd, Nat.reduceMul, Nat.reduceBEq, Option.getD_none, Int.reduceToNat, Nat.reduceSub, Nat.reduceLT, Nat.reduceLeDiff, Int.reduceLE, Int.reduceLT, reduceCtorEq, hq, hle, hle', hsub0, Int.le_refl, q0, h3, hm]
        refine R_loop (α := Nat × List Int) (fun a s' M' => 1 ≤ a.1 ∧ a.1 ≤ l.length - k ∧ s' 5 = aI a.1 ∧ s' 3 = aI (ddK l (k + a.1)).length ∧ (ddK l (k + a.1)).length ≤ k + a.1 - 1 ∧ a.2.length = l.length ∧ a.2.take (ddK l (k + a.1)).length = ddK l (k + a.1) ∧ a.2.drop (k + a.1 - 1) = l.drop (k + a.1 - 1) ∧ s' 4 = .sl 0 0 k (l.length - k) 1 ∧ M'.m 0 = some (.arr 0 true 1 (a.2.map Ii))) (fun a => l.length - k - a.1) (1, l)
          ⟨by dsimp only; omega, by dsimp only; omega, by simp only [go_sem, ↓reduceIte, Nat.reduceEqDiff, Nat.reduceAdd, Nat.reduceMul, Nat.reduceBEq, Option.getD_none, Int.reduceToNat, Nat.reduceSub, Nat.reduceLT, Nat.reduceLeDiff, Int.reduceLE, Int.reduceLT, reduceCtorEq, q0, h3, hm]; try rfl, by dsimp only; rw [hs, List.length_take, Nat.min_eq_left hle']; simp only [go_sem, ↓reduceIte, Nat.reduceEqDiff, Nat.reduceAdd, Nat.reduceMul, Nat.reduceBEq, Option.getD_none, Int.reduceToNat, Nat.reduceSub, Nat.reduceLT, Nat.reduceLeDiff, Int.reduceLE, Int.reduceLT, reduceCtorEq, q0, h3, hm]; try rfl, by dsimp only; rw [hs, List.length_take]; omega, rfl, by dsimp only; rw [hs, List.length_take, Nat.min_eq_left hle'], rfl, by simp only [go_sem, ↓reduceIte, Nat.reduceEqDiff, Nat.reduceAdd, Nat.reduceMul, Nat.reduceBEq, Option.getD_none, Int.reduceToNat, Nat.reduceSub, Nat.reduceLT, Nat.reduceLeDiff, Int.reduceLE, Int.reduceLT, reduceCtorEq, q0, h3, hm]; try rfl, by simp only [go_sem, ↓reduceIte, Nat.reduceEqDiff, Nat.reduceAdd, Nat.reduceMul, Nat.reduceBEq, Option.getD_none, Int.reduceToNat, Nat.reduceSub, Nat.reduceLT, Nat.reduceLeDiff, Int.reduceLE, Int.reduceLT, reduceCtorEq, q0, h3, hm]; try rfl⟩ ?_
        rintro ⟨j, cur⟩ s2 M2 ⟨hj1, hj, h5, h3, hdl, hcl, hct, hcd, h4, hm⟩ ho
        dsimp only at hj1 hj h5 h3 hdl hcl hct hcd h4 hm
        unfold slices_Compact__sint_int.b0
        have g0 : s2 0 = .sl 0 0 0 l.length 1 := by rw [ho 0 rfl]; simp only [go_sem, ↓reduceIte, Nat.reduceEqDiff, Nat.reduceAdd, Nat.reduceMul, Nat.reduceBEq, Option.getD_none, Int.reduceToNat, Nat.reduceSub, Nat.reduceLT, Nat.reduceLeDiff, Int.reduceLE, Int.reduceLT, reduceCtorEq, q0, h3, hm]
        clear ho
        by_cases hlj : j < l.length - k
        · have hjn : (j : Int) < ((l.length - k : Nat) : Int) := by omega
          have hP : k + j < l.length := by omega
          have gP : cur[k + j]? = some l[k + j] := by
            have := congrArg (fun z => z[1]?) hcd
            simp only [List.getElem?_drop] at this
            have e : k + j - 1 + 1 = k + j := by omega
            rw [e] at this
            rw [this, List.getElem?_eq_getElem hP]
          have gQ : cur[k + (j - 1)]? = some l[k + (j - 1)] := by
            have := congrArg (fun z => z[0]?) hcd
            simp only [List.getElem?_drop] at this
            have e : k + j - 1 + 0 = k + (j - 1) := by omega
            rw [e] at this
            rw [this, List.getElem?_eq_getElem (by omega)]
          have hs2 := ddK_step l (k + j)
          have hdb2 : ddB l (k + j) = !(l[k + j] == l[k + (j - 1)]) := by
            unfold ddB
            have e : k + j - 1 = k + (j - 1) := by omega
            rw [e, getD_at hP, getD_at (by omega)]
            have : (k + j == 0) = false := by rw [beq_eq_false_iff_ne]; omega
            rw [this, Bool.false_or]
          rw [hdb2, getD_at hP] at hs2
          have w3 : IntKind.i64.wrap ((j : Int) - 1) = ((j - 1 : Nat) : Int) := by rw [wrap_in (by omega) (by omega)]; omega
          have hj2 : ((j - 1 : Nat) : Int) < ((l.length - k : Nat) : Int) := by omega
          have hwj : IntKind.i64.wrap ((j : Int) + 1) = ((j + 1 : Nat) : Int) := by rw [wrap_in (by omega) (by omega)]; omega
          have eadd : k + (j + 1) = k + j + 1 := by omega
          have esub : k + j + 1 - 1 = k + j := by omega
          have hdrop : cur.drop (k + j) = l.drop (k + j) := by
            have := congrArg (List.drop 1) hcd
            rw [List.drop_drop, List.drop_drop] at this
            have e : k + j - 1 + 1 = k + j := by omega
            rw [e] at this
            exact this
          generalize hx : l[k + j] = x at gP hs2
          generalize hy : l[k + (j - 1)] = y at gQ hs2
          generalize hD : ddK l (k + j) = D at h3 hdl hct hs2
          simp only [go_sem, ↓reduceIte, Nat.reduceEqDiff, Nat.reduceAdd, Nat.reduceMul, Nat.reduceBEq, Option.getD_none, Int.reduceToNat, Nat.reduceSub, Nat.reduceLT, Nat.reduceLeDiff, Int.reduceLE, Int.reduceLT, reduceCtorEq, hjn, gP, w3, hj2, gQ, q0, h3, hm, g0, h5, h3, h4, hm]
          cases hq2 : (x == y) with
          | true =>
            have hq3 : (x != y) = false := by rw [bne, hq2]; rfl
            rw [hq2] at hs2
            simp only [Bool.not_true, Bool.false_eq_true, if_false, List.append_nil] at hs2
            simp only [go_sem, ↓reduceIte, Nat.reduceEqDiff, Nat.reduceAdd, Nat.reduceMul, Nat.reduceBEq, Option.getD_none, Int.reduceToNat, Nat.reduceSub, Nat.reduceLT, Nat.reduceLeDiff, Int.reduceLE, Int.reduceLT, reduceCtorEq, hq3, hwj, q0, h3, hm, g0, h5, h3, h4, hm]
            exact ⟨(j + 1, cur), by dsimp only; omega, by dsimp only; omega, by dsimp only; omega, by simp only [go_sem, ↓reduceIte, Nat.reduceEqDiff, Nat.reduceAdd, Nat.reduceMul, Nat.reduceBEq, Option.getD_none, Int.reduceToNat, Nat.reduceSub, Nat.reduceLT, Nat.reduceLeDiff, Int.reduceLE, Int.reduceLT, reduceCtorEq, q0, h3, hm, g0, h5, h3, h4, hm], by dsimp only; rw [eadd, hs2]; simp only [go_sem, ↓reduceIte, Nat.reduceEqDiff, Nat.reduceAdd, Nat.reduceMul, Nat.reduceBEq, Option.getD_none, Int.reduceToNat, Nat.reduceSub, Nat.reduceLT, Nat.reduceLeDiff, Int.reduceLE, Int.reduceLT, reduceCtorEq, q0, h3, hm, g0, h5, h3, h4, hm], by dsimp only; rw [eadd, hs2]; omega, hcl, by dsimp only; rw [eadd, hs2]; exact hct, by dsimp only; rw [eadd, esub]; exact hdrop, by simp only [go_sem, ↓reduceIte, Nat.reduceEqDiff, Nat.reduceAdd, Nat.reduceMul, Nat.reduceBEq, Option.getD_none, Int.reduceToNat, Nat.reduceSub, Nat.reduceLT, Nat.reduceLeDiff, Int.reduceLE, Int.reduceLT, reduceCtorEq, q0, h3, hm, g0, h5, h3, h4, hm], by simp only [go_sem, ↓reduceIte, Nat.reduceEqDiff, Nat.reduceAdd, Nat.reduceMul, Nat.reduceBEq, Option.getD_none, Int.reduceToNat, Nat.reduceSub, Nat.reduceLT, Nat.reduceLeDiff, Int.reduceLE, Int.reduceLT, reduceCtorEq, q0, h3, hm, g0, h5, h3, h4, hm]⟩
          | false =>
            have hq3 : (x != y) = true := by rw [bne, hq2]; rfl
            rw [hq2] at hs2
            simp only [Bool.not_false, if_true] at hs2
            have hil : (D.length : Int) < l.length := by omega
            have hlc : D.length < cur.length := by omega
            have gi : cur[D.length]? = some cur[D.length] := List.getElem?_eq_getElem hlc
            have hwi : IntKind.i64.wrap ((D.length : Int) + 1) = ((D.length + 1 : Nat) : Int) := by rw [wrap_in (by omega) (by omega)]; omega
            have hms : (cur.map Ii).set D.length (Ii x) = (cur.set D.length x).map Ii := by rw [List.map_set]
            simp only [go_sem, ↓reduceIte, Nat.reduceEqDiff, Nat.reduceAdd, Nat.reduceMul, Nat.reduceBEq, Option.getD_none, Int.reduceToNat, Nat.reduceSub, Nat.reduceLT, Nat.reduceLeDiff, Int.reduceLE, Int.reduceLT, reduceCtorEq, hq3, hjn, gP, hil, gi, hwj, hwi, hms, q0, h3, hm, g0, h5, h3, h4, hm]
            refine ⟨(j + 1, cur.set D.length x), by dsimp only; omega, by dsimp only; omega, by dsimp only; omega, by simp only [go_sem, ↓reduceIte, Nat.reduceEqDiff, Nat.reduceAdd, Nat.reduceMul, Nat.reduceBEq, Option.getD_none, Int.reduceToNat, Nat.reduceSub, Nat.reduceLT, Nat.reduceLeDiff, Int.reduceLE, Int.reduceLT, reduceCtorEq, q0, h3, hm, g0, h5, h3, h4, hm], by dsimp only; rw [eadd, hs2, List.length_append]; simp only [go_sem, ↓reduceIte, Nat.reduceEqDiff, Nat.reduceAdd, Nat.reduceMul, Nat.reduceBEq, Option.getD_none, Int.reduceToNat, Nat.reduceSub, Nat.reduceLT, Nat.reduceLeDiff, Int.reduceLE, Int.reduceLT, reduceCtorEq, q0, h3, hm, g0, h5, h3, h4, hm]; try rfl, by dsimp only; rw [eadd, hs2, List.length_append]; simp; omega, by simpa using hcl, ?_, ?_, by simp only [go_sem, ↓reduceIte, Nat.reduceEqDiff, Nat.reduceAdd, Nat.reduceMul, Nat.reduceBEq, Option.getD_none, Int.reduceToNat, Nat.reduceSub, Nat.reduceLT, Nat.reduceLeDiff, Int.reduceLE, Int.reduceLT, reduceCtorEq, q0, h3, hm, g0, h5, h3, h4, hm], by simp only [go_sem, ↓reduceIte, Nat.reduceEqDiff, Nat.reduceAdd, Nat.reduceMul, Nat.reduceBEq, Option.getD_none, Int.reduceToNat, Nat.reduceSub, Nat.reduceLT, Nat.reduceLeDiff, Int.reduceLE, Int.reduceLT, reduceCtorEq, hms, q0, h3, hm, g0, h5, h3, h4, hm]⟩
            · dsimp only
              rw [eadd, hs2, List.length_append]
              simp only [List.length_cons, List.length_nil, Nat.zero_add]
              rw [List.take_succ_eq_append_getElem (by simpa using hlc), List.take_set_of_le (Nat.le_refl _), hct]
              simp
            · dsimp only
              rw [eadd, esub, List.drop_set, if_pos (by omega), hdrop]
        · obtain rfl : j = l.length - k := by omega
          have eadd : k + (l.length - k) = l.length := by omega
          rw [eadd] at h3 hdl hct
          generalize hF : ddK l l.length = F at h3 hdl hct ⊢
          have hle2 : (F.length : Int) ≤ l.length := by omega
          have hle2' : F.length ≤ l.length := by omega
          have hsub : ((l.length : Int) - (F.length : Int)).toNat = l.length - F.length := by omega
          have hz : ¬ l.length - F.length = 0 := by omega
          have hsum : F.length + (l.length - F.length) ≤ l.length := by omega
          have hsc : (((cur.map Ii).drop F.length).take (l.length - F.length)).all isSc = true := List.all_eq_true.2 fun d hd => by
            obtain ⟨x, _, rfl⟩ := List.mem_map.1 (List.mem_of_mem_drop (List.mem_of_mem_take hd)); rfl
          have hln : ((cur.map Ii).take F.length ++ List.replicate (l.length - F.length) (D.int .i64 0) ++ (cur.map Ii).drop (F.length + (l.length - F.length))).length = l.length := by simp; omega
          have htk : ((cur.map Ii).take F.length ++ List.replicate (l.length - F.length) (D.int .i64 0) ++ (cur.map Ii).drop (F.length + (l.length - F.length))).take F.length = F.map Ii := by
            rw [List.append_assoc, List.take_append_of_le_length (by simp; omega), List.take_take, Nat.min_self, ← List.map_take, hct]
          simp only [go_sem, ↓reduceIte, Nat.reduceEqDiff, Nat.reduceAdd, Nat.reduceMul, Nat.reduceBEq, Option.getD_none, Int.reduceToNat, Nat.reduceSub, Nat.reduceLT, Nat.reduceLeDiff, Int.reduceLE, Int.reduceLT, reduceCtorEq, q0, h3, hm, g0, h5, h3, h4, hm, h5, h3, h4, hm, hcl, hle2, hle2', hsub, hz, hsum, hsc, hln, htk, Int.le_refl, Int.lt_irrefl, Nat.zero_add, List.length_replicate, Nat.zero_le]
    · have hi' : ¬ (k : Int) < l.length := by omega
      obtain rfl : k = l.length := by omega
      rw [List.take_length] at hdd
      simp only [go_sem, ↓reduceIte, Nat.reduceEqDiff, Nat.reduceAdd, Nat.reduceMul, Nat.reduceBEq, Option.getD_none, Int.reduceToNat, Nat.reduceSub, Nat.reduceLT, Nat.reduceLeDiff, Int.reduceLE, Int.reduceLT, reduceCtorEq, Int.lt_irrefl, hdd, take_map_len, q0, h3, hm]
end Go.Vm.Ytdembjfpgfaheaa
/- Plain laws: a step keeps a machine valid; runs. -/
namespace Go.Vm.Ytdembjfpgfaheaa
open Go Go.Vm
set_option maxRecDepth 10000
set_option maxHeartbeats 8000000
set_option linter.unusedSimpArgs false
set_option linter.unusedVariables false

end Go.Vm.Ytdembjfpgfaheaa
/- Walks: the steps that may be next; machines at the start; runs. -/
namespace Go.Vm.Ytdembjfpgfaheaa
open Go Go.Vm
set_option maxRecDepth 10000
set_option maxHeartbeats 16000000
set_option linter.unusedSimpArgs false
set_option linter.unusedVariables false

def nextsL (s : StepD) (i : Int) : List Int :=
  if s.kind == 11 then [] else if s.kind == 8 then [i + s.to + 1] else if s.kind == 9 then [i + 1, i + s.to + 1] else if s.kind == 10 then [i + 1, i + s.to + 1] else [i + 1]
theorem impl_nexts.fc (p : List StepD) (i : Int) (s : StepD) (h0 : 0 ≤ i) (h1 : i < p.length) (hl : p.length ≤ 20) (hs : p[i.toNat]? = some s) (hv : stepB s = true) : FCt prog F_impl_nexts [.ro, .ro] [steps p, Ii i] (ints (nextsL s i)) [] := by
  refine fct_run impl_nexts.ok rfl ?_
  have ot := (step_ok hv).to
  have w1 : IntKind.i64.wrap (i + 1) = i + 1 := wrap_in (by omega) (by omega)
  have w2 : IntKind.i64.wrap (i + s.to) = i + s.to := wrap_in (by omega) (by omega)
  have w3 : IntKind.i64.wrap (i + s.to + 1) = i + s.to + 1 := wrap_in (by omega) (by omega)
  unfold nextsL
  repeat' (first | with_reducible rfl | with_reducible refine cdW_dec (fun _ => ?_) (fun _ => ?_) | refine cdW_not (fun _ => ?_) (fun _ => ?_) | refine cdW_any (fun _ => ?_) (fun _ => ?_) | with_reducible refine gdW_decT (fun _ => ?_) (fun _ => ?_) | with_reducible refine gdW_decF (fun _ => ?_) (fun _ => ?_) | refine gdW_not (fun _ => ?_) (fun _ => ?_) | refine gdW_any (fun _ => ?_) (fun _ => ?_) | simp only [go_sem, ↓reduceIte, Nat.reduceEqDiff, Nat.reduceAdd, Nat.reduceMul, Nat.reduceBEq, Option.getD_none, Int.reduceToNat, Nat.reduceSub, Nat.reduceLT, Nat.reduceLeDiff, Int.reduceLE, Int.reduceLT, reduceCtorEq, bne, Int.reduceEq, Int.reduceBEq, Int.reduceBNe, Int.reduceLE, Int.reduceNeg, Int.reduceAdd, Int.reduceSub, Int.reduceMul, *] | rfl)
theorem spec_l2Nexts.fc (p : List StepD) (i : Int) (s : StepD) (h0 : 0 ≤ i) (h1 : i < p.length) (hl : p.length ≤ 20) (hs : p[i.toNat]? = some s) (hv : stepB s = true) : FCt prog F_spec_l2Nexts [.ro, .ro] [steps p, Ii i] (ints (nextsL s i)) [] := by
  refine fct_run spec_l2Nexts.ok rfl ?_
  have ot := (step_ok hv).to
  have w1 : IntKind.i64.wrap (i + 1) = i + 1 := wrap_in (by omega) (by omega)
  have w2 : IntKind.i64.wrap (i + s.to) = i + s.to := wrap_in (by omega) (by omega)
  have w3 : IntKind.i64.wrap (i + s.to + 1) = i + s.to + 1 := wrap_in (by omega) (by omega)
  unfold nextsL
  repeat' (first | with_reducible rfl | with_reducible refine cdW_dec (fun _ => ?_) (fun _ => ?_) | refine cdW_not (fun _ => ?_) (fun _ => ?_) | refine cdW_any (fun _ => ?_) (fun _ => ?_) | with_reducible refine gdW_decT (fun _ => ?_) (fun _ => ?_) | with_reducible refine gdW_decF (fun _ => ?_) (fun _ => ?_) | refine gdW_not (fun _ => ?_) (fun _ => ?_) | refine gdW_any (fun _ => ?_) (fun _ => ?_) | simp only [go_sem, ↓reduceIte, Nat.reduceEqDiff, Nat.reduceAdd, Nat.reduceMul, Nat.reduceBEq, Option.getD_none, Int.reduceToNat, Nat.reduceSub, Nat.reduceLT, Nat.reduceLeDiff, Int.reduceLE, Int.reduceLT, reduceCtorEq, bne, Int.reduceEq, Int.reduceBEq, Int.reduceBNe, Int.reduceLE, Int.reduceNeg, Int.reduceAdd, Int.reduceSub, Int.reduceMul, *] | rfl)
end Go.Vm.Ytdembjfpgfaheaa
/- Walks: runs, by the reference. -/
namespace Go.Vm.Ytdembjfpgfaheaa
open Go Go.Vm
set_option maxRecDepth 10000
set_option maxHeartbeats 16000000
set_option linter.unusedSimpArgs false
set_option linter.unusedVariables false

end Go.Vm.Ytdembjfpgfaheaa
/- Walks: is there harm? -/
namespace Go.Vm.Ytdembjfpgfaheaa
open Go Go.Vm
set_option maxRecDepth 10000
set_option maxHeartbeats 16000000
set_option linter.unusedSimpArgs false
set_option linter.unusedVariables false

end Go.Vm.Ytdembjfpgfaheaa
/- Walks: turns of a way; the way of a run. -/
namespace Go.Vm.Ytdembjfpgfaheaa
open Go Go.Vm
set_option maxRecDepth 10000
set_option maxHeartbeats 16000000
set_option linter.unusedSimpArgs false
set_option linter.unusedVariables false

structure WayD where
  steps : List Int
  turns : List Bool
  deriving DecidableEq
abbrev WayD.d (x : WayD) : D := .agg [ints x.steps, bools x.turns]
abbrev TyWay : Ty := .st [(.sl (.int .i64)), (.sl .bool)]
theorem noRs_Way {x : WayD} : noRs (WayD.d x) = true := noRs_agg fun d hd => by
  rcases List.mem_cons.1 hd with rfl | hd
  · exact noRs_ints
  rcases List.mem_cons.1 hd with rfl | hd
  · exact noRs_bools
  cases hd
def wWay (x : WayD) : Nat := x.steps.length + x.turns.length
def wfWay (x : WayD) : Prop := x.steps.length ≤ 9223372036854775807 ∧ x.turns.length ≤ 9223372036854775807
def cWay (x : WayD) : Nat := x.steps.length + x.turns.length
def mkWay (n : Int) (x : WayD) : WayD := { x with steps := mkIntS (n) x.steps, turns := mkBoolS (n + x.steps.length) x.turns }
theorem cWay_le (x : WayD) : cWay x ≤ 8 * wWay x := by
  unfold cWay wWay; omega
theorem hasWay {d : D} (h : HasTy TyWay d) : ∃ x : WayD, d = WayD.d x ∧ wfWay x := by
  simp only [HasTy] at h
  obtain ⟨ys, rfl, h⟩ := h
  simp only [HasTys] at h
  obtain ⟨d0, s0, rfl, h0, d1, s1, rfl, h1, rfl⟩ := h
  obtain ⟨x0, rfl, w0⟩ := hasIntS h0
  obtain ⟨x1, rfl, w1⟩ := hasBoolS h1
  exact ⟨⟨x0, x1⟩, rfl, ⟨w0, w1⟩⟩
theorem laws_toWay.fcu (x : WayD) (h : wWay x ≤ 1048576) :
    FCt prog F_laws_toWay [.ro] [WayD.d x] (WayD.d x) [] := by
  refine fct_run laws_toWay.ok rfl ?_
  have h := h
  unfold wWay at h
  simp only [go_sem, ↓reduceIte, Nat.reduceEqDiff, Nat.reduceAdd, Nat.reduceMul, Nat.reduceBEq, Option.getD_none, Int.reduceToNat, Nat.reduceSub, Nat.reduceLT, Nat.reduceLeDiff, Int.reduceLE, Int.reduceLT, reduceCtorEq]
  refine fcW_bd (laws_toIntS.fcu x.steps (by omega)) noRs_ints ?_
  simp only [go_sem, ↓reduceIte, Nat.reduceEqDiff, Nat.reduceAdd, Nat.reduceMul, Nat.reduceBEq, Option.getD_none, Int.reduceToNat, Nat.reduceSub, Nat.reduceLT, Nat.reduceLeDiff, Int.reduceLE, Int.reduceLT, reduceCtorEq, take_map_len]
  refine fcW_bd (laws_toBoolS.fcu x.turns (by omega)) noRs_bools ?_
  simp only [go_sem, ↓reduceIte, Nat.reduceEqDiff, Nat.reduceAdd, Nat.reduceMul, Nat.reduceBEq, Option.getD_none, Int.reduceToNat, Nat.reduceSub, Nat.reduceLT, Nat.reduceLeDiff, Int.reduceLE, Int.reduceLT, reduceCtorEq, take_map_len]
theorem laws_eqWay.fcu (x : WayD) (h : wWay x ≤ 1048576) :
    FCt prog F_laws_eqWay [.ro, .ro] [WayD.d x, WayD.d x] (Bb true) [] := by
  refine fct_run laws_eqWay.ok rfl ?_
  unfold wWay at h
  simp only [go_sem, ↓reduceIte, Nat.reduceEqDiff, Nat.reduceAdd, Nat.reduceMul, Nat.reduceBEq, Option.getD_none, Int.reduceToNat, Nat.reduceSub, Nat.reduceLT, Nat.reduceLeDiff, Int.reduceLE, Int.reduceLT, reduceCtorEq]
  refine fcW_bool (laws_eqIntS.fcu x.steps (by omega)) ?_
  simp only [go_sem, ↓reduceIte, Nat.reduceEqDiff, Nat.reduceAdd, Nat.reduceMul, Nat.reduceBEq, Option.getD_none, Int.reduceToNat, Nat.reduceSub, Nat.reduceLT, Nat.reduceLeDiff, Int.reduceLE, Int.reduceLT, reduceCtorEq]
  refine fcW_bool (laws_eqBoolS.fcu x.turns (by omega)) ?_
  simp only [go_sem, ↓reduceIte, Nat.reduceEqDiff, Nat.reduceAdd, Nat.reduceMul, Nat.reduceBEq, Option.getD_none, Int.reduceToNat, Nat.reduceSub, Nat.reduceLT, Nat.reduceLeDiff, Int.reduceLE, Int.reduceLT, reduceCtorEq]
theorem laws_szWay.fcu (x : WayD) (n : Int) (hn : 0 ≤ n ∧ n ≤ 1048576) (hw : wfWay x) :
    FCt prog F_laws_szWay [.ro, .ro] [WayD.d x, Ii n] (Ii (if n < (wWay x : Nat) then -1 else n - (wWay x : Nat))) [] := by
  refine fct_run laws_szWay.ok rfl ?_
  unfold wWay
  obtain ⟨hw0, hw1⟩ := hw
  simp only [go_sem, ↓reduceIte, Nat.reduceEqDiff, Nat.reduceAdd, Nat.reduceMul, Nat.reduceBEq, Option.getD_none, Int.reduceToNat, Nat.reduceSub, Nat.reduceLT, Nat.reduceLeDiff, Int.reduceLE, Int.reduceLT, reduceCtorEq]
  refine fcW_int (laws_szIntS.fcu x.steps _ (by omega) hw0) ?_
  by_cases g0 : n < (x.steps.length : Nat)
  · have e : n < ((x.steps.length + x.turns.length : Nat) : Int) := by omega
    simp only [go_sem, ↓reduceIte, Nat.reduceEqDiff, Nat.reduceAdd, Nat.reduceMul, Nat.reduceBEq, Option.getD_none, Int.reduceToNat, Nat.reduceSub, Nat.reduceLT, Nat.reduceLeDiff, Int.reduceLE, Int.reduceLT, reduceCtorEq, if_pos g0, if_pos e]
  have e0 : ¬ (n - (x.steps.length : Nat) < 0) := by omega
  rw [if_neg g0]
  simp only [go_sem, ↓reduceIte, Nat.reduceEqDiff, Nat.reduceAdd, Nat.reduceMul, Nat.reduceBEq, Option.getD_none, Int.reduceToNat, Nat.reduceSub, Nat.reduceLT, Nat.reduceLeDiff, Int.reduceLE, Int.reduceLT, reduceCtorEq, e0]
  refine fcW_int (laws_szBoolS.fcu x.turns _ (by omega) hw1) ?_
  by_cases g1 : n - (x.steps.length : Nat) < (x.turns.length : Nat)
  · have e : n < ((x.steps.length + x.turns.length : Nat) : Int) := by omega
    simp only [go_sem, ↓reduceIte, Nat.reduceEqDiff, Nat.reduceAdd, Nat.reduceMul, Nat.reduceBEq, Option.getD_none, Int.reduceToNat, Nat.reduceSub, Nat.reduceLT, Nat.reduceLeDiff, Int.reduceLE, Int.reduceLT, reduceCtorEq, if_pos g1, if_pos e, e0]
  have e1 : ¬ (n - (x.steps.length : Nat) - (x.turns.length : Nat) < 0) := by omega
  rw [if_neg g1]
  have e : ¬ n < ((x.steps.length + x.turns.length : Nat) : Int) := by omega
  have eF : n - ((x.steps.length + x.turns.length : Nat) : Int) = n - (x.steps.length : Nat) - (x.turns.length : Nat) := by omega
  first | rw [if_neg e, eF] | skip
  simp only [go_sem, ↓reduceIte, Nat.reduceEqDiff, Nat.reduceAdd, Nat.reduceMul, Nat.reduceBEq, Option.getD_none, Int.reduceToNat, Nat.reduceSub, Nat.reduceLT, Nat.reduceLeDiff, Int.reduceLE, Int.reduceLT, reduceCtorEq, e0, e1]
theorem laws_markWay.fcu (x : WayD) (n : Int) (h : wWay x ≤ 1048576) (hc : cWay x ≤ 16777216) (hn : 0 ≤ n ∧ n + (cWay x : Nat) ≤ 576460752303423488) :
    FCt prog F_laws_markWay [.io, .ro] [WayD.d x, Ii n] (Ii (n + (cWay x : Nat))) [WayD.d (mkWay n x)] := by
  refine fct_run laws_markWay.ok rfl ?_
  unfold wWay at h
  unfold cWay at hc hn ⊢
  unfold mkWay
  simp only [go_sem, ↓reduceIte, Nat.reduceEqDiff, Nat.reduceAdd, Nat.reduceMul, Nat.reduceBEq, Option.getD_none, Int.reduceToNat, Nat.reduceSub, Nat.reduceLT, Nat.reduceLeDiff, Int.reduceLE, Int.reduceLT, reduceCtorEq, take_map_len]
  refine coW_of (laws_markIntS.fcu x.steps (n) (by omega) (by omega) (by omega)) rfl (by simp only [noRsL, noRs_ints, Bool.and_self]) ?_
  simp only [go_sem, ↓reduceIte, Nat.reduceEqDiff, Nat.reduceAdd, Nat.reduceMul, Nat.reduceBEq, Option.getD_none, Int.reduceToNat, Nat.reduceSub, Nat.reduceLT, Nat.reduceLeDiff, Int.reduceLE, Int.reduceLT, reduceCtorEq, mkBoolS_len, mkBoolS_take, mkIntS_len, mkIntS_take, take_map_len]
  refine coW_of (laws_markBoolS.fcu x.turns (n + (x.steps.length : Nat)) (by omega) (by omega) (by omega)) rfl (by simp only [noRsL, noRs_bools, Bool.and_self]) ?_
  simp only [go_sem, ↓reduceIte, Nat.reduceEqDiff, Nat.reduceAdd, Nat.reduceMul, Nat.reduceBEq, Option.getD_none, Int.reduceToNat, Nat.reduceSub, Nat.reduceLT, Nat.reduceLeDiff, Int.reduceLE, Int.reduceLT, reduceCtorEq, mkBoolS_len, mkBoolS_take, mkIntS_len, mkIntS_take, take_map_len]
  try simp [Int.add_assoc, List.take_of_length_le, mkBoolS_len, mkIntS_len]
def brB (s : StepD) : Bool := s.kind == 9 || s.kind == 10
theorem impl_Step_branches.fc (s : StepD) : FCt prog F_impl_Step_branches [.ro] [s.d] (Bb (brB s)) [] := by
  refine fct_run impl_Step_branches.ok rfl ?_
  unfold brB
  repeat' (first | with_reducible rfl | with_reducible refine cdW_dec (fun _ => ?_) (fun _ => ?_) | refine cdW_not (fun _ => ?_) (fun _ => ?_) | refine cdW_any (fun _ => ?_) (fun _ => ?_) | with_reducible refine gdW_decT (fun _ => ?_) (fun _ => ?_) | with_reducible refine gdW_decF (fun _ => ?_) (fun _ => ?_) | refine gdW_not (fun _ => ?_) (fun _ => ?_) | refine gdW_any (fun _ => ?_) (fun _ => ?_) | simp only [go_sem, ↓reduceIte, Nat.reduceEqDiff, Nat.reduceAdd, Nat.reduceMul, Nat.reduceBEq, Option.getD_none, Int.reduceToNat, Nat.reduceSub, Nat.reduceLT, Nat.reduceLeDiff, Int.reduceLE, Int.reduceLT, reduceCtorEq, bne, Int.reduceEq, Int.reduceBEq, Int.reduceBNe, Int.reduceLE, Int.reduceNeg, Int.reduceAdd, Int.reduceSub, Int.reduceMul, *] | rfl)
theorem spec_l14Branch.fc (s : StepD) : FCt prog F_spec_l14Branch [.ro] [s.d] (Bb (brB s)) [] := by
  refine fct_run spec_l14Branch.ok rfl ?_
  unfold brB
  repeat' (first | with_reducible rfl | with_reducible refine cdW_dec (fun _ => ?_) (fun _ => ?_) | refine cdW_not (fun _ => ?_) (fun _ => ?_) | refine cdW_any (fun _ => ?_) (fun _ => ?_) | with_reducible refine gdW_decT (fun _ => ?_) (fun _ => ?_) | with_reducible refine gdW_decF (fun _ => ?_) (fun _ => ?_) | refine gdW_not (fun _ => ?_) (fun _ => ?_) | refine gdW_any (fun _ => ?_) (fun _ => ?_) | simp only [go_sem, ↓reduceIte, Nat.reduceEqDiff, Nat.reduceAdd, Nat.reduceMul, Nat.reduceBEq, Option.getD_none, Int.reduceToNat, Nat.reduceSub, Nat.reduceLT, Nat.reduceLeDiff, Int.reduceLE, Int.reduceLT, reduceCtorEq, bne, Int.reduceEq, Int.reduceBEq, Int.reduceBNe, Int.reduceLE, Int.reduceNeg, Int.reduceAdd, Int.reduceSub, Int.reduceMul, *] | rfl)
def turnAt (p : List StepD) (l : List Int) (i : Nat) : List Bool := match l[i]?, l[i + 1]? with
  | some a, some b => (match p[a.toNat]? with | some s => if brB s then [b == a + s.to + 1] else [] | none => [])
  | _, _ => []
def turnsN (p : List StepD) (l : List Int) (n : Nat) : List Bool := (List.range n).flatMap (turnAt p l)
def turnsV (p : List StepD) (l : List Int) : List Bool := turnsN p l l.length
theorem turnsN_succ (p : List StepD) (l : List Int) (n : Nat) : turnsN p l (n + 1) = turnsN p l n ++ turnAt p l n := by
  unfold turnsN; rw [List.range_succ, List.flatMap_append]; simp
theorem turnAt_len (p : List StepD) (l : List Int) (i : Nat) : (turnAt p l i).length ≤ 1 := by
  unfold turnAt; repeat' split
  all_goals simp
theorem turnsN_len (p : List StepD) (l : List Int) : ∀ n, (turnsN p l n).length ≤ n
  | 0 => by simp [turnsN]
  | n + 1 => by rw [turnsN_succ, List.length_append]; have := turnsN_len p l n; have := turnAt_len p l n; omega
/-- places of a program -/
def InP (p : List StepD) (l : List Int) : Prop := ∀ a ∈ l, 0 ≤ a ∧ a < p.length
theorem impl_turnsOf.fc (p : List StepD) (l : List Int) (hp : ProgOk p) (hl : InP p l) (hll : l.length ≤ 4194304) : FCt prog F_impl_turnsOf [.ro, .ro] [steps p, ints l] (bools (turnsV p l)) [] := by
  refine fct_run impl_turnsOf.ok rfl ?_
  simp only [go_sem, ↓reduceIte, Nat.reduceEqDiff, Nat.reduceAdd, Nat.reduceMul, Nat.reduceBEq, Option.getD_none, Int.reduceToNat, Nat.reduceSub, Nat.reduceLT, Nat.reduceLeDiff, Int.reduceLE, Int.reduceLT, reduceCtorEq]
  refine R_loop (α := Nat) (fun k s' M' => k ≤ l.length ∧ s' 10 = aI k ∧ ∃ v, s' 5 = .sl 2560 v 0 (turnsN p l k).length 1 ∧ M'.m 2560 = some (.arr v true 1 ((turnsN p l k).map Bb))) (fun k => l.length - k) 0
    ⟨by omega, by simp only [go_sem, ↓reduceIte, Nat.reduceEqDiff, Nat.reduceAdd, Nat.reduceMul, Nat.reduceBEq, Option.getD_none, Int.reduceToNat, Nat.reduceSub, Nat.reduceLT, Nat.reduceLeDiff, Int.reduceLE, Int.reduceLT, reduceCtorEq]; rfl, _, by simp only [go_sem, ↓reduceIte, Nat.reduceEqDiff, Nat.reduceAdd, Nat.reduceMul, Nat.reduceBEq, Option.getD_none, Int.reduceToNat, Nat.reduceSub, Nat.reduceLT, Nat.reduceLeDiff, Int.reduceLE, Int.reduceLT, reduceCtorEq]; rfl, by simp only [go_sem, ↓reduceIte, Nat.reduceEqDiff, Nat.reduceAdd, Nat.reduceMul, Nat.reduceBEq, Option.getD_none, Int.reduceToNat, Nat.reduceSub, Nat.reduceLT, Nat.reduceLeDiff, Int.reduceLE, Int.reduceLT, reduceCtorEq]; rfl⟩ ?_
  rintro k s' M' ⟨hk, h10, v, h5, hm⟩ ho
  unfold impl_turnsOf.b0
  have j0 : s' 0 = .dat none (steps p) := by rw [ho 0 rfl]; simp only [go_sem, ↓reduceIte, Nat.reduceEqDiff, Nat.reduceAdd, Nat.reduceMul, Nat.reduceBEq, Option.getD_none, Int.reduceToNat, Nat.reduceSub, Nat.reduceLT, Nat.reduceLeDiff, Int.reduceLE, Int.reduceLT, reduceCtorEq]
  have j1 : s' 1 = .dat none (ints l) := by rw [ho 1 rfl]; simp only [go_sem, ↓reduceIte, Nat.reduceEqDiff, Nat.reduceAdd, Nat.reduceMul, Nat.reduceBEq, Option.getD_none, Int.reduceToNat, Nat.reduceSub, Nat.reduceLT, Nat.reduceLeDiff, Int.reduceLE, Int.reduceLT, reduceCtorEq]
  have j8 : s' 8 = .dat none (ints l) := by rw [ho 8 rfl]; simp only [go_sem, ↓reduceIte, Nat.reduceEqDiff, Nat.reduceAdd, Nat.reduceMul, Nat.reduceBEq, Option.getD_none, Int.reduceToNat, Nat.reduceSub, Nat.reduceLT, Nat.reduceLeDiff, Int.reduceLE, Int.reduceLT, reduceCtorEq]
  have j9 : s' 9 = aI l.length := by rw [ho 9 rfl]; simp only [go_sem, ↓reduceIte, Nat.reduceEqDiff, Nat.reduceAdd, Nat.reduceMul, Nat.reduceBEq, Option.getD_none, Int.reduceToNat, Nat.reduceSub, Nat.reduceLT, Nat.reduceLeDiff, Int.reduceLE, Int.reduceLT, reduceCtorEq]
  clear ho
  have tl := turnsN_len p l k
  have sc := turnsN_succ p l k
  generalize hT : turnsN p l k = T at h5 hm tl sc
  by_cases hlt : k < l.length
  · have hi' : (k : Int) < l.length := by omega
    have ga : l[k]? = some l[k] := List.getElem?_eq_getElem hlt
    have hw : IntKind.i64.wrap (k + 1) = ((k + 1 : Nat) : Int) := wrap_k hlt (by omega)
    obtain ⟨q0, q1⟩ := hl _ (List.getElem_mem hlt)
    obtain ⟨st, gs, hv⟩ : ∃ st, p[l[k].toNat]? = some st ∧ stepB st = true := ⟨_, List.getElem?_eq_getElem (by omega), (hp.all l[k].toNat (by omega)).1⟩
    have ok := step_ok hv
    have hl20 := hp.len.2
    have hto := ok.to
    have ta : turnAt p l k = match l[k + 1]? with | some b => if brB st then [b == l[k] + st.to + 1] else [] | none => [] := by
      unfold turnAt; rw [ga]; cases l[k + 1]? with
      | none => rfl
      | some b => dsimp only; rw [gs]
    have w1 : IntKind.i64.wrap (l[k] + st.to) = l[k] + st.to := wrap_in (by omega) (by omega)
    have w2 : IntKind.i64.wrap (l[k] + st.to + 1) = l[k] + st.to + 1 := wrap_in (by omega) (by omega)
    simp only [go_sem, ↓reduceIte, Nat.reduceEqDiff, Nat.reduceAdd, Nat.reduceMul, Nat.reduceBEq, Option.getD_none, Int.reduceToNat, Nat.reduceSub, Nat.reduceLT, Nat.reduceLeDiff, Int.reduceLE, Int.reduceLT, reduceCtorEq, j0, j1, j8, j9, h10, h5, hm, hi', ga, q0, q1, gs, w1, w2]
    refine fcW_bool (impl_Step_branches.fc st) ?_
    cases hb : brB st with
    | false =>
      have e : turnsN p l (k + 1) = T := by
        rw [sc, ta, hb]
        cases l[k + 1]? <;> simp
      simp only [go_sem, ↓reduceIte, Nat.reduceEqDiff, Nat.reduceAdd, Nat.reduceMul, Nat.reduceBEq, Option.getD_none, Int.reduceToNat, Nat.reduceSub, Nat.reduceLT, Nat.reduceLeDiff, Int.reduceLE, Int.reduceLT, reduceCtorEq, hw, j0, j1, j8, j9, h10, h5, hm, hi', ga, q0, q1, gs, w1, w2]
      exact ⟨k + 1, by dsimp only; omega, by omega, by simp only [go_sem, ↓reduceIte, Nat.reduceEqDiff, Nat.reduceAdd, Nat.reduceMul, Nat.reduceBEq, Option.getD_none, Int.reduceToNat, Nat.reduceSub, Nat.reduceLT, Nat.reduceLeDiff, Int.reduceLE, Int.reduceLT, reduceCtorEq, j0, j1, j8, j9, h10, h5, hm, hi', ga, q0, q1, gs, w1, w2], v, by rw [e]; simp only [go_sem, ↓reduceIte, Nat.reduceEqDiff, Nat.reduceAdd, Nat.reduceMul, Nat.reduceBEq, Option.getD_none, Int.reduceToNat, Nat.reduceSub, Nat.reduceLT, Nat.reduceLeDiff, Int.reduceLE, Int.reduceLT, reduceCtorEq, j0, j1, j8, j9, h10, h5, hm, hi', ga, q0, q1, gs, w1, w2], by rw [e]; simp only [go_sem, ↓reduceIte, Nat.reduceEqDiff, Nat.reduceAdd, Nat.reduceMul, Nat.reduceBEq, Option.getD_none, Int.reduceToNat, Nat.reduceSub, Nat.reduceLT, Nat.reduceLeDiff, Int.reduceLE, Int.reduceLT, reduceCtorEq, j0, j1, j8, j9, h10, h5, hm, hi', ga, q0, q1, gs, w1, w2]⟩
    | true =>
      by_cases hl2 : k + 1 < l.length
      · have i2 : ((k + 1 : Nat) : Int) < l.length := by omega
        have g2 : l[k + 1]? = some l[k + 1] := List.getElem?_eq_getElem hl2
        rw [g2, hb] at ta
        dsimp only at ta
        rw [if_pos rfl] at ta
        have e : turnsN p l (k + 1) = T ++ [l[k + 1] == l[k] + st.to + 1] := by rw [sc, ta]
        have el : (T ++ [l[k + 1] == l[k] + st.to + 1]).length = T.length + 1 := by simp
        have hb1 : (T.length + 1) * 1 ≤ 70368744177664 := by omega
        have ap : T.map Bb ++ [D.bool (l[k + 1] == l[k] + st.to + 1)] = (T ++ [l[k + 1] == l[k] + st.to + 1]).map Bb := map_snoc
        have tk : (T.map Bb).take T.length = T.map Bb := List.take_of_length_le (by simp)
        simp only [go_sem, ↓reduceIte, Nat.reduceEqDiff, Nat.reduceAdd, Nat.reduceMul, Nat.reduceBEq, Option.getD_none, Int.reduceToNat, Nat.reduceSub, Nat.reduceLT, Nat.reduceLeDiff, Int.reduceLE, Int.reduceLT, reduceCtorEq, hw, i2, g2, hb1, ap, tk, j0, j1, j8, j9, h10, h5, hm, hi', ga, q0, q1, gs, w1, w2]
        exact ⟨k + 1, by dsimp only; omega, by omega, by simp only [go_sem, ↓reduceIte, Nat.reduceEqDiff, Nat.reduceAdd, Nat.reduceMul, Nat.reduceBEq, Option.getD_none, Int.reduceToNat, Nat.reduceSub, Nat.reduceLT, Nat.reduceLeDiff, Int.reduceLE, Int.reduceLT, reduceCtorEq, j0, j1, j8, j9, h10, h5, hm, hi', ga, q0, q1, gs, w1, w2], _, by rw [e, el]; simp only [go_sem, ↓reduceIte, Nat.reduceEqDiff, Nat.reduceAdd, Nat.reduceMul, Nat.reduceBEq, Option.getD_none, Int.reduceToNat, Nat.reduceSub, Nat.reduceLT, Nat.reduceLeDiff, Int.reduceLE, Int.reduceLT, reduceCtorEq, j0, j1, j8, j9, h10, h5, hm, hi', ga, q0, q1, gs, w1, w2]; rfl, by rw [e]; simp only [go_sem, ↓reduceIte, Nat.reduceEqDiff, Nat.reduceAdd, Nat.reduceMul, Nat.reduceBEq, Option.getD_none, Int.reduceToNat, Nat.reduceSub, Nat.reduceLT, Nat.reduceLeDiff, Int.reduceLE, Int.reduceLT, reduceCtorEq, j0, j1, j8, j9, h10, h5, hm, hi', ga, q0, q1, gs, w1, w2]⟩
      · have i2 : ¬ ((k + 1 : Nat) : Int) < l.length := by omega
        have e : turnsN p l (k + 1) = T := by
          rw [sc, ta, List.getElem?_eq_none (by omega)]; simp
        simp only [go_sem, ↓reduceIte, Nat.reduceEqDiff, Nat.reduceAdd, Nat.reduceMul, Nat.reduceBEq, Option.getD_none, Int.reduceToNat, Nat.reduceSub, Nat.reduceLT, Nat.reduceLeDiff, Int.reduceLE, Int.reduceLT, reduceCtorEq, hw, i2, j0, j1, j8, j9, h10, h5, hm, hi', ga, q0, q1, gs, w1, w2]
        exact ⟨k + 1, by dsimp only; omega, by omega, by simp only [go_sem, ↓reduceIte, Nat.reduceEqDiff, Nat.reduceAdd, Nat.reduceMul, Nat.reduceBEq, Option.getD_none, Int.reduceToNat, Nat.reduceSub, Nat.reduceLT, Nat.reduceLeDiff, Int.reduceLE, Int.reduceLT, reduceCtorEq, j0, j1, j8, j9, h10, h5, hm, hi', ga, q0, q1, gs, w1, w2], v, by rw [e]; simp only [go_sem, ↓reduceIte, Nat.reduceEqDiff, Nat.reduceAdd, Nat.reduceMul, Nat.reduceBEq, Option.getD_none, Int.reduceToNat, Nat.reduceSub, Nat.reduceLT, Nat.reduceLeDiff, Int.reduceLE, Int.reduceLT, reduceCtorEq, j0, j1, j8, j9, h10, h5, hm, hi', ga, q0, q1, gs, w1, w2], by rw [e]; simp only [go_sem, ↓reduceIte, Nat.reduceEqDiff, Nat.reduceAdd, Nat.reduceMul, Nat.reduceBEq, Option.getD_none, Int.reduceToNat, Nat.reduceSub, Nat.reduceLT, Nat.reduceLeDiff, Int.reduceLE, Int.reduceLT, reduceCtorEq, j0, j1, j8, j9, h10, h5, hm, hi', ga, q0, q1, gs, w1, w2]⟩
  · have hi' : ¬ (k : Int) < l.length := by omega
    obtain rfl : k = l.length := by omega
    have tk : (T.map Bb).take T.length = T.map Bb := List.take_of_length_le (by simp)
    have e : turnsV p l = T := hT
    rw [e]
    simp only [go_sem, ↓reduceIte, Nat.reduceEqDiff, Nat.reduceAdd, Nat.reduceMul, Nat.reduceBEq, Option.getD_none, Int.reduceToNat, Nat.reduceSub, Nat.reduceLT, Nat.reduceLeDiff, Int.reduceLE, Int.reduceLT, reduceCtorEq, Int.lt_irrefl, tk, j0, j1, j8, j9, h10, h5, hm]
end Go.Vm.Ytdembjfpgfaheaa
/- Walks: the way of a run. -/
namespace Go.Vm.Ytdembjfpgfaheaa
open Go Go.Vm
set_option maxRecDepth 10000
set_option maxHeartbeats 16000000
set_option linter.unusedSimpArgs false
set_option linter.unusedVariables false

theorem neq_b {a b : Int} (h : ¬ a = b) : (a == b) = false := by rw [beq_eq_false_iff_ne]; exact h
end Go.Vm.Ytdembjfpgfaheaa
/- Walks: valid ways (the reference). -/
namespace Go.Vm.Ytdembjfpgfaheaa
open Go Go.Vm
set_option maxRecDepth 10000
set_option maxHeartbeats 16000000
set_option linter.unusedSimpArgs false
set_option linter.unusedVariables false

def stepK (p : List StepD) (a : Int) : Option StepD := if 0 ≤ a then p[a.toNat]? else none
/-- a way from its first step on, with those turns -/
def goW (p : List StepD) : List Int → List Bool → Bool
  | [], ts => ts.isEmpty
  | [a], ts => match stepK p a with
    | some s => (s.kind == 11) && ts.isEmpty
    | none => false
  | a :: b :: l, ts => match stepK p a with
    | none => false
    | some s => if s.kind == 11 then false else
      if brB s then (match ts with
        | [] => false
        | t :: ts' => (b == (if t then a + s.to + 1 else a + 1)) && goW p (b :: l) ts') else
      (b == (if s.kind == 8 then a + s.to + 1 else a + 1)) && goW p (b :: l) ts
def headZ : List Int → Bool
  | [] => false
  | a :: _ => a == 0
def goodW (p : List StepD) (w : WayD) : Bool := goodP p && headZ w.steps && goW p w.steps w.turns
theorem stepK_some {p : List StepD} {a : Int} (h0 : 0 ≤ a) (h1 : a < p.length) (hp : ProgOk p) : ∃ s, stepK p a = some s ∧ p[a.toNat]? = some s ∧ stepB s = true := by
  have hi : a.toNat < p.length := by omega
  exact ⟨p[a.toNat], by unfold stepK; rw [if_pos h0]; exact List.getElem?_eq_getElem hi, List.getElem?_eq_getElem hi, (hp.all _ hi).1⟩
theorem stepK_none {p : List StepD} {a : Int} (h : a < 0 ∨ a ≥ p.length) : stepK p a = none := by
  unfold stepK
  split
  · exact List.getElem?_eq_none (by omega)
  · rfl
theorem goW_out {p : List StepD} {a : Int} {l : List Int} {ts : List Bool} (h : stepK p a = none) : goW p (a :: l) ts = false := by
  cases l with
  | nil => unfold goW; rw [h]
  | cons b l => unfold goW; rw [h]
theorem goW_one {p : List StepD} {a : Int} {ts : List Bool} {s : StepD} (ks : stepK p a = some s) : goW p [a] ts = ((s.kind == 11) && ts.isEmpty) := by unfold goW; rw [ks]
theorem goW_two {p : List StepD} {a b : Int} {l : List Int} {ts : List Bool} {s : StepD} (ks : stepK p a = some s) : goW p (a :: b :: l) ts = if s.kind == 11 then false else
      if brB s then (match ts with
        | [] => false
        | t :: ts' => (b == (if t then a + s.to + 1 else a + 1)) && goW p (b :: l) ts') else
      (b == (if s.kind == 8 then a + s.to + 1 else a + 1)) && goW p (b :: l) ts := by rw [goW, ks]
theorem goW_nil {p : List StepD} {ts : List Bool} : goW p [] ts = ts.isEmpty := by unfold goW; rfl
theorem drop_isEmpty {α : Type} {l : List α} {j : Nat} (h : j ≤ l.length) : (l.drop j).isEmpty = ((j : Int) == (l.length : Int)) := by
  rw [Bool.eq_iff_iff, List.isEmpty_iff, List.drop_eq_nil_iff, beq_iff_eq]
  omega
theorem spec_GoodWay.fc (p : List StepD) (w : WayD) (hp : p.length ≤ 4194304) (hw : wWay w ≤ 4194304) : FCt prog F_spec_GoodWay [.ro, .ro] [steps p, w.d] (Bb (goodW p w)) [] := by
  refine fct_run spec_GoodWay.ok rfl ?_
  obtain ⟨l, ts⟩ := w
  have hl : l.length + ts.length ≤ 4194304 := hw
  unfold goodW
  dsimp only
  simp only [go_sem, ↓reduceIte, Nat.reduceEqDiff, Nat.reduceAdd, Nat.reduceMul, Nat.reduceBEq, Option.getD_none, Int.reduceToNat, Nat.reduceSub, Nat.reduceLT, Nat.reduceLeDiff, Int.reduceLE, Int.reduceLT, reduceCtorEq]
  refine fcW_bool (spec_GoodProgram.fc p hp) ?_
  cases hg : goodP p with
  | false => simp only [go_sem, ↓reduceIte, Nat.reduceEqDiff, Nat.reduceAdd, Nat.reduceMul, Nat.reduceBEq, Option.getD_none, Int.reduceToNat, Nat.reduceSub, Nat.reduceLT, Nat.reduceLeDiff, Int.reduceLE, Int.reduceLT, reduceCtorEq]
  | true =>
    have op := prog_ok hg
    cases hlq : l with
    | nil =>
      have z0 : (((0 : Nat) : Int) == 0) = true := rfl
      simp only [go_sem, ↓reduceIte, Nat.reduceEqDiff, Nat.reduceAdd, Nat.reduceMul, Nat.reduceBEq, Option.getD_none, Int.reduceToNat, Nat.reduceSub, Nat.reduceLT, Nat.reduceLeDiff, Int.reduceLE, Int.reduceLT, reduceCtorEq, List.length_nil, z0]
      rfl
    | cons a0 l0 =>
      rw [← hlq]
      have n0 : ((l.length : Int) == 0) = false := by rw [hlq]; exact neq_b (by simp only [List.length_cons]; omega)
      have i0 : (0 : Int) < l.length := by rw [hlq]; simp only [List.length_cons]; omega
      have hz : headZ l = (a0 == 0) := by rw [hlq]; rfl
      have g0 : l[0]? = some a0 := by rw [hlq]; rfl
      have gt0 : (0 : Int).toNat = 0 := rfl
      simp only [go_sem, ↓reduceIte, Nat.reduceEqDiff, Nat.reduceAdd, Nat.reduceMul, Nat.reduceBEq, Option.getD_none, Int.reduceToNat, Nat.reduceSub, Nat.reduceLT, Nat.reduceLeDiff, Int.reduceLE, Int.reduceLT, reduceCtorEq, n0, i0, g0, gt0, hz]
      cases ha : (a0 == 0) with
      | false =>
        have ha2 : (a0 != 0) = true := by rw [bne, ha]; rfl
        simp only [go_sem, ↓reduceIte, Nat.reduceEqDiff, Nat.reduceAdd, Nat.reduceMul, Nat.reduceBEq, Option.getD_none, Int.reduceToNat, Nat.reduceSub, Nat.reduceLT, Nat.reduceLeDiff, Int.reduceLE, Int.reduceLT, reduceCtorEq, ha2, hz, ha]
      | true =>
        have ha2 : (a0 != 0) = false := by rw [bne, ha]; rfl
        have hz2 : headZ l = true := by rw [hz, ha]
        have t1 : ((true == false) != true) = true := rfl
        have t2 : ((false == true) != true) = true := rfl
        simp only [go_sem, ↓reduceIte, Nat.reduceEqDiff, Nat.reduceAdd, Nat.reduceMul, Nat.reduceBEq, Option.getD_none, Int.reduceToNat, Nat.reduceSub, Nat.reduceLT, Nat.reduceLeDiff, Int.reduceLE, Int.reduceLT, reduceCtorEq, ha2, hz2]
        refine R_loop (α := Nat × Nat) (fun a s' M' => a.1 ≤ l.length ∧ a.2 ≤ ts.length ∧ s' 30 = aI a.1 ∧ s' 5 = aI a.2 ∧ M'.m 64 = some (.box 0 (.dat none (WayD.d ⟨l, ts⟩))) ∧ goW p l ts = goW p (l.drop a.1) (ts.drop a.2)) (fun a => l.length - a.1) (0, 0)
          ⟨by dsimp only; omega, by dsimp only; omega, by simp only [go_sem, ↓reduceIte, Nat.reduceEqDiff, Nat.reduceAdd, Nat.reduceMul, Nat.reduceBEq, Option.getD_none, Int.reduceToNat, Nat.reduceSub, Nat.reduceLT, Nat.reduceLeDiff, Int.reduceLE, Int.reduceLT, reduceCtorEq]; rfl, by simp only [go_sem, ↓reduceIte, Nat.reduceEqDiff, Nat.reduceAdd, Nat.reduceMul, Nat.reduceBEq, Option.getD_none, Int.reduceToNat, Nat.reduceSub, Nat.reduceLT, Nat.reduceLeDiff, Int.reduceLE, Int.reduceLT, reduceCtorEq]; rfl, by simp only [go_sem, ↓reduceIte, Nat.reduceEqDiff, Nat.reduceAdd, Nat.reduceMul, Nat.reduceBEq, Option.getD_none, Int.reduceToNat, Nat.reduceSub, Nat.reduceLT, Nat.reduceLeDiff, Int.reduceLE, Int.reduceLT, reduceCtorEq], by simp⟩ ?_
        rintro ⟨i, j⟩ s' M' ⟨hi, hj, h30, h5, hm, hr⟩ ho
        dsimp only at hi hj h30 h5 hr
        unfold spec_GoodWay.b0
        have k0 : s' 0 = .dat none (steps p) := by rw [ho 0 rfl]; simp only [go_sem, ↓reduceIte, Nat.reduceEqDiff, Nat.reduceAdd, Nat.reduceMul, Nat.reduceBEq, Option.getD_none, Int.reduceToNat, Nat.reduceSub, Nat.reduceLT, Nat.reduceLeDiff, Int.reduceLE, Int.reduceLT, reduceCtorEq]
        have k3 : s' 3 = .ptr 64 0 0 none := by rw [ho 3 rfl]; simp only [go_sem, ↓reduceIte, Nat.reduceEqDiff, Nat.reduceAdd, Nat.reduceMul, Nat.reduceBEq, Option.getD_none, Int.reduceToNat, Nat.reduceSub, Nat.reduceLT, Nat.reduceLeDiff, Int.reduceLE, Int.reduceLT, reduceCtorEq]
        have k28 : s' 28 = .dat none (ints l) := by rw [ho 28 rfl]; simp only [go_sem, ↓reduceIte, Nat.reduceEqDiff, Nat.reduceAdd, Nat.reduceMul, Nat.reduceBEq, Option.getD_none, Int.reduceToNat, Nat.reduceSub, Nat.reduceLT, Nat.reduceLeDiff, Int.reduceLE, Int.reduceLT, reduceCtorEq]
        have k29 : s' 29 = aI l.length := by rw [ho 29 rfl]; simp only [go_sem, ↓reduceIte, Nat.reduceEqDiff, Nat.reduceAdd, Nat.reduceMul, Nat.reduceBEq, Option.getD_none, Int.reduceToNat, Nat.reduceSub, Nat.reduceLT, Nat.reduceLeDiff, Int.reduceLE, Int.reduceLT, reduceCtorEq]
        clear ho
        have o1 : (0 : Int) < ((1 : Nat) : Int) := by decide
        have o2 : (0 : Int) < ((2 : Nat) : Int) := by decide
        have o3 : (1 : Int) < ((2 : Nat) : Int) := by decide
        by_cases hlt : i < l.length
        · have hi' : (i : Int) < l.length := by omega
          have ga : l[i]? = some l[i] := List.getElem?_eq_getElem hlt
          have hw : IntKind.i64.wrap (i + 1) = ((i + 1 : Nat) : Int) := wrap_k hlt (by omega)
          have hd : l.drop i = l[i] :: l.drop (i + 1) := List.drop_eq_getElem_cons hlt
          rw [hd] at hr
          by_cases q0 : l[i] < 0
          · have e := goW_out (l := l.drop (i + 1)) (ts := ts.drop j) (stepK_none (p := p) (.inl q0))
            have e := hr.trans e
            simp only [go_sem, ↓reduceIte, Nat.reduceEqDiff, Nat.reduceAdd, Nat.reduceMul, Nat.reduceBEq, Option.getD_none, Int.reduceToNat, Nat.reduceSub, Nat.reduceLT, Nat.reduceLeDiff, Int.reduceLE, Int.reduceLT, reduceCtorEq, q0, e, k0, k3, k28, k29, h30, h5, hm, hz2, t1, t2, o1, o2, o3, hi', ga]
          by_cases q1 : l[i] ≥ p.length
          · have e := goW_out (l := l.drop (i + 1)) (ts := ts.drop j) (stepK_none (p := p) (.inr q1))
            have e := hr.trans e
            simp only [go_sem, ↓reduceIte, Nat.reduceEqDiff, Nat.reduceAdd, Nat.reduceMul, Nat.reduceBEq, Option.getD_none, Int.reduceToNat, Nat.reduceSub, Nat.reduceLT, Nat.reduceLeDiff, Int.reduceLE, Int.reduceLT, reduceCtorEq, q0, q1, e, k0, k3, k28, k29, h30, h5, hm, hz2, t1, t2, o1, o2, o3, hi', ga]
          have q00 : 0 ≤ l[i] := by omega
          have q11 : l[i] < p.length := by omega
          obtain ⟨st, ks, gs, hv⟩ := stepK_some q00 q11 op
          have sok := step_ok hv
          have wl : IntKind.i64.wrap ((l.length : Int) - 1) = (l.length : Int) - 1 := wrap_in (by omega) (by omega)
          by_cases hlast : i + 1 = l.length
          · have e1 : ((i : Int) == (l.length : Int) - 1) = true := by rw [beq_iff_eq]; omega
            have hd2 : l.drop (i + 1) = [] := List.drop_eq_nil_iff.2 (by omega)
            rw [hd2, goW_one ks] at hr
            cases hk : (st.kind == 11) with
            | false =>
              rw [hk, Bool.false_and] at hr
              simp only [go_sem, ↓reduceIte, Nat.reduceEqDiff, Nat.reduceAdd, Nat.reduceMul, Nat.reduceBEq, Option.getD_none, Int.reduceToNat, Nat.reduceSub, Nat.reduceLT, Nat.reduceLeDiff, Int.reduceLE, Int.reduceLT, reduceCtorEq, e1, hk, hr, k0, k3, k28, k29, h30, h5, hm, hz2, t1, t2, o1, o2, o3, hi', ga, q0, q1, q00, q11, gs, wl]
            | true =>
              rw [hk, Bool.true_and, drop_isEmpty hj] at hr
              simp only [go_sem, ↓reduceIte, Nat.reduceEqDiff, Nat.reduceAdd, Nat.reduceMul, Nat.reduceBEq, Option.getD_none, Int.reduceToNat, Nat.reduceSub, Nat.reduceLT, Nat.reduceLeDiff, Int.reduceLE, Int.reduceLT, reduceCtorEq, e1, hk, hr, k0, k3, k28, k29, h30, h5, hm, hz2, t1, t2, o1, o2, o3, hi', ga, q0, q1, q00, q11, gs, wl]
          · have e1 : ((i : Int) == (l.length : Int) - 1) = false := neq_b (by omega)
            have hlt2 : i + 1 < l.length := by omega
            have hd2 : l.drop (i + 1) = l[i + 1] :: l.drop (i + 1 + 1) := List.drop_eq_getElem_cons hlt2
            rw [hd2, goW_two ks] at hr
            have g2 : l[i + 1]? = some l[i + 1] := List.getElem?_eq_getElem hlt2
            have i2 : ((i + 1 : Nat) : Int) < l.length := by omega
            cases hk : (st.kind == 11) with
            | true =>
              rw [hk] at hr
              simp only [if_true] at hr
              simp only [go_sem, ↓reduceIte, Nat.reduceEqDiff, Nat.reduceAdd, Nat.reduceMul, Nat.reduceBEq, Option.getD_none, Int.reduceToNat, Nat.reduceSub, Nat.reduceLT, Nat.reduceLeDiff, Int.reduceLE, Int.reduceLT, reduceCtorEq, e1, hk, hr, k0, k3, k28, k29, h30, h5, hm, hz2, t1, t2, o1, o2, o3, hi', ga, q0, q1, q00, q11, gs, wl]
            | false =>
              rw [hk] at hr
              have cn := spec_l2Nexts.fc p l[i] st q00 q11 op.len.2 gs hv
              simp only [Bool.false_eq_true, if_false] at hr
              simp only [go_sem, ↓reduceIte, Nat.reduceEqDiff, Nat.reduceAdd, Nat.reduceMul, Nat.reduceBEq, Option.getD_none, Int.reduceToNat, Nat.reduceSub, Nat.reduceLT, Nat.reduceLeDiff, Int.reduceLE, Int.reduceLT, reduceCtorEq, e1, hk, k0, k3, k28, k29, h30, h5, hm, hz2, t1, t2, o1, o2, o3, hi', ga, q0, q1, q00, q11, gs, wl]
              refine fcW_bd cn noRs_ints ?_
              have nxt : ∀ (v : Int) (j2 : Nat), j2 ≤ ts.length → (goW p l ts = ((l[i + 1] == v) && goW p (l[i + 1] :: l.drop (i + 1 + 1)) (ts.drop j2))) → l[i + 1] = v → goW p l ts = goW p (l.drop (i + 1)) (ts.drop j2) := by
                intro v j2 _ h1 h2
                rw [h1, h2, beq_self_eq_true, Bool.true_and, hd2, h2]
              have wi : IntKind.i64.wrap ((i : Int) + 1) = ((i + 1 : Nat) : Int) := hw
              have w11 : ((i + 1 : Nat) : Int) < l.length := i2
              cases hb : brB st with
              | false =>
                rw [hb] at hr
                simp only [Bool.false_eq_true, if_false] at hr
                have hnx : nextsL st l[i] = [if st.kind == 8 then l[i] + st.to + 1 else l[i] + 1] := by
                  unfold nextsL
                  rw [hk]
                  unfold brB at hb
                  rw [Bool.or_eq_false_iff] at hb
                  rw [hb.1, hb.2]
                  cases (st.kind == 8) <;> rfl
                generalize (if st.kind == 8 then l[i] + st.to + 1 else l[i] + 1) = v at hr hnx
                simp only [go_sem, ↓reduceIte, Nat.reduceEqDiff, Nat.reduceAdd, Nat.reduceMul, Nat.reduceBEq, Option.getD_none, Int.reduceToNat, Nat.reduceSub, Nat.reduceLT, Nat.reduceLeDiff, Int.reduceLE, Int.reduceLT, reduceCtorEq, hnx, k0, k3, k28, k29, h30, h5, hm, hz2, t1, t2, o1, o2, o3, hi', ga, q0, q1, q00, q11, gs, wl]
                refine fcW_bool (spec_l14Branch.fc st) ?_
                rw [hb]
                cases hq : (l[i + 1] == v) with
                | false =>
                  have hq2 : (l[i + 1] != v) = true := by rw [bne, hq]; rfl
                  rw [hq, Bool.false_and] at hr
                  simp only [go_sem, ↓reduceIte, Nat.reduceEqDiff, Nat.reduceAdd, Nat.reduceMul, Nat.reduceBEq, Option.getD_none, Int.reduceToNat, Nat.reduceSub, Nat.reduceLT, Nat.reduceLeDiff, Int.reduceLE, Int.reduceLT, reduceCtorEq, wi, w11, g2, hq2, hr, k0, k3, k28, k29, h30, h5, hm, hz2, t1, t2, o1, o2, o3, hi', ga, q0, q1, q00, q11, gs, wl]
                | true =>
                  have hq2 : (l[i + 1] != v) = false := by rw [bne, hq]; rfl
                  have hr2 := nxt v j hj hr (by simpa using hq)
                  simp only [go_sem, ↓reduceIte, Nat.reduceEqDiff, Nat.reduceAdd, Nat.reduceMul, Nat.reduceBEq, Option.getD_none, Int.reduceToNat, Nat.reduceSub, Nat.reduceLT, Nat.reduceLeDiff, Int.reduceLE, Int.reduceLT, reduceCtorEq, wi, w11, g2, hq2, k0, k3, k28, k29, h30, h5, hm, hz2, t1, t2, o1, o2, o3, hi', ga, q0, q1, q00, q11, gs, wl]
                  exact ⟨(i + 1, j), by dsimp only; omega, by dsimp only; omega, hj, by simp only [go_sem, ↓reduceIte, Nat.reduceEqDiff, Nat.reduceAdd, Nat.reduceMul, Nat.reduceBEq, Option.getD_none, Int.reduceToNat, Nat.reduceSub, Nat.reduceLT, Nat.reduceLeDiff, Int.reduceLE, Int.reduceLT, reduceCtorEq, k0, k3, k28, k29, h30, h5, hm, hz2, t1, t2, o1, o2, o3, hi', ga, q0, q1, q00, q11, gs, wl], by simp only [go_sem, ↓reduceIte, Nat.reduceEqDiff, Nat.reduceAdd, Nat.reduceMul, Nat.reduceBEq, Option.getD_none, Int.reduceToNat, Nat.reduceSub, Nat.reduceLT, Nat.reduceLeDiff, Int.reduceLE, Int.reduceLT, reduceCtorEq, k0, k3, k28, k29, h30, h5, hm, hz2, t1, t2, o1, o2, o3, hi', ga, q0, q1, q00, q11, gs, wl], by simp only [go_sem, ↓reduceIte, Nat.reduceEqDiff, Nat.reduceAdd, Nat.reduceMul, Nat.reduceBEq, Option.getD_none, Int.reduceToNat, Nat.reduceSub, Nat.reduceLT, Nat.reduceLeDiff, Int.reduceLE, Int.reduceLT, reduceCtorEq, k0, k3, k28, k29, h30, h5, hm, hz2, t1, t2, o1, o2, o3, hi', ga, q0, q1, q00, q11, gs, wl], hr2⟩
              | true =>
                rw [hb] at hr
                simp only [if_true] at hr
                have hnx : nextsL st l[i] = [l[i] + 1, l[i] + st.to + 1] := by
                  unfold nextsL
                  rw [hk]
                  unfold brB at hb
                  have h8 : (st.kind == 8) = false := by rw [beq_eq_false_iff_ne]; simp at hb; omega
                  rw [h8]
                  cases h9 : (st.kind == 9) with
                  | true => rfl
                  | false => rw [h9, Bool.false_or] at hb; rw [hb]; rfl
                simp only [go_sem, ↓reduceIte, Nat.reduceEqDiff, Nat.reduceAdd, Nat.reduceMul, Nat.reduceBEq, Option.getD_none, Int.reduceToNat, Nat.reduceSub, Nat.reduceLT, Nat.reduceLeDiff, Int.reduceLE, Int.reduceLT, reduceCtorEq, hnx, k0, k3, k28, k29, h30, h5, hm, hz2, t1, t2, o1, o2, o3, hi', ga, q0, q1, q00, q11, gs, wl]
                refine fcW_bool (spec_l14Branch.fc st) ?_
                rw [hb]
                by_cases hjl : j = ts.length
                · have ej : ((j : Int) == (ts.length : Int)) = true := by rw [hjl]; exact beq_self_eq_true _
                  have hd3 : ts.drop j = [] := List.drop_eq_nil_iff.2 (by omega)
                  rw [hd3] at hr
                  simp only [go_sem, ↓reduceIte, Nat.reduceEqDiff, Nat.reduceAdd, Nat.reduceMul, Nat.reduceBEq, Option.getD_none, Int.reduceToNat, Nat.reduceSub, Nat.reduceLT, Nat.reduceLeDiff, Int.reduceLE, Int.reduceLT, reduceCtorEq, ej, hr, k0, k3, k28, k29, h30, h5, hm, hz2, t1, t2, o1, o2, o3, hi', ga, q0, q1, q00, q11, gs, wl]
                · have ej : ((j : Int) == (ts.length : Int)) = false := neq_b (by omega)
                  have hjlt : j < ts.length := by omega
                  have gj : ts[j]? = some ts[j] := List.getElem?_eq_getElem hjlt
                  have ij : (j : Int) < ts.length := by omega
                  have hd3 : ts.drop j = ts[j] :: ts.drop (j + 1) := List.drop_eq_getElem_cons hjlt
                  have wj : IntKind.i64.wrap ((j : Int) + 1) = ((j + 1 : Nat) : Int) := by rw [wrap_in (by omega) (by omega)]; omega
                  rw [hd3] at hr
                  dsimp only at hr
                  cases ht : ts[j] with
                  | false =>
                    rw [ht] at hr
                    simp only [Bool.false_eq_true, if_false] at hr
                    cases hq : (l[i + 1] == l[i] + 1) with
                    | false =>
                      have hq2 : (l[i + 1] != l[i] + 1) = true := by rw [bne, hq]; rfl
                      rw [hq, Bool.false_and] at hr
                      simp only [go_sem, ↓reduceIte, Nat.reduceEqDiff, Nat.reduceAdd, Nat.reduceMul, Nat.reduceBEq, Option.getD_none, Int.reduceToNat, Nat.reduceSub, Nat.reduceLT, Nat.reduceLeDiff, Int.reduceLE, Int.reduceLT, reduceCtorEq, ej, gj, ij, ht, wi, w11, g2, hq2, hr, wj, k0, k3, k28, k29, h30, h5, hm, hz2, t1, t2, o1, o2, o3, hi', ga, q0, q1, q00, q11, gs, wl]
                    | true =>
                      have hq2 : (l[i + 1] != l[i] + 1) = false := by rw [bne, hq]; rfl
                      have hr2 := nxt _ (j + 1) hjlt hr (by simpa using hq)
                      simp only [go_sem, ↓reduceIte, Nat.reduceEqDiff, Nat.reduceAdd, Nat.reduceMul, Nat.reduceBEq, Option.getD_none, Int.reduceToNat, Nat.reduceSub, Nat.reduceLT, Nat.reduceLeDiff, Int.reduceLE, Int.reduceLT, reduceCtorEq, ej, gj, ij, ht, wi, w11, g2, hq2, wj, k0, k3, k28, k29, h30, h5, hm, hz2, t1, t2, o1, o2, o3, hi', ga, q0, q1, q00, q11, gs, wl]
                      exact ⟨(i + 1, j + 1), by dsimp only; omega, by dsimp only; omega, hjlt, by simp only [go_sem, ↓reduceIte, Nat.reduceEqDiff, Nat.reduceAdd, Nat.reduceMul, Nat.reduceBEq, Option.getD_none, Int.reduceToNat, Nat.reduceSub, Nat.reduceLT, Nat.reduceLeDiff, Int.reduceLE, Int.reduceLT, reduceCtorEq, k0, k3, k28, k29, h30, h5, hm, hz2, t1, t2, o1, o2, o3, hi', ga, q0, q1, q00, q11, gs, wl], by simp only [go_sem, ↓reduceIte, Nat.reduceEqDiff, Nat.reduceAdd, Nat.reduceMul, Nat.reduceBEq, Option.getD_none, Int.reduceToNat, Nat.reduceSub, Nat.reduceLT, Nat.reduceLeDiff, Int.reduceLE, Int.reduceLT, reduceCtorEq, k0, k3, k28, k29, h30, h5, hm, hz2, t1, t2, o1, o2, o3, hi', ga, q0, q1, q00, q11, gs, wl], by simp only [go_sem, ↓reduceIte, Nat.reduceEqDiff, Nat.reduceAdd, Nat.reduceMul, Nat.reduceBEq, Option.getD_none, Int.reduceToNat, Nat.reduceSub, Nat.reduceLT, Nat.reduceLeDiff, Int.reduceLE, Int.reduceLT, reduceCtorEq, k0, k3, k28, k29, h30, h5, hm, hz2, t1, t2, o1, o2, o3, hi', ga, q0, q1, q00, q11, gs, wl], hr2⟩
                  | true =>
                    rw [ht] at hr
                    simp only [if_true] at hr
                    cases hq : (l[i + 1] == l[i] + st.to + 1) with
                    | false =>
                      have hq2 : (l[i + 1] != l[i] + st.to + 1) = true := by rw [bne, hq]; rfl
                      rw [hq, Bool.false_and] at hr
                      simp only [go_sem, ↓reduceIte, Nat.reduceEqDiff, Nat.reduceAdd, Nat.reduceMul, Nat.reduceBEq, Option.getD_none, Int.reduceToNat, Nat.reduceSub, Nat.reduceLT, Nat.reduceLeDiff, Int.reduceLE, Int.reduceLT, reduceCtorEq, ej, gj, ij, ht, wi, w11, g2, hq2, hr, wj, k0, k3, k28, k29, h30, h5, hm, hz2, t1, t2, o1, o2, o3, hi', ga, q0, q1, q00, q11, gs, wl]
                    | true =>
                      have hq2 : (l[i + 1] != l[i] + st.to + 1) = false := by rw [bne, hq]; rfl
                      have hr2 := nxt _ (j + 1) hjlt hr (by simpa using hq)
                      simp only [go_sem, ↓reduceIte, Nat.reduceEqDiff, Nat.reduceAdd, Nat.reduceMul, Nat.reduceBEq, Option.getD_none, Int.reduceToNat, Nat.reduceSub, Nat.reduceLT, Nat.reduceLeDiff, Int.reduceLE, Int.reduceLT, reduceCtorEq, ej, gj, ij, ht, wi, w11, g2, hq2, wj, k0, k3, k28, k29, h30, h5, hm, hz2, t1, t2, o1, o2, o3, hi', ga, q0, q1, q00, q11, gs, wl]
                      exact ⟨(i + 1, j + 1), by dsimp only; omega, by dsimp only; omega, hjlt, by simp only [go_sem, ↓reduceIte, Nat.reduceEqDiff, Nat.reduceAdd, Nat.reduceMul, Nat.reduceBEq, Option.getD_none, Int.reduceToNat, Nat.reduceSub, Nat.reduceLT, Nat.reduceLeDiff, Int.reduceLE, Int.reduceLT, reduceCtorEq, k0, k3, k28, k29, h30, h5, hm, hz2, t1, t2, o1, o2, o3, hi', ga, q0, q1, q00, q11, gs, wl], by simp only [go_sem, ↓reduceIte, Nat.reduceEqDiff, Nat.reduceAdd, Nat.reduceMul, Nat.reduceBEq, Option.getD_none, Int.reduceToNat, Nat.reduceSub, Nat.reduceLT, Nat.reduceLeDiff, Int.reduceLE, Int.reduceLT, reduceCtorEq, k0, k3, k28, k29, h30, h5, hm, hz2, t1, t2, o1, o2, o3, hi', ga, q0, q1, q00, q11, gs, wl], by simp only [go_sem, ↓reduceIte, Nat.reduceEqDiff, Nat.reduceAdd, Nat.reduceMul, Nat.reduceBEq, Option.getD_none, Int.reduceToNat, Nat.reduceSub, Nat.reduceLT, Nat.reduceLeDiff, Int.reduceLE, Int.reduceLT, reduceCtorEq, k0, k3, k28, k29, h30, h5, hm, hz2, t1, t2, o1, o2, o3, hi', ga, q0, q1, q00, q11, gs, wl], hr2⟩
        · have hi' : ¬ (i : Int) < l.length := by omega
          obtain rfl : i = l.length := by omega
          rw [List.drop_length] at hr
          rw [goW_nil, drop_isEmpty hj] at hr
          simp only [go_sem, ↓reduceIte, Nat.reduceEqDiff, Nat.reduceAdd, Nat.reduceMul, Nat.reduceBEq, Option.getD_none, Int.reduceToNat, Nat.reduceSub, Nat.reduceLT, Nat.reduceLeDiff, Int.reduceLE, Int.reduceLT, reduceCtorEq, Int.lt_irrefl, hr, k0, k3, k28, k29, h30, h5, hm, hz2, t1, t2, o1, o2, o3]
end Go.Vm.Ytdembjfpgfaheaa
/- Walks: valid ways. -/
namespace Go.Vm.Ytdembjfpgfaheaa
open Go Go.Vm
set_option maxRecDepth 10000
set_option maxHeartbeats 16000000
set_option linter.unusedSimpArgs false
set_option linter.unusedVariables false

section
variable {P : Program} {s : Nat → AV} {M : Mem} {nb ib : Nat} {lg : Lg} {es : List Ent}
@[go_sem ↓] theorem RE_EPgf {j d t : Nat} {b : Bool} {k : KO} {kd : Nat} {K : (Nat → AV) → Mem → Prop} :
    @RE P nb ib (EP j (some d) (some (t, b)) k kd false :: es) s M lg ⟨K⟩ = @gdW (gB (s t)) b ⟨@KS P s M (nb + 64 * j) (ib + 64 * j) k ⟨fun a N T => @okP kd nb j k M N T ⟨@RE P nb ib es (upd s d a) N lg ⟨K⟩⟩⟩⟩ ⟨@RE P nb ib es (upd s d (.tup [])) M lg ⟨K⟩⟩ :=
  RE_step (e := EP j (some d) (some (t, b)) k kd false) rfl fun a N T => and_assoc.symm
@[go_sem ↓] theorem RE_EPgt {j d t : Nat} {b : Bool} {k : KO} {kd : Nat} {K : (Nat → AV) → Mem → Prop} :
    @RE P nb ib (EP j (some d) (some (t, b)) k kd true :: es) s M lg ⟨K⟩ = @gdW (gB (s t)) b ⟨@KS P s M (nb + 64 * j) (ib + 64 * j) k ⟨fun a N T => @okP kd nb j k M N T ⟨@RE P nb ib es (upd s d a) N (upd lg j (wrt T M N)) ⟨K⟩⟩⟩⟩ ⟨@RE P nb ib es (upd s d (.tup [])) M lg ⟨K⟩⟩ :=
  RE_step (e := EP j (some d) (some (t, b)) k kd true) rfl fun a N T => and_assoc.symm
end
def nxL (p : List StepD) : List Int → Bool
  | a :: b :: l => (match stepK p a with | some s => (nextsL s a).any (· == b) | none => false) && nxL p (b :: l)
  | _ => true
def turnsR (p : List StepD) : List Int → List Bool
  | a :: b :: l => (match stepK p a with | some s => if brB s then [b == a + s.to + 1] else [] | none => []) ++ turnsR p (b :: l)
  | _ => []
def lastX (p : List StepD) (l : List Int) : Bool := match l.getLast? with
  | some a => (match stepK p a with | some s => s.kind == 11 | none => false)
  | none => false
theorem stepK_ok {p : List StepD} {a : Int} {s : StepD} (hp : ProgOk p) (h : stepK p a = some s) : stepB s = true := by
  unfold stepK at h
  split at h
  · obtain ⟨hi, rfl⟩ := List.getElem?_eq_some_iff.1 h
    exact (hp.all _ hi).1
  · cases h
theorem goW_eq {p : List StepD} (hp : ProgOk p) : ∀ (l : List Int) (ts : List Bool), l ≠ [] → goW p l ts = (nxL p l && lastX p l && decide (turnsR p l = ts))
  | [], _, h => absurd rfl h
  | [a], ts, _ => by
    cases hk : stepK p a with
    | none =>
      rw [goW_out hk]
      simp [lastX, hk]
    | some s =>
      rw [goW_one hk]
      cases ts <;> simp [nxL, lastX, turnsR, hk]
  | a :: b :: l, ts, _ => by
    have hlx : lastX p (a :: b :: l) = lastX p (b :: l) := by unfold lastX; rw [List.getLast?_cons_cons]
    cases hk : stepK p a with
    | none =>
      rw [goW_out hk]
      simp [nxL, hk]
    | some s =>
      have ok := step_ok (stepK_ok hp hk)
      rw [goW_two hk]
      have hnl : nxL p (a :: b :: l) = ((nextsL s a).any (· == b) && nxL p (b :: l)) := by rw [nxL, hk]
      have htr : turnsR p (a :: b :: l) = (if brB s then [b == a + s.to + 1] else []) ++ turnsR p (b :: l) := by rw [turnsR, hk]
      rw [hnl, htr, hlx]
      cases h11 : (s.kind == 11) with
      | true =>
        have : nextsL s a = [] := by unfold nextsL; rw [h11]; rfl
        simp [this]
      | false =>
        simp only [Bool.false_eq_true, if_false]
        cases hb : brB s with
        | false =>
          have hnx : nextsL s a = [if s.kind == 8 then a + s.to + 1 else a + 1] := by
            unfold nextsL
            rw [h11]
            unfold brB at hb
            rw [Bool.or_eq_false_iff] at hb
            rw [hb.1, hb.2]
            cases (s.kind == 8) <;> rfl
          rw [hnx]
          generalize (if s.kind == 8 then a + s.to + 1 else a + 1) = v
          simp only [Bool.false_eq_true, if_false, List.nil_append, List.any_cons, List.any_nil, Bool.or_false]
          rw [goW_eq hp (b :: l) ts (by simp), Bool.beq_comm (a := v)]
          cases (b == v) <;> simp
        | true =>
          have hgt : s.to > 0 := ok.jmp.2 (by unfold brB at hb; simp at hb; omega)
          have hnx : nextsL s a = [a + 1, a + s.to + 1] := by
            unfold nextsL
            rw [h11]
            unfold brB at hb
            have h8 : (s.kind == 8) = false := by rw [beq_eq_false_iff_ne]; simp at hb; omega
            rw [h8]
            cases h9 : (s.kind == 9) with
            | true => rfl
            | false => rw [h9, Bool.false_or] at hb; rw [hb]; rfl
          rw [hnx]
          simp only [if_true, List.any_cons, List.any_nil, Bool.or_false, List.cons_append, List.nil_append]
          cases ts with
          | nil => simp
          | cons t ts =>
            dsimp only
            rw [goW_eq hp (b :: l) ts (by simp)]
            by_cases e1 : b = a + 1
            · have e2 : ¬ b = a + s.to + 1 := by omega
              have n1 : (a + 1 == b) = true := by rw [e1]; exact beq_self_eq_true _
              have n2 : (b == a + s.to + 1) = false := neq_b e2
              have n3 : (b == a + 1) = true := by rw [e1]; exact beq_self_eq_true _
              cases t <;> simp [n1, n2, n3]
            · by_cases e2 : b = a + s.to + 1
              · have n1 : (a + s.to + 1 == b) = true := by rw [e2]; exact beq_self_eq_true _
                have n2 : (b == a + s.to + 1) = true := by rw [e2]; exact beq_self_eq_true _
                have n3 : (b == a + 1) = false := neq_b e1
                cases t <;> simp [n1, n2, n3]
              · have n1 : (a + s.to + 1 == b) = false := neq_b (fun h => e2 h.symm)
                have n2 : (b == a + s.to + 1) = false := neq_b e2
                have n3 : (b == a + 1) = false := neq_b e1
                have n4 : (a + 1 == b) = false := neq_b (fun h => e1 h.symm)
                cases t <;> simp [n1, n2, n3, n4]
theorem turnsR_eq {p : List StepD} : ∀ {l : List Int}, InP p l → turnsV p l = turnsR p l
  | [], _ => rfl
  | [a], _ => by unfold turnsV turnsN; simp [turnAt, turnsR]
  | a :: b :: l, h => by
    have ih := turnsR_eq (p := p) (l := b :: l) fun x hx => h x (List.mem_cons_of_mem _ hx)
    have ha := h a List.mem_cons_self
    have hk : stepK p a = p[a.toNat]? := by unfold stepK; rw [if_pos ha.1]
    unfold turnsV turnsN at ih ⊢
    rw [List.length_cons, List.range_succ_eq_map, List.flatMap_cons, List.flatMap_map]
    have e : (fun i => turnAt p (a :: b :: l) (i + 1)) = turnAt p (b :: l) := by funext i; rfl
    rw [show (List.range (b :: l).length).flatMap (fun i => turnAt p (a :: b :: l) i.succ) = (List.range (b :: l).length).flatMap (turnAt p (b :: l)) from rfl, ih]
    rw [turnsR, hk]
    rfl
theorem slices_Equal__sbool_bool.fc (a b : List Bool) (ha : a.length ≤ 4294967296) (hb : b.length ≤ 4294967296) : FCt prog F_slices_Equal__sbool_bool [.ro, .ro] [bools a, bools b] (Bb (decide (a = b))) [] := by
  refine fct_run slices_Equal__sbool_bool.ok rfl ?_
  simp only [go_sem, ↓reduceIte, Nat.reduceEqDiff, Nat.reduceAdd, Nat.reduceMul, Nat.reduceBEq, Option.getD_none, Int.reduceToNat, Nat.reduceSub, Nat.reduceLT, Nat.reduceLeDiff, Int.reduceLE, Int.reduceLT, reduceCtorEq]
  by_cases hl : a.length = b.length
  case neg =>
    have e : ((a.length : Int) != (b.length : Int)) = true := by simp; omega
    have hne : ¬ a = b := fun h => hl (by rw [h])
    simp only [go_sem, ↓reduceIte, Nat.reduceEqDiff, Nat.reduceAdd, Nat.reduceMul, Nat.reduceBEq, Option.getD_none, Int.reduceToNat, Nat.reduceSub, Nat.reduceLT, Nat.reduceLeDiff, Int.reduceLE, Int.reduceLT, reduceCtorEq, e, decide_eq_false hne]
  have e : ((a.length : Int) != (b.length : Int)) = false := by simp; omega
  simp only [go_sem, ↓reduceIte, Nat.reduceEqDiff, Nat.reduceAdd, Nat.reduceMul, Nat.reduceBEq, Option.getD_none, Int.reduceToNat, Nat.reduceSub, Nat.reduceLT, Nat.reduceLeDiff, Int.reduceLE, Int.reduceLT, reduceCtorEq, e]
  refine R_loop (α := Nat) (fun k s' M' => k ≤ a.length ∧ s' 13 = aI k ∧ a.take k = b.take k) (fun k => a.length - k) 0 ⟨by omega, by simp only [go_sem, ↓reduceIte, Nat.reduceEqDiff, Nat.reduceAdd, Nat.reduceMul, Nat.reduceBEq, Option.getD_none, Int.reduceToNat, Nat.reduceSub, Nat.reduceLT, Nat.reduceLeDiff, Int.reduceLE, Int.reduceLT, reduceCtorEq]; rfl, by simp⟩ ?_
  rintro k s' M' ⟨hk, h13, hr⟩ ho
  unfold slices_Equal__sbool_bool.b0
  have j0 : s' 0 = .dat none (bools a) := by rw [ho 0 rfl]; simp only [go_sem, ↓reduceIte, Nat.reduceEqDiff, Nat.reduceAdd, Nat.reduceMul, Nat.reduceBEq, Option.getD_none, Int.reduceToNat, Nat.reduceSub, Nat.reduceLT, Nat.reduceLeDiff, Int.reduceLE, Int.reduceLT, reduceCtorEq]
  have j1 : s' 1 = .dat none (bools b) := by rw [ho 1 rfl]; simp only [go_sem, ↓reduceIte, Nat.reduceEqDiff, Nat.reduceAdd, Nat.reduceMul, Nat.reduceBEq, Option.getD_none, Int.reduceToNat, Nat.reduceSub, Nat.reduceLT, Nat.reduceLeDiff, Int.reduceLE, Int.reduceLT, reduceCtorEq]
  have j12 : s' 12 = aI a.length := by rw [ho 12 rfl]; simp only [go_sem, ↓reduceIte, Nat.reduceEqDiff, Nat.reduceAdd, Nat.reduceMul, Nat.reduceBEq, Option.getD_none, Int.reduceToNat, Nat.reduceSub, Nat.reduceLT, Nat.reduceLeDiff, Int.reduceLE, Int.reduceLT, reduceCtorEq]
  clear ho
  by_cases hlt : k < a.length
  · have hi' : (k : Int) < a.length := by omega
    have ga : a[k]? = some a[k] := List.getElem?_eq_getElem hlt
    have hw : IntKind.i64.wrap (k + 1) = ((k + 1 : Nat) : Int) := wrap_k hlt (by omega)
    have gb : b[k]? = some b[k] := List.getElem?_eq_getElem (by omega)
    have ib : (k : Int) < b.length := by omega
    cases hq : (a[k] == b[k]) with
    | false =>
      have hne : ¬ a = b := fun h => by subst h; simp at hq
      have hq1 : (a[k] != b[k]) = true := by rw [bne, hq]; rfl
      have hq2 : ((a[k] == b[k]) != true) = true := by rw [hq]; rfl
      simp only [go_sem, ↓reduceIte, Nat.reduceEqDiff, Nat.reduceAdd, Nat.reduceMul, Nat.reduceBEq, Option.getD_none, Int.reduceToNat, Nat.reduceSub, Nat.reduceLT, Nat.reduceLeDiff, Int.reduceLE, Int.reduceLT, reduceCtorEq, hi', ga, gb, ib, hq1, hq2, decide_eq_false hne, j0, j1, j12, h13]
    | true =>
      have hq1 : (a[k] != b[k]) = false := by rw [bne, hq]; rfl
      have hq2 : ((a[k] == b[k]) != true) = false := by rw [hq]; rfl
      simp only [go_sem, ↓reduceIte, Nat.reduceEqDiff, Nat.reduceAdd, Nat.reduceMul, Nat.reduceBEq, Option.getD_none, Int.reduceToNat, Nat.reduceSub, Nat.reduceLT, Nat.reduceLeDiff, Int.reduceLE, Int.reduceLT, reduceCtorEq, hi', ga, gb, ib, hq1, hq2, hw, j0, j1, j12, h13]
      exact ⟨k + 1, by dsimp only; omega, by omega, by simp only [go_sem, ↓reduceIte, Nat.reduceEqDiff, Nat.reduceAdd, Nat.reduceMul, Nat.reduceBEq, Option.getD_none, Int.reduceToNat, Nat.reduceSub, Nat.reduceLT, Nat.reduceLeDiff, Int.reduceLE, Int.reduceLT, reduceCtorEq, j0, j1, j12, h13], by rw [take_succ' hlt, take_succ' (show k < b.length by omega), hr, eq_of_beq hq]⟩
  · have hi' : ¬ (k : Int) < a.length := by omega
    obtain rfl : k = a.length := by omega
    rw [List.take_length, hl, List.take_length] at hr
    simp only [go_sem, ↓reduceIte, Nat.reduceEqDiff, Nat.reduceAdd, Nat.reduceMul, Nat.reduceBEq, Option.getD_none, Int.reduceToNat, Nat.reduceSub, Nat.reduceLT, Nat.reduceLeDiff, Int.reduceLE, Int.reduceLT, reduceCtorEq, Int.lt_irrefl, decide_eq_true hr, j0, j1, j12, h13]

theorem goodW_eq {p : List StepD} {l : List Int} {ts : List Bool} (hp : ProgOk p) (h : l ≠ []) : goW p l ts = (nxL p l && lastX p l && decide (turnsR p l = ts)) := goW_eq hp l ts h
theorem next_in {p : List StepD} {a b : Int} {s : StepD} (hp : ProgOk p) (ha : 0 ≤ a) (gs : p[a.toNat]? = some s) (h : (nextsL s a).any (· == b) = true) : 0 ≤ b ∧ b < p.length := by
  obtain ⟨hi, rfl⟩ := List.getElem?_eq_some_iff.1 gs
  obtain ⟨hv, ht⟩ := hp.all _ hi
  have ok := step_ok hv
  have hto := ok.to
  have hj := ok.jmp
  have hl : p[a.toNat].kind = 11 ∨ a + 1 < p.length := by
    by_cases h : a + 1 < p.length
    · exact .inr h
    · left
      have e : p.length - 1 = a.toNat := by omega
      have := hp.last
      unfold lastK at this
      rw [e, gs] at this
      exact this
  generalize p[a.toNat] = s at h ht hto hj hl
  unfold nextsL at h
  split at h
  · simp at h
  · rename_i h11
    have n11 : ¬ s.kind = 11 := by simpa using h11
    split at h
    · rename_i h8
      have k8 : s.kind = 8 := by simpa using h8
      simp only [List.any_cons, List.any_nil, Bool.or_false, beq_iff_eq] at h
      have := ht (hj.2 (.inl k8))
      omega
    · split at h
      · rename_i h9
        have k9 : s.kind = 9 := by simpa using h9
        simp only [List.any_cons, List.any_nil, Bool.or_false, Bool.or_eq_true, beq_iff_eq] at h
        have := ht (hj.2 (.inr (.inl k9)))
        omega
      · split at h
        · rename_i h10
          have k10 : s.kind = 10 := by simpa using h10
          simp only [List.any_cons, List.any_nil, Bool.or_false, Bool.or_eq_true, beq_iff_eq] at h
          have := ht (hj.2 (.inr (.inr k10)))
          omega
        · simp only [List.any_cons, List.any_nil, Bool.or_false, beq_iff_eq] at h
          omega
theorem nexts_len {s : StepD} {i : Int} : (nextsL s i).length ≤ 2 := by
  unfold nextsL
  repeat' split
  all_goals simp
theorem impl_GoodWay.fc (p : List StepD) (w : WayD) (hp : p.length ≤ 4194304) (hw : wWay w ≤ 4194304) : FCt prog F_impl_GoodWay [.ro, .ro] [steps p, w.d] (Bb (goodW p w)) [] := by
  refine fct_run impl_GoodWay.ok rfl ?_
  obtain ⟨l, ts⟩ := w
  have hl : l.length + ts.length ≤ 4194304 := hw
  unfold goodW
  dsimp only
  simp only [go_sem, ↓reduceIte, Nat.reduceEqDiff, Nat.reduceAdd, Nat.reduceMul, Nat.reduceBEq, Option.getD_none, Int.reduceToNat, Nat.reduceSub, Nat.reduceLT, Nat.reduceLeDiff, Int.reduceLE, Int.reduceLT, reduceCtorEq]
  refine fcW_bool (impl_GoodProgram.fc p hp) ?_
  cases hg : goodP p with
  | false => simp only [go_sem, ↓reduceIte, Nat.reduceEqDiff, Nat.reduceAdd, Nat.reduceMul, Nat.reduceBEq, Option.getD_none, Int.reduceToNat, Nat.reduceSub, Nat.reduceLT, Nat.reduceLeDiff, Int.reduceLE, Int.reduceLT, reduceCtorEq]
  | true =>
    have op := prog_ok hg
    cases hlq : l with
    | nil =>
      have z0 : (((0 : Nat) : Int) == 0) = true := rfl
      simp only [go_sem, ↓reduceIte, Nat.reduceEqDiff, Nat.reduceAdd, Nat.reduceMul, Nat.reduceBEq, Option.getD_none, Int.reduceToNat, Nat.reduceSub, Nat.reduceLT, Nat.reduceLeDiff, Int.reduceLE, Int.reduceLT, reduceCtorEq, List.length_nil, z0]
      rfl
    | cons a0 l0 =>
      rw [← hlq]
      have hne : l ≠ [] := by rw [hlq]; simp
      have n0 : ((l.length : Int) == 0) = false := by rw [hlq]; exact neq_b (by simp only [List.length_cons]; omega)
      have i0 : (0 : Int) < l.length := by rw [hlq]; simp only [List.length_cons]; omega
      have hz : headZ l = (a0 == 0) := by rw [hlq]; rfl
      have g0 : l[0]? = some a0 := by rw [hlq]; rfl
      have gt0 : (0 : Int).toNat = 0 := rfl
      have hgw := goodW_eq (ts := ts) op hne
      simp only [go_sem, ↓reduceIte, Nat.reduceEqDiff, Nat.reduceAdd, Nat.reduceMul, Nat.reduceBEq, Option.getD_none, Int.reduceToNat, Nat.reduceSub, Nat.reduceLT, Nat.reduceLeDiff, Int.reduceLE, Int.reduceLT, reduceCtorEq, n0, i0, g0, gt0, hz]
      cases ha : (a0 == 0) with
      | false =>
        have ha2 : (a0 != 0) = true := by rw [bne, ha]; rfl
        simp only [go_sem, ↓reduceIte, Nat.reduceEqDiff, Nat.reduceAdd, Nat.reduceMul, Nat.reduceBEq, Option.getD_none, Int.reduceToNat, Nat.reduceSub, Nat.reduceLT, Nat.reduceLeDiff, Int.reduceLE, Int.reduceLT, reduceCtorEq, ha2, hz, ha]
      | true =>
        have ha2 : (a0 != 0) = false := by rw [bne, ha]; rfl
        have hz2 : headZ l = true := by rw [hz, ha]
        have a00 : a0 = 0 := by simpa using ha
        have hpl := op.len.1
        simp only [go_sem, ↓reduceIte, Nat.reduceEqDiff, Nat.reduceAdd, Nat.reduceMul, Nat.reduceBEq, Option.getD_none, Int.reduceToNat, Nat.reduceSub, Nat.reduceLT, Nat.reduceLeDiff, Int.reduceLE, Int.reduceLT, reduceCtorEq, ha2, hz2]
        refine R_loop (α := Nat) (fun k s' M' => k + 1 ≤ l.length ∧ s' 5 = aI ((k + 1 : Nat) : Int) ∧ M'.m 64 = some (.box 0 (.dat none (WayD.d ⟨l, ts⟩))) ∧ InP p (l.take (k + 1)) ∧ nxL p l = nxL p (l.drop k)) (fun k => l.length - k) 0
          ⟨by omega, by simp only [go_sem, ↓reduceIte, Nat.reduceEqDiff, Nat.reduceAdd, Nat.reduceMul, Nat.reduceBEq, Option.getD_none, Int.reduceToNat, Nat.reduceSub, Nat.reduceLT, Nat.reduceLeDiff, Int.reduceLE, Int.reduceLT, reduceCtorEq]; rfl, by simp only [go_sem, ↓reduceIte, Nat.reduceEqDiff, Nat.reduceAdd, Nat.reduceMul, Nat.reduceBEq, Option.getD_none, Int.reduceToNat, Nat.reduceSub, Nat.reduceLT, Nat.reduceLeDiff, Int.reduceLE, Int.reduceLT, reduceCtorEq], by rw [hlq]; intro x hx; simp at hx; rw [hx, a00]; omega, by simp⟩ ?_
        rintro k s' M' ⟨hk, h5, hm, hin, hr⟩ ho
        unfold impl_GoodWay.b0
        have j0 : s' 0 = .dat none (steps p) := by rw [ho 0 rfl]; simp only [go_sem, ↓reduceIte, Nat.reduceEqDiff, Nat.reduceAdd, Nat.reduceMul, Nat.reduceBEq, Option.getD_none, Int.reduceToNat, Nat.reduceSub, Nat.reduceLT, Nat.reduceLeDiff, Int.reduceLE, Int.reduceLT, reduceCtorEq]
        have j3 : s' 3 = .ptr 64 0 0 none := by rw [ho 3 rfl]; simp only [go_sem, ↓reduceIte, Nat.reduceEqDiff, Nat.reduceAdd, Nat.reduceMul, Nat.reduceBEq, Option.getD_none, Int.reduceToNat, Nat.reduceSub, Nat.reduceLT, Nat.reduceLeDiff, Int.reduceLE, Int.reduceLT, reduceCtorEq]
        clear ho
        have gk : l[k]? = some l[k] := List.getElem?_eq_getElem (by omega)
        have ik : (k : Int) < l.length := by omega
        have hmem : l[k] ∈ l.take (k + 1) := by rw [take_succ' (show k < l.length by omega)]; exact List.mem_append_right _ (List.mem_singleton.2 rfl)
        obtain ⟨q0, q1⟩ := hin _ hmem
        obtain ⟨st, ks, gs, hv⟩ := stepK_some q0 q1 op
        by_cases hlt : k + 1 < l.length
        · have hi' : ((k + 1 : Nat) : Int) < l.length := by omega
          have w0 : IntKind.i64.wrap (((k + 1 : Nat) : Int) - 1) = (k : Int) := by rw [wrap_in (by omega) (by omega)]; omega
          have wk : IntKind.i64.wrap (((k + 1 : Nat) : Int) + 1) = ((k + 1 + 1 : Nat) : Int) := by rw [wrap_in (by omega) (by omega)]; omega
          have g2 : l[k + 1]? = some l[k + 1] := List.getElem?_eq_getElem hlt
          have hd : l.drop k = l[k] :: l[k + 1] :: l.drop (k + 1 + 1) := by rw [List.drop_eq_getElem_cons (show k < l.length by omega), List.drop_eq_getElem_cons hlt]
          have hd2 : l.drop (k + 1) = l[k + 1] :: l.drop (k + 1 + 1) := List.drop_eq_getElem_cons hlt
          rw [hd, nxL, ks] at hr
          dsimp only at hr
          rw [← hd2] at hr
          have nl : (nextsL st l[k]).length ≤ 2 := nexts_len
          simp only [go_sem, ↓reduceIte, Nat.reduceEqDiff, Nat.reduceAdd, Nat.reduceMul, Nat.reduceBEq, Option.getD_none, Int.reduceToNat, Nat.reduceSub, Nat.reduceLT, Nat.reduceLeDiff, Int.reduceLE, Int.reduceLT, reduceCtorEq, hi', w0, gk, ik, j0, j3, h5, hm, hz2]
          refine fcW_bd (impl_nexts.fc p l[k] st q0 q1 op.len.2 gs hv) noRs_ints ?_
          simp only [go_sem, ↓reduceIte, Nat.reduceEqDiff, Nat.reduceAdd, Nat.reduceMul, Nat.reduceBEq, Option.getD_none, Int.reduceToNat, Nat.reduceSub, Nat.reduceLT, Nat.reduceLeDiff, Int.reduceLE, Int.reduceLT, reduceCtorEq, hi', gk, ik, g2, take_map_len, j0, j3, h5, hm, hz2]
          refine fcW_bool (slices_Contains__sint_int.fc (nextsL st l[k]) l[k + 1] (by omega)) ?_
          cases hc : (nextsL st l[k]).any (· == l[k + 1]) with
          | false =>
            rw [hc, Bool.false_and] at hr
            rw [hr, Bool.false_and, Bool.false_and] at hgw
            simp only [go_sem, ↓reduceIte, Nat.reduceEqDiff, Nat.reduceAdd, Nat.reduceMul, Nat.reduceBEq, Option.getD_none, Int.reduceToNat, Nat.reduceSub, Nat.reduceLT, Nat.reduceLeDiff, Int.reduceLE, Int.reduceLT, reduceCtorEq, hgw, j0, j3, h5, hm, hz2]
          | true =>
            rw [hc, Bool.true_and] at hr
            simp only [go_sem, ↓reduceIte, Nat.reduceEqDiff, Nat.reduceAdd, Nat.reduceMul, Nat.reduceBEq, Option.getD_none, Int.reduceToNat, Nat.reduceSub, Nat.reduceLT, Nat.reduceLeDiff, Int.reduceLE, Int.reduceLT, reduceCtorEq, wk, j0, j3, h5, hm, hz2]
            exact ⟨k + 1, by dsimp only; omega, hlt, by simp only [go_sem, ↓reduceIte, Nat.reduceEqDiff, Nat.reduceAdd, Nat.reduceMul, Nat.reduceBEq, Option.getD_none, Int.reduceToNat, Nat.reduceSub, Nat.reduceLT, Nat.reduceLeDiff, Int.reduceLE, Int.reduceLT, reduceCtorEq, j0, j3, h5, hm, hz2], by simp only [go_sem, ↓reduceIte, Nat.reduceEqDiff, Nat.reduceAdd, Nat.reduceMul, Nat.reduceBEq, Option.getD_none, Int.reduceToNat, Nat.reduceSub, Nat.reduceLT, Nat.reduceLeDiff, Int.reduceLE, Int.reduceLT, reduceCtorEq, j0, j3, h5, hm, hz2], fun x hx => by
              rw [take_succ' hlt] at hx
              rcases List.mem_append.1 hx with hx | hx
              · exact hin x hx
              · rw [List.mem_singleton] at hx; subst hx; exact next_in op q0 gs hc, hr⟩
        · have hi' : ¬ ((k + 1 : Nat) : Int) < l.length := by omega
          have hkl : k + 1 = l.length := by omega
          have hnx : nxL p l = true := by
            rw [hr, List.drop_eq_getElem_cons (show k < l.length by omega), List.drop_eq_nil_iff.2 (by omega)]; rfl
          have hlx : lastX p l = (st.kind == 11) := by
            unfold lastX
            rw [List.getLast?_eq_getElem?, show l.length - 1 = k by omega, gk]
            dsimp only
            rw [ks]
          have hinp : InP p l := by
            have : l.take (k + 1) = l := List.take_of_length_le (by omega)
            rw [this] at hin; exact hin
          have w0 : IntKind.i64.wrap ((l.length : Int) - 1) = (k : Int) := by rw [wrap_in (by omega) (by omega)]; omega
          rw [hnx, hlx, ← turnsR_eq hinp, Bool.true_and] at hgw
          simp only [go_sem, ↓reduceIte, Nat.reduceEqDiff, Nat.reduceAdd, Nat.reduceMul, Nat.reduceBEq, Option.getD_none, Int.reduceToNat, Nat.reduceSub, Nat.reduceLT, Nat.reduceLeDiff, Int.reduceLE, Int.reduceLT, reduceCtorEq, hi', w0, gk, ik, q0, q1, gs, j0, j3, h5, hm, hz2]
          cases h11 : (st.kind == 11) with
          | false =>
            rw [h11, Bool.false_and] at hgw
            simp only [go_sem, ↓reduceIte, Nat.reduceEqDiff, Nat.reduceAdd, Nat.reduceMul, Nat.reduceBEq, Option.getD_none, Int.reduceToNat, Nat.reduceSub, Nat.reduceLT, Nat.reduceLeDiff, Int.reduceLE, Int.reduceLT, reduceCtorEq, h11, hgw, j0, j3, h5, hm, hz2]
          | true =>
            rw [h11, Bool.true_and] at hgw
            simp only [go_sem, ↓reduceIte, Nat.reduceEqDiff, Nat.reduceAdd, Nat.reduceMul, Nat.reduceBEq, Option.getD_none, Int.reduceToNat, Nat.reduceSub, Nat.reduceLT, Nat.reduceLeDiff, Int.reduceLE, Int.reduceLT, reduceCtorEq, h11, j0, j3, h5, hm, hz2]
            refine fcW_bd (impl_turnsOf.fc p l op hinp (by omega)) noRs_bools ?_
            simp only [go_sem, ↓reduceIte, Nat.reduceEqDiff, Nat.reduceAdd, Nat.reduceMul, Nat.reduceBEq, Option.getD_none, Int.reduceToNat, Nat.reduceSub, Nat.reduceLT, Nat.reduceLeDiff, Int.reduceLE, Int.reduceLT, reduceCtorEq, take_map_len, j0, j3, h5, hm, hz2]
            have htl : (turnsV p l).length ≤ l.length := turnsN_len p l l.length
            refine fcW_bool (slices_Equal__sbool_bool.fc (turnsV p l) ts (by omega) (by omega)) ?_
            simp only [go_sem, ↓reduceIte, Nat.reduceEqDiff, Nat.reduceAdd, Nat.reduceMul, Nat.reduceBEq, Option.getD_none, Int.reduceToNat, Nat.reduceSub, Nat.reduceLT, Nat.reduceLeDiff, Int.reduceLE, Int.reduceLT, reduceCtorEq, hgw, j0, j3, h5, hm, hz2]
end Go.Vm.Ytdembjfpgfaheaa
/- Walks: turns are counted; a way is followed. -/
namespace Go.Vm.Ytdembjfpgfaheaa
open Go Go.Vm
set_option maxRecDepth 10000
set_option maxHeartbeats 16000000
set_option linter.unusedSimpArgs false
set_option linter.unusedVariables false

end Go.Vm.Ytdembjfpgfaheaa
/- Walks: a way is followed, by the reference. -/
namespace Go.Vm.Ytdembjfpgfaheaa
open Go Go.Vm
set_option maxRecDepth 10000
set_option maxHeartbeats 16000000
set_option linter.unusedSimpArgs false
set_option linter.unusedVariables false

end Go.Vm.Ytdembjfpgfaheaa
/- Walks: places that a way reads. -/
namespace Go.Vm.Ytdembjfpgfaheaa
open Go Go.Vm
set_option maxRecDepth 10000
set_option maxHeartbeats 16000000
set_option linter.unusedSimpArgs false
set_option linter.unusedVariables false

theorem goW_in (p : List StepD) : ∀ (l : List Int) (ts : List Bool), goW p l ts = true → InP p l
  | [], ts, _ => fun a h => by cases h
  | a :: l, ts, h => by
    cases ks : stepK p a with
    | none => rw [goW_out ks] at h; cases h
    | some s =>
      have ha : 0 ≤ a ∧ a < p.length := by
        unfold stepK at ks
        split at ks
        · rename_i h0
          obtain ⟨hi, _⟩ := List.getElem?_eq_some_iff.1 ks
          omega
        · cases ks
      have hl : InP p l := by
        cases l with
        | nil => intro a h; cases h
        | cons b l =>
          rw [goW_two ks] at h
          split at h
          · cases h
          · split at h
            · cases ts with
              | nil => cases h
              | cons t ts =>
                simp only [Bool.and_eq_true] at h
                exact goW_in p _ _ h.2
            · simp only [Bool.and_eq_true] at h
              exact goW_in p _ _ h.2
      intro c hc
      rcases List.mem_cons.1 hc with rfl | hc
      · exact ha
      · exact hl c hc
/-- what the step at a reads -/
def rdA (p : List StepD) (a : Int) : List Int := match p[a.toNat]? with
  | some s => if s.kind == 5 then [s.imm] else []
  | none => []
def rdL (p : List StepD) (l : List Int) : List Int := l.flatMap (rdA p)
theorem rdL_step {p : List StepD} {l : List Int} {k : Nat} {s : StepD} (h : k < l.length) (gs : p[l[k].toNat]? = some s) : rdL p (l.take (k + 1)) = rdL p (l.take k) ++ (if s.kind == 5 then [s.imm] else []) := by
  unfold rdL
  rw [take_succ' h, List.flatMap_append]
  have : [l[k]].flatMap (rdA p) = rdA p l[k] := by simp
  rw [this]
  unfold rdA
  rw [gs]
theorem rdL_len (p : List StepD) (l : List Int) : (rdL p l).length ≤ l.length := by
  induction l with
  | nil => simp [rdL]
  | cons a l ih =>
    unfold rdL at *
    rw [List.flatMap_cons, List.length_append, List.length_cons]
    have : (rdA p a).length ≤ 1 := by
      unfold rdA
      split
      · split <;> simp
      · simp
    omega
theorem setL_len (l : List Int) : (setL l).length ≤ l.length := by
  have : ∀ (l s : List Int), (l.foldl putI s).length ≤ s.length + l.length := by
    intro l
    induction l with
    | nil => intro s; simp
    | cons x l ih =>
      intro s
      have h1 := ih (putI s x)
      have h2 : (putI s x).length ≤ s.length + 1 := by
        unfold putI
        split
        · omega
        · rw [List.length_append, List.length_cons, List.length_take, List.length_drop]; omega
      rw [List.foldl_cons, List.length_cons]
      omega
  have h := this l []
  rw [List.length_nil, Nat.zero_add] at h
  exact h
theorem setL_snoc (l : List Int) (x : Int) : setL (l ++ [x]) = putI (setL l) x := by unfold setL; rw [List.foldl_append]; rfl
def placesV (p : List StepD) (w : WayD) : List Int × Bool := if goodW p w then (setL (rdL p w.steps), true) else ([], false)
theorem impl_PlacesRead.fc (p : List StepD) (w : WayD) (hp : p.length ≤ 4194304) (hw : wWay w ≤ 4194304) : FCt prog F_impl_PlacesRead [.ro, .ro] [steps p, w.d] (.tup [ints (placesV p w).1, Bb (placesV p w).2]) [] := by
  refine fct_run impl_PlacesRead.ok rfl ?_
  have c := impl_GoodWay.fc p w hp hw
  unfold placesV
  cases h : goodW p w with
  | false => rw [h] at c; repeat' (first | with_reducible rfl | refine fcW_bool (c) ?_ | with_reducible refine cdW_dec (fun _ => ?_) (fun _ => ?_) | refine cdW_not (fun _ => ?_) (fun _ => ?_) | refine cdW_any (fun _ => ?_) (fun _ => ?_) | with_reducible refine gdW_decT (fun _ => ?_) (fun _ => ?_) | with_reducible refine gdW_decF (fun _ => ?_) (fun _ => ?_) | refine gdW_not (fun _ => ?_) (fun _ => ?_) | refine gdW_any (fun _ => ?_) (fun _ => ?_) | simp only [go_sem, ↓reduceIte, Nat.reduceEqDiff, Nat.reduceAdd, Nat.reduceMul, Nat.reduceBEq, Option.getD_none, Int.reduceToNat, Nat.reduceSub, Nat.reduceLT, Nat.reduceLeDiff, Int.reduceLE, Int.reduceLT, reduceCtorEq, bne, Int.reduceEq, Int.reduceBEq, Int.reduceBNe, Int.reduceLE, Int.reduceNeg, Int.reduceAdd, Int.reduceSub, Int.reduceMul, *] | rfl)
  | true =>
    rw [h] at c
    have hin : InP p w.steps := by
      unfold goodW at h
      simp only [Bool.and_eq_true] at h
      exact goW_in p _ _ h.2
    obtain ⟨l, ts⟩ := w
    have hl : l.length + ts.length ≤ 4194304 := hw
    dsimp only at hin ⊢
    simp only [go_sem, ↓reduceIte, Nat.reduceEqDiff, Nat.reduceAdd, Nat.reduceMul, Nat.reduceBEq, Option.getD_none, Int.reduceToNat, Nat.reduceSub, Nat.reduceLT, Nat.reduceLeDiff, Int.reduceLE, Int.reduceLT, reduceCtorEq]
    refine fcW_bool c ?_
    simp only [go_sem, ↓reduceIte, Nat.reduceEqDiff, Nat.reduceAdd, Nat.reduceMul, Nat.reduceBEq, Option.getD_none, Int.reduceToNat, Nat.reduceSub, Nat.reduceLT, Nat.reduceLeDiff, Int.reduceLE, Int.reduceLT, reduceCtorEq]
    refine R_loop (α := Nat) (fun k s' M' => k ≤ l.length ∧ s' 16 = aI k ∧ ∃ w, s' 6 = .sl 2048 w 0 (rdL p (l.take k)).length 1 ∧ M'.m 2048 = some (.arr w true 1 ((rdL p (l.take k)).map Ii))) (fun k => l.length - k) 0
      ⟨by omega, by simp only [go_sem, ↓reduceIte, Nat.reduceEqDiff, Nat.reduceAdd, Nat.reduceMul, Nat.reduceBEq, Option.getD_none, Int.reduceToNat, Nat.reduceSub, Nat.reduceLT, Nat.reduceLeDiff, Int.reduceLE, Int.reduceLT, reduceCtorEq]; try rfl, _, by simp only [go_sem, ↓reduceIte, Nat.reduceEqDiff, Nat.reduceAdd, Nat.reduceMul, Nat.reduceBEq, Option.getD_none, Int.reduceToNat, Nat.reduceSub, Nat.reduceLT, Nat.reduceLeDiff, Int.reduceLE, Int.reduceLT, reduceCtorEq]; rfl, by simp only [go_sem, ↓reduceIte, Nat.reduceEqDiff, Nat.reduceAdd, Nat.reduceMul, Nat.reduceBEq, Option.getD_none, Int.reduceToNat, Nat.reduceSub, Nat.reduceLT, Nat.reduceLeDiff, Int.reduceLE, Int.reduceLT, reduceCtorEq]; rfl⟩ ?_
    rintro k s' M' ⟨hk, h16, w, h6, hm⟩ ho
    have hrl := rdL_len p (l.take k)
    rw [List.length_take] at hrl
    unfold impl_PlacesRead.b0
    have q0 : s' 0 = .dat none (steps p) := by rw [ho 0 rfl]; simp only [go_sem, ↓reduceIte, Nat.reduceEqDiff, Nat.reduceAdd, Nat.reduceMul, Nat.reduceBEq, Option.getD_none, Int.reduceToNat, Nat.reduceSub, Nat.reduceLT, Nat.reduceLeDiff, Int.reduceLE, Int.reduceLT, reduceCtorEq]
    have q14 : s' 14 = .dat none (ints l) := by rw [ho 14 rfl]; simp only [go_sem, ↓reduceIte, Nat.reduceEqDiff, Nat.reduceAdd, Nat.reduceMul, Nat.reduceBEq, Option.getD_none, Int.reduceToNat, Nat.reduceSub, Nat.reduceLT, Nat.reduceLeDiff, Int.reduceLE, Int.reduceLT, reduceCtorEq]
    have q15 : s' 15 = aI l.length := by rw [ho 15 rfl]; simp only [go_sem, ↓reduceIte, Nat.reduceEqDiff, Nat.reduceAdd, Nat.reduceMul, Nat.reduceBEq, Option.getD_none, Int.reduceToNat, Nat.reduceSub, Nat.reduceLT, Nat.reduceLeDiff, Int.reduceLE, Int.reduceLT, reduceCtorEq]
    clear ho
    by_cases hlt : k < l.length
    · have hi' : (k : Int) < l.length := by omega
      have ga : l[k]? = some l[k] := List.getElem?_eq_getElem hlt
      have hw : IntKind.i64.wrap (k + 1) = ((k + 1 : Nat) : Int) := wrap_k hlt (by omega)
      obtain ⟨ha0, ha1⟩ := hin _ (List.getElem_mem hlt)
      have gs : p[l[k].toNat]? = some (p[l[k].toNat]'(by omega)) := List.getElem?_eq_getElem (by omega)
      have hst := rdL_step hlt gs
      generalize (p[l[k].toNat]'(by omega)) = s at gs hst
      generalize l[k] = a at ga gs ha0 ha1
      have hbb : ((rdL p (l.take k)).length + 1) * 8 ≤ 70368744177664 := by omega
      generalize rdL p (l.take k) = G at hst h6 hm hbb hrl
      cases hq : (s.kind == 5) with
      | false =>
        rw [hq] at hst
        simp only [Bool.false_eq_true, if_false, List.append_nil] at hst
        simp only [go_sem, ↓reduceIte, Nat.reduceEqDiff, Nat.reduceAdd, Nat.reduceMul, Nat.reduceBEq, Option.getD_none, Int.reduceToNat, Nat.reduceSub, Nat.reduceLT, Nat.reduceLeDiff, Int.reduceLE, Int.reduceLT, reduceCtorEq, hi', ga, ha0, ha1, gs, hq, hw, q0, q14, q15, h16, h6, hm]
        exact ⟨k + 1, by dsimp only; omega, by omega, by simp only [go_sem, ↓reduceIte, Nat.reduceEqDiff, Nat.reduceAdd, Nat.reduceMul, Nat.reduceBEq, Option.getD_none, Int.reduceToNat, Nat.reduceSub, Nat.reduceLT, Nat.reduceLeDiff, Int.reduceLE, Int.reduceLT, reduceCtorEq, q0, q14, q15, h16, h6, hm], w, by rw [hst]; simp only [go_sem, ↓reduceIte, Nat.reduceEqDiff, Nat.reduceAdd, Nat.reduceMul, Nat.reduceBEq, Option.getD_none, Int.reduceToNat, Nat.reduceSub, Nat.reduceLT, Nat.reduceLeDiff, Int.reduceLE, Int.reduceLT, reduceCtorEq, q0, q14, q15, h16, h6, hm], by rw [hst]; simp only [go_sem, ↓reduceIte, Nat.reduceEqDiff, Nat.reduceAdd, Nat.reduceMul, Nat.reduceBEq, Option.getD_none, Int.reduceToNat, Nat.reduceSub, Nat.reduceLT, Nat.reduceLeDiff, Int.reduceLE, Int.reduceLT, reduceCtorEq, q0, q14, q15, h16, h6, hm]⟩
      | true =>
        rw [hq] at hst
        simp only [if_true] at hst
        simp only [go_sem, ↓reduceIte, Nat.reduceEqDiff, Nat.reduceAdd, Nat.reduceMul, Nat.reduceBEq, Option.getD_none, Int.reduceToNat, Nat.reduceSub, Nat.reduceLT, Nat.reduceLeDiff, Int.reduceLE, Int.reduceLT, reduceCtorEq, hi', ga, ha0, ha1, gs, hq, hw, hbb, take_map_len, q0, q14, q15, h16, h6, hm]
        exact ⟨k + 1, by dsimp only; omega, by omega, by simp only [go_sem, ↓reduceIte, Nat.reduceEqDiff, Nat.reduceAdd, Nat.reduceMul, Nat.reduceBEq, Option.getD_none, Int.reduceToNat, Nat.reduceSub, Nat.reduceLT, Nat.reduceLeDiff, Int.reduceLE, Int.reduceLT, reduceCtorEq, q0, q14, q15, h16, h6, hm], _, by rw [hst, List.length_append]; simp only [go_sem, ↓reduceIte, Nat.reduceEqDiff, Nat.reduceAdd, Nat.reduceMul, Nat.reduceBEq, Option.getD_none, Int.reduceToNat, Nat.reduceSub, Nat.reduceLT, Nat.reduceLeDiff, Int.reduceLE, Int.reduceLT, reduceCtorEq, q0, q14, q15, h16, h6, hm]; try rfl, by rw [hst, List.map_append]; simp only [go_sem, ↓reduceIte, Nat.reduceEqDiff, Nat.reduceAdd, Nat.reduceMul, Nat.reduceBEq, Option.getD_none, Int.reduceToNat, Nat.reduceSub, Nat.reduceLT, Nat.reduceLeDiff, Int.reduceLE, Int.reduceLT, reduceCtorEq, q0, q14, q15, h16, h6, hm]; try rfl⟩
    · have hi' : ¬ (k : Int) < l.length := by omega
      obtain rfl : k = l.length := by omega
      rw [List.take_length] at h6 hm hrl
      have hcs := compact_sort (rdL p l)
      have hsl : (sortI (rdL p l)).length = (rdL p l).length := List.length_mergeSort _
      generalize rdL p l = G at h6 hm hrl hcs hsl ⊢
      simp only [go_sem, ↓reduceIte, Nat.reduceEqDiff, Nat.reduceAdd, Nat.reduceMul, Nat.reduceBEq, Option.getD_none, Int.reduceToNat, Nat.reduceSub, Nat.reduceLT, Nat.reduceLeDiff, Int.reduceLE, Int.reduceLT, reduceCtorEq, Int.lt_irrefl, take_map_len, q0, q14, q15, h16, h6, hm]
      refine coW_of (slices_Sort__sint_int.fc G (by omega)) rfl (by simp only [noRsL, Bool.and_true]; exact noRs_ints) ?_
      have tk : ((sortI G).map Ii).take G.length = (sortI G).map Ii := List.take_of_length_le (by simp [hsl])
      simp only [go_sem, ↓reduceIte, Nat.reduceEqDiff, Nat.reduceAdd, Nat.reduceMul, Nat.reduceBEq, Option.getD_none, Int.reduceToNat, Nat.reduceSub, Nat.reduceLT, Nat.reduceLeDiff, Int.reduceLE, Int.reduceLT, reduceCtorEq, hsl, tk, q0, q14, q15, h16, h6, hm]
      refine coW_of (slices_Compact__sint_int.fc (sortI G) (by omega)) noRs_ints rfl ?_
      rw [hcs]
      simp only [go_sem, ↓reduceIte, Nat.reduceEqDiff, Nat.reduceAdd, Nat.reduceMul, Nat.reduceBEq, Option.getD_none, Int.reduceToNat, Nat.reduceSub, Nat.reduceLT, Nat.reduceLeDiff, Int.reduceLE, Int.reduceLT, reduceCtorEq, take_map_len, q0, q14, q15, h16, h6, hm]
theorem spec_PlacesRead.fc (p : List StepD) (w : WayD) (hp : p.length ≤ 4194304) (hw : wWay w ≤ 4194304) : FCt prog F_spec_PlacesRead [.ro, .ro] [steps p, w.d] (.tup [ints (placesV p w).1, Bb (placesV p w).2]) [] := by
  refine fct_run spec_PlacesRead.ok rfl ?_
  have c := spec_GoodWay.fc p w hp hw
  unfold placesV
  cases h : goodW p w with
  | false => rw [h] at c; repeat' (first | with_reducible rfl | refine fcW_bool (c) ?_ | with_reducible refine cdW_dec (fun _ => ?_) (fun _ => ?_) | refine cdW_not (fun _ => ?_) (fun _ => ?_) | refine cdW_any (fun _ => ?_) (fun _ => ?_) | with_reducible refine gdW_decT (fun _ => ?_) (fun _ => ?_) | with_reducible refine gdW_decF (fun _ => ?_) (fun _ => ?_) | refine gdW_not (fun _ => ?_) (fun _ => ?_) | refine gdW_any (fun _ => ?_) (fun _ => ?_) | simp only [go_sem, ↓reduceIte, Nat.reduceEqDiff, Nat.reduceAdd, Nat.reduceMul, Nat.reduceBEq, Option.getD_none, Int.reduceToNat, Nat.reduceSub, Nat.reduceLT, Nat.reduceLeDiff, Int.reduceLE, Int.reduceLT, reduceCtorEq, bne, Int.reduceEq, Int.reduceBEq, Int.reduceBNe, Int.reduceLE, Int.reduceNeg, Int.reduceAdd, Int.reduceSub, Int.reduceMul, *] | rfl)
  | true =>
    rw [h] at c
    have hin : InP p w.steps := by
      unfold goodW at h
      simp only [Bool.and_eq_true] at h
      exact goW_in p _ _ h.2
    obtain ⟨l, ts⟩ := w
    have hl : l.length + ts.length ≤ 4194304 := hw
    dsimp only at hin ⊢
    simp only [go_sem, ↓reduceIte, Nat.reduceEqDiff, Nat.reduceAdd, Nat.reduceMul, Nat.reduceBEq, Option.getD_none, Int.reduceToNat, Nat.reduceSub, Nat.reduceLT, Nat.reduceLeDiff, Int.reduceLE, Int.reduceLT, reduceCtorEq]
    refine fcW_bool c ?_
    simp only [go_sem, ↓reduceIte, Nat.reduceEqDiff, Nat.reduceAdd, Nat.reduceMul, Nat.reduceBEq, Option.getD_none, Int.reduceToNat, Nat.reduceSub, Nat.reduceLT, Nat.reduceLeDiff, Int.reduceLE, Int.reduceLT, reduceCtorEq]
    refine R_loop (α := Nat) (fun k s' M' => k ≤ l.length ∧ s' 16 = aI k ∧ RowX (s' 6) M' [1984] ((setL (rdL p (l.take k))).map Ii)) (fun k => l.length - k) 0
      ⟨by omega, by simp only [go_sem, ↓reduceIte, Nat.reduceEqDiff, Nat.reduceAdd, Nat.reduceMul, Nat.reduceBEq, Option.getD_none, Int.reduceToNat, Nat.reduceSub, Nat.reduceLT, Nat.reduceLeDiff, Int.reduceLE, Int.reduceLT, reduceCtorEq]; try rfl, .inl ⟨rfl, by simp only [go_sem, ↓reduceIte, Nat.reduceEqDiff, Nat.reduceAdd, Nat.reduceMul, Nat.reduceBEq, Option.getD_none, Int.reduceToNat, Nat.reduceSub, Nat.reduceLT, Nat.reduceLeDiff, Int.reduceLE, Int.reduceLT, reduceCtorEq]⟩⟩ ?_
    rintro k s' M' ⟨hk, h16, hrow⟩ ho
    have hrl := rdL_len p (l.take k)
    rw [List.length_take] at hrl
    have hsl := setL_len (rdL p (l.take k))
    unfold spec_PlacesRead.b0
    have q0 : s' 0 = .dat none (steps p) := by rw [ho 0 rfl]; simp only [go_sem, ↓reduceIte, Nat.reduceEqDiff, Nat.reduceAdd, Nat.reduceMul, Nat.reduceBEq, Option.getD_none, Int.reduceToNat, Nat.reduceSub, Nat.reduceLT, Nat.reduceLeDiff, Int.reduceLE, Int.reduceLT, reduceCtorEq]
    have q14 : s' 14 = .dat none (ints l) := by rw [ho 14 rfl]; simp only [go_sem, ↓reduceIte, Nat.reduceEqDiff, Nat.reduceAdd, Nat.reduceMul, Nat.reduceBEq, Option.getD_none, Int.reduceToNat, Nat.reduceSub, Nat.reduceLT, Nat.reduceLeDiff, Int.reduceLE, Int.reduceLT, reduceCtorEq]
    have q15 : s' 15 = aI l.length := by rw [ho 15 rfl]; simp only [go_sem, ↓reduceIte, Nat.reduceEqDiff, Nat.reduceAdd, Nat.reduceMul, Nat.reduceBEq, Option.getD_none, Int.reduceToNat, Nat.reduceSub, Nat.reduceLT, Nat.reduceLeDiff, Int.reduceLE, Int.reduceLT, reduceCtorEq]
    clear ho
    by_cases hlt : k < l.length
    · have hi' : (k : Int) < l.length := by omega
      have ga : l[k]? = some l[k] := List.getElem?_eq_getElem hlt
      have hw : IntKind.i64.wrap (k + 1) = ((k + 1 : Nat) : Int) := wrap_k hlt (by omega)
      obtain ⟨ha0, ha1⟩ := hin _ (List.getElem_mem hlt)
      have gs : p[l[k].toNat]? = some (p[l[k].toNat]'(by omega)) := List.getElem?_eq_getElem (by omega)
      have hst := rdL_step hlt gs
      generalize (p[l[k].toNat]'(by omega)) = s at gs hst
      generalize l[k] = a at ga gs ha0 ha1
      cases hq : (s.kind == 5) with
      | false =>
        rw [hq] at hst
        simp only [Bool.false_eq_true, if_false, List.append_nil] at hst
        simp only [go_sem, ↓reduceIte, Nat.reduceEqDiff, Nat.reduceAdd, Nat.reduceMul, Nat.reduceBEq, Option.getD_none, Int.reduceToNat, Nat.reduceSub, Nat.reduceLT, Nat.reduceLeDiff, Int.reduceLE, Int.reduceLT, reduceCtorEq, hi', ga, ha0, ha1, gs, hq, hw, q0, q14, q15, h16]
        refine ⟨k + 1, by dsimp only; omega, by omega, by simp only [go_sem, ↓reduceIte, Nat.reduceEqDiff, Nat.reduceAdd, Nat.reduceMul, Nat.reduceBEq, Option.getD_none, Int.reduceToNat, Nat.reduceSub, Nat.reduceLT, Nat.reduceLeDiff, Int.reduceLE, Int.reduceLT, reduceCtorEq, q0, q14, q15, h16], ?_⟩
        rw [hst]
        rcases hrow with ⟨hd9, h6⟩ | ⟨nm, hnm, w, h6, hm⟩
        · exact .inl ⟨hd9, by simp only [go_sem, ↓reduceIte, Nat.reduceEqDiff, Nat.reduceAdd, Nat.reduceMul, Nat.reduceBEq, Option.getD_none, Int.reduceToNat, Nat.reduceSub, Nat.reduceLT, Nat.reduceLeDiff, Int.reduceLE, Int.reduceLT, reduceCtorEq, h6, q0, q14, q15, h16]⟩
        · rw [List.mem_singleton] at hnm
          subst hnm
          exact .inr ⟨1984, by simp, w, by simp only [go_sem, ↓reduceIte, Nat.reduceEqDiff, Nat.reduceAdd, Nat.reduceMul, Nat.reduceBEq, Option.getD_none, Int.reduceToNat, Nat.reduceSub, Nat.reduceLT, Nat.reduceLeDiff, Int.reduceLE, Int.reduceLT, reduceCtorEq, h6, q0, q14, q15, h16], by simp only [go_sem, ↓reduceIte, Nat.reduceEqDiff, Nat.reduceAdd, Nat.reduceMul, Nat.reduceBEq, Option.getD_none, Int.reduceToNat, Nat.reduceSub, Nat.reduceLT, Nat.reduceLeDiff, Int.reduceLE, Int.reduceLT, reduceCtorEq, hm, q0, q14, q15, h16]⟩
      | true =>
        rw [hq] at hst
        simp only [if_true] at hst
        rcases hrow with ⟨hd9, h6⟩ | ⟨nm, hnm, w, h6, hm⟩
        · have hd0 := List.map_eq_nil_iff.1 hd9
          simp only [go_sem, ↓reduceIte, Nat.reduceEqDiff, Nat.reduceAdd, Nat.reduceMul, Nat.reduceBEq, Option.getD_none, Int.reduceToNat, Nat.reduceSub, Nat.reduceLT, Nat.reduceLeDiff, Int.reduceLE, Int.reduceLT, reduceCtorEq, hi', ga, ha0, ha1, gs, hq, hw, h6, q0, q14, q15, h16]
          refine coW_of (spec_l1Put.fco [] s.imm (by simp)) noRs_ints rfl ?_
          simp only [go_sem, ↓reduceIte, Nat.reduceEqDiff, Nat.reduceAdd, Nat.reduceMul, Nat.reduceBEq, Option.getD_none, Int.reduceToNat, Nat.reduceSub, Nat.reduceLT, Nat.reduceLeDiff, Int.reduceLE, Int.reduceLT, reduceCtorEq, hw, q0, q14, q15, h16]
          exact ⟨k + 1, by dsimp only; omega, by omega, by simp only [go_sem, ↓reduceIte, Nat.reduceEqDiff, Nat.reduceAdd, Nat.reduceMul, Nat.reduceBEq, Option.getD_none, Int.reduceToNat, Nat.reduceSub, Nat.reduceLT, Nat.reduceLeDiff, Int.reduceLE, Int.reduceLT, reduceCtorEq, q0, q14, q15, h16], .inr ⟨1984, by simp, _, by rw [hst, setL_snoc, hd0, List.length_map]; simp only [go_sem, ↓reduceIte, Nat.reduceEqDiff, Nat.reduceAdd, Nat.reduceMul, Nat.reduceBEq, Option.getD_none, Int.reduceToNat, Nat.reduceSub, Nat.reduceLT, Nat.reduceLeDiff, Int.reduceLE, Int.reduceLT, reduceCtorEq, q0, q14, q15, h16]; try rfl, by rw [hst, setL_snoc, hd0]; simp only [go_sem, ↓reduceIte, Nat.reduceEqDiff, Nat.reduceAdd, Nat.reduceMul, Nat.reduceBEq, Option.getD_none, Int.reduceToNat, Nat.reduceSub, Nat.reduceLT, Nat.reduceLeDiff, Int.reduceLE, Int.reduceLT, reduceCtorEq, q0, q14, q15, h16]; try rfl⟩⟩
        · rw [List.length_map] at h6
          rw [List.mem_singleton] at hnm
          subst hnm
          generalize hG : setL (rdL p (l.take k)) = G at h6 hm hsl
          simp only [go_sem, ↓reduceIte, Nat.reduceEqDiff, Nat.reduceAdd, Nat.reduceMul, Nat.reduceBEq, Option.getD_none, Int.reduceToNat, Nat.reduceSub, Nat.reduceLT, Nat.reduceLeDiff, Int.reduceLE, Int.reduceLT, reduceCtorEq, hi', ga, ha0, ha1, gs, hq, hw, h6, hm, take_map_len, q0, q14, q15, h16]
          refine coW_of (spec_l1Put.fco G s.imm (by omega)) noRs_ints rfl ?_
          simp only [go_sem, ↓reduceIte, Nat.reduceEqDiff, Nat.reduceAdd, Nat.reduceMul, Nat.reduceBEq, Option.getD_none, Int.reduceToNat, Nat.reduceSub, Nat.reduceLT, Nat.reduceLeDiff, Int.reduceLE, Int.reduceLT, reduceCtorEq, hw, q0, q14, q15, h16]
          exact ⟨k + 1, by dsimp only; omega, by omega, by simp only [go_sem, ↓reduceIte, Nat.reduceEqDiff, Nat.reduceAdd, Nat.reduceMul, Nat.reduceBEq, Option.getD_none, Int.reduceToNat, Nat.reduceSub, Nat.reduceLT, Nat.reduceLeDiff, Int.reduceLE, Int.reduceLT, reduceCtorEq, q0, q14, q15, h16], .inr ⟨1984, by simp, _, by rw [hst, setL_snoc, hG, List.length_map]; simp only [go_sem, ↓reduceIte, Nat.reduceEqDiff, Nat.reduceAdd, Nat.reduceMul, Nat.reduceBEq, Option.getD_none, Int.reduceToNat, Nat.reduceSub, Nat.reduceLT, Nat.reduceLeDiff, Int.reduceLE, Int.reduceLT, reduceCtorEq, q0, q14, q15, h16]; try rfl, by rw [hst, setL_snoc, hG]; simp only [go_sem, ↓reduceIte, Nat.reduceEqDiff, Nat.reduceAdd, Nat.reduceMul, Nat.reduceBEq, Option.getD_none, Int.reduceToNat, Nat.reduceSub, Nat.reduceLT, Nat.reduceLeDiff, Int.reduceLE, Int.reduceLT, reduceCtorEq, q0, q14, q15, h16]; try rfl⟩⟩
    · have hi' : ¬ (k : Int) < l.length := by omega
      obtain rfl : k = l.length := by omega
      rw [List.take_length] at hrow
      rcases hrow with ⟨hd9, h6⟩ | ⟨nm, hnm, w, h6, hm⟩
      · rw [List.map_eq_nil_iff.1 hd9]
        simp only [go_sem, ↓reduceIte, Nat.reduceEqDiff, Nat.reduceAdd, Nat.reduceMul, Nat.reduceBEq, Option.getD_none, Int.reduceToNat, Nat.reduceSub, Nat.reduceLT, Nat.reduceLeDiff, Int.reduceLE, Int.reduceLT, reduceCtorEq, Int.lt_irrefl, h6, q0, q14, q15, h16]
        try rfl
      · rw [List.length_map] at h6
        rw [List.mem_singleton] at hnm
        subst hnm
        simp only [go_sem, ↓reduceIte, Nat.reduceEqDiff, Nat.reduceAdd, Nat.reduceMul, Nat.reduceBEq, Option.getD_none, Int.reduceToNat, Nat.reduceSub, Nat.reduceLT, Nat.reduceLeDiff, Int.reduceLE, Int.reduceLT, reduceCtorEq, Int.lt_irrefl, h6, hm, take_map_len, q0, q14, q15, h16]
end Go.Vm.Ytdembjfpgfaheaa
