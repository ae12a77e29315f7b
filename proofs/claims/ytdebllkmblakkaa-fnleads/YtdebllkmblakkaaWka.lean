/- What the functions that the law reaches return: part 1 (the conditions stand at each). -/
import Derived.Test.YtdebllkmblakkaaIr
import Derived.Test.YtdebllkmblakkaaProg
import Derived.KernelRfl
import Derived.Shelf.Sort.Plain
import Derived.Shelf.Slices.In.SortNone
import Derived.Tactics
import Derived.Tactics2
import Derived.StillTactics
import Derived.Laws.Pointers
import Derived.Lib.SortBridge
/- The kit's contract of slices.Sort lies at this program. -/
namespace Go.Proofs
open Go.Shelf
def Try.laysSort_ren : Go.Shelf.Ren := ⟨fun | 189 => 166 | 125 => 195 | 257 => 194 | 128 => 208 | 129 => 209 | 294 => 199 | 295 => 200 | 296 => 201 | 297 => 202 | 298 => 203 | 299 => 204 | 216 => 205 | 300 => 206 | 301 => 207 | 328 => 212 | 329 => 213 | 330 => 214 | 331 => 215 | 332 => 216 | 215 => 217 | 343 => 218 | n => n, fun | 28 => 29 | 3 => 3 | 46 => 65 | 0 => 0 | 51 => 166 | 53 => 111 | 4 => 4 | 183 => 161 | 182 => 160 | 131 => 24 | 5 => 5 | 9 => 9 | 218 => 168 | 222 => 172 | 228 => 174 | 229 => 175 | n => n, fun | n => n⟩
theorem Try.laysSort : Go.Proofs.Lays.n189 Try.prog Try.laysSort_ren := {
  mixed := by kernel_rfl,
  f125 := Try.func195.trans (congrArg some (by kernel_rfl)),
  f128 := Try.func208.trans (congrArg some (by kernel_rfl)),
  f129 := Try.func209.trans (congrArg some (by kernel_rfl)),
  f189 := Try.func166.trans (congrArg some (by kernel_rfl)),
  f215 := Try.func217.trans (congrArg some (by kernel_rfl)),
  f216 := Try.func205.trans (congrArg some (by kernel_rfl)),
  f257 := Try.func194.trans (congrArg some (by kernel_rfl)),
  f294 := Try.func199.trans (congrArg some (by kernel_rfl)),
  f295 := Try.func200.trans (congrArg some (by kernel_rfl)),
  f296 := Try.func201.trans (congrArg some (by kernel_rfl)),
  f297 := Try.func202.trans (congrArg some (by kernel_rfl)),
  f298 := Try.func203.trans (congrArg some (by kernel_rfl)),
  f299 := Try.func204.trans (congrArg some (by kernel_rfl)),
  f300 := Try.func206.trans (congrArg some (by kernel_rfl)),
  f301 := Try.func207.trans (congrArg some (by kernel_rfl)),
  f328 := Try.func212.trans (congrArg some (by kernel_rfl)),
  f329 := Try.func213.trans (congrArg some (by kernel_rfl)),
  f330 := Try.func214.trans (congrArg some (by kernel_rfl)),
  f331 := Try.func215.trans (congrArg some (by kernel_rfl)),
  f332 := Try.func216.trans (congrArg some (by kernel_rfl)),
  f343 := Try.func218.trans (congrArg some (by kernel_rfl)),
  t0 := Try.underlying0,
  a0 := Try.isAgg0,
  z0 := Try.sizeOf0,
  v0 := Try.zeroValue0,
  t3 := Try.underlying3,
  a3 := Try.isAgg3,
  z3 := Try.sizeOf3,
  v3 := Try.zeroValue3,
  t4 := Try.underlying4,
  a4 := Try.isAgg4,
  z4 := Try.sizeOf4,
  v4 := Try.zeroValue4,
  t5 := Try.underlying5,
  a5 := Try.isAgg5,
  z5 := Try.sizeOf5,
  v5 := Try.zeroValue5,
  t9 := Try.underlying9,
  a9 := Try.isAgg9,
  z9 := Try.sizeOf9,
  v9 := Try.zeroValue9,
  t28 := Try.underlying29,
  a28 := Try.isAgg29,
  z28 := Try.sizeOf29,
  v28 := Try.zeroValue29,
  t46 := Try.underlying65,
  a46 := Try.isAgg65,
  z46 := Try.sizeOf65,
  v46 := Try.zeroValue65,
  t51 := Try.underlying166,
  a51 := Try.isAgg166,
  z51 := Try.sizeOf166,
  v51 := Try.zeroValue166,
  t53 := Try.underlying111,
  a53 := Try.isAgg111,
  z53 := Try.sizeOf111,
  v53 := Try.zeroValue111,
  t131 := Try.underlying24,
  a131 := Try.isAgg24,
  z131 := Try.sizeOf24,
  v131 := Try.zeroValue24,
  t182 := Try.underlying160,
  a182 := Try.isAgg160,
  z182 := Try.sizeOf160,
  v182 := Try.zeroValue160,
  t183 := Try.underlying161,
  a183 := Try.isAgg161,
  z183 := Try.sizeOf161,
  v183 := Try.zeroValue161,
  t218 := Try.underlying168,
  a218 := Try.isAgg168,
  z218 := Try.sizeOf168,
  v218 := Try.zeroValue168,
  t222 := Try.underlying172,
  a222 := Try.isAgg172,
  z222 := Try.sizeOf172,
  v222 := Try.zeroValue172,
  t228 := Try.underlying174,
  a228 := Try.isAgg174,
  z228 := Try.sizeOf174,
  v228 := Try.zeroValue174,
  t229 := Try.underlying175,
  a229 := Try.isAgg175,
  z229 := Try.sizeOf175,
  v229 := Try.zeroValue175 }
end Go.Proofs
/- Words for data: whole numbers, rows of them. -/
namespace Go.Vm
open Go
set_option linter.unusedSimpArgs false
set_option linter.unusedVariables false

abbrev Ii (n : Int) : D := .int .i64 n
abbrev Bb (b : Bool) : D := .bool b
abbrev ints (l : List Int) : D := .sl 1 (l.map Ii)
abbrev aI (n : Int) : AV := .dat none (.int .i64 n)
abbrev aB (b : Bool) : AV := .dat none (.bool b)
/-- a whole number of 64 bits -/
def i64 (n : Int) : Prop := -9223372036854775808 ≤ n ∧ n ≤ 9223372036854775807
theorem wrap_k {k m : Nat} (h : k < m) (hm : m ≤ 9223372036854775807) : IntKind.i64.wrap ((k : Int) + 1) = ((k + 1 : Nat) : Int) := by
  rw [wrap_in (by omega) (by omega)]; rfl
theorem take_succ' {α : Type} {l : List α} {k : Nat} (h : k < l.length) : l.take (k + 1) = l.take k ++ [l[k]] := by
  rw [List.take_succ_eq_append_getElem h]
theorem all_take {α : Type} {p : α → Bool} {l : List α} {k : Nat} (h : k < l.length) (h1 : (l.take k).all p = true) (h2 : p l[k] = true) : (l.take (k + 1)).all p = true := by
  rw [take_succ' h, List.all_append, h1]; simpa using h2
theorem not_all {α : Type} {p : α → Bool} {l : List α} {k : Nat} (h : k < l.length) (h2 : p l[k] = false) : l.all p = false := by
  rw [← Bool.not_eq_true, List.all_eq_true]
  intro hh
  have := hh _ (List.getElem_mem h)
  rw [h2] at this; cases this
section
variable {α : Type} {f : α → D} {z : D} {l : List α} {k : Nat}
theorem take_map_len : (l.map f).take l.length = l.map f := by rw [List.take_of_length_le (by simp)]
end
section
variable {α : Type} {A B : List α} {k : Nat}
end
/-- a row that grows: nil at first, then under one name -/
def RowAt (x : AV) (M : Mem) (nm sz : Nat) (ds : List D) : Prop := (ds = [] ∧ x = .nil sz) ∨ ∃ v, x = .sl nm v 0 ds.length sz ∧ M.m nm = some (.arr v true sz ds)
theorem RowAt.nil {M : Mem} {nm sz : Nat} : RowAt (.nil sz) M nm sz [] := .inl ⟨rfl, rfl⟩
theorem RowAt.sl {x : AV} {M : Mem} {nm sz v n : Nat} {ds : List D} (hx : x = .sl nm v 0 n sz) (hn : n = ds.length) (hm : M.m nm = some (.arr v true sz ds)) : RowAt x M nm sz ds := .inr ⟨v, by rw [hx, hn], hm⟩
section
variable {α : Type} {f : Int → α → α} {c : α → Nat}
end
theorem noRsL_all : ∀ {ds : List D}, (∀ d ∈ ds, noRs d = true) → noRsL ds = true
  | [], _ => rfl
  | d :: ds, h => by simp only [noRsL, Bool.and_eq_true]; exact ⟨h d List.mem_cons_self, noRsL_all fun x hx => h x (List.mem_cons_of_mem _ hx)⟩
theorem noRs_sl {sz : Nat} {ds : List D} (h : ∀ d ∈ ds, noRs d = true) : noRs (.sl sz ds) = true := by simp only [noRs]; exact noRsL_all h
theorem noRs_ints {l : List Int} : noRs (ints l) = true := noRs_sl (by simp [noRs])

/-! ### function values -/
section
variable {P : Program} {s : Nat → AV} {M : Mem} {nb ib : Nat}
theorem frzR_caps : ∀ (caps : List D), frzR s M ((caps.map bindC).map X.k) = some caps
  | [] => rfl
  | c :: caps => by simp only [List.map_cons, frzR, ev_k, frz_bindC, frzR_caps caps]
theorem frzR_app : ∀ (xs ys : List X), frzR s M (xs ++ ys) = match frzR s M xs, frzR s M ys with | some a, some b => some (a ++ b) | _, _ => none
  | [], ys => by simp only [List.nil_append, frzR]; cases frzR s M ys <;> rfl
  | x :: xs, ys => by
    simp only [List.cons_append, frzR, frzR_app xs ys]
    cases frz M 8 (x.ev s) <;> cases frzR s M xs <;> cases frzR s M ys <;> rfl
/-- a function value is called -/
theorem ccl_ro {f : FuncId} {caps : List D} {args : List X} {ds : List D} {K : AV → Mem → (Nat → Bool) → Prop} (ha : frzR s M args = some ds)
    (h : @fcW P f (args.map (fun _ => Md.ro) ++ caps.map fun _ => Md.ro) (ds ++ caps) false ((args ++ (caps.map bindC).map X.k).all fun x => coldA (x.ev s)) nb ib M ⟨K⟩) : @cW P (.clo f (caps.map bindC)) s M nb ib false args ⟨K⟩ := by
  rw [cW_clo, CR_ro, frzR_app, ha, frzR_caps]
  have e : ((args ++ (caps.map bindC).map X.k).map fun _ => Md.ro) = (args.map (fun _ => Md.ro) ++ caps.map fun _ => Md.ro) := by simp [List.map_map, Function.comp_def]
  rw [e]
  exact h
end
/-- the first place at which 'p' holds; -1: nowhere -/
def idxB {α : Type} (p : α → Bool) (l : List α) : Int := match l.findIdx? p with
  | some i => i
  | none => -1
theorem idxB_none {α : Type} {p : α → Bool} {l : List α} (h : l.all (fun x => !p x) = true) : idxB p l = -1 := by
  unfold idxB
  rw [List.findIdx?_eq_none_iff.2 (fun x hx => by simpa using List.all_eq_true.1 h x hx)]
theorem idxB_some {α : Type} {p : α → Bool} {l : List α} {k : Nat} (hk : k < l.length) (h : (l.take k).all (fun x => !p x) = true) (hp : p l[k] = true) : idxB p l = k := by
  unfold idxB
  rw [List.findIdx?_eq_some_iff_getElem.2 ⟨hk, hp, fun j hj => by
    have := List.all_eq_true.1 h l[j] (by rw [List.mem_take_iff_getElem]; exact ⟨j, by omega, rfl⟩)
    simpa using this⟩]
theorem idxB_any {α : Type} {p : α → Bool} {l : List α} : decide (0 ≤ idxB p l) = l.any p := by
  unfold idxB
  cases h : l.findIdx? p with
  | none =>
    rw [List.findIdx?_eq_none_iff] at h
    rw [List.any_eq_false.2 (fun x hx => by simp [h x hx])]; rfl
  | some i =>
    rw [List.findIdx?_eq_some_iff_getElem] at h
    obtain ⟨hi, hp, _⟩ := h
    rw [List.any_eq_true.2 ⟨l[i], List.getElem_mem hi, hp⟩]
    simp
end Go.Vm
/- Walks: small functions. -/
namespace Go.Vm.Ytdebllkmblakkaa
open Go Go.Vm
set_option maxRecDepth 10000
set_option maxHeartbeats 4000000
set_option linter.unusedSimpArgs false
set_option linter.unusedVariables false

def inB (n lo hi : Int) : Bool := decide (lo ≤ n) && decide (n ≤ hi)
theorem impl_in.fc (n lo hi : Int) : FCt prog F_impl_in [.ro, .ro, .ro] [Ii n, Ii lo, Ii hi] (Bb (inB n lo hi)) [] := by
  refine fct_run impl_in.ok rfl ?_
  unfold inB
  by_cases h : lo ≤ n
  · simp only [go_sem, ↓reduceIte, Nat.reduceEqDiff, Nat.reduceAdd, Nat.reduceMul, Nat.reduceBEq, Option.getD_none, Int.reduceToNat, Nat.reduceSub, Nat.reduceLT, Nat.reduceLeDiff, Int.reduceLE, Int.reduceLT, reduceCtorEq, ge_iff_le, h]
  · simp only [go_sem, ↓reduceIte, Nat.reduceEqDiff, Nat.reduceAdd, Nat.reduceMul, Nat.reduceBEq, Option.getD_none, Int.reduceToNat, Nat.reduceSub, Nat.reduceLT, Nat.reduceLeDiff, Int.reduceLE, Int.reduceLT, reduceCtorEq, ge_iff_le, h]
theorem spec_l1In.fc (n lo hi : Int) : FCt prog F_spec_l1In [.ro, .ro, .ro] [Ii n, Ii lo, Ii hi] (Bb (inB n lo hi)) [] := by
  refine fct_run spec_l1In.ok rfl ?_
  unfold inB
  by_cases h : lo ≤ n
  · simp only [go_sem, ↓reduceIte, Nat.reduceEqDiff, Nat.reduceAdd, Nat.reduceMul, Nat.reduceBEq, Option.getD_none, Int.reduceToNat, Nat.reduceSub, Nat.reduceLT, Nat.reduceLeDiff, Int.reduceLE, Int.reduceLT, reduceCtorEq, ge_iff_le, h]
  · simp only [go_sem, ↓reduceIte, Nat.reduceEqDiff, Nat.reduceAdd, Nat.reduceMul, Nat.reduceBEq, Option.getD_none, Int.reduceToNat, Nat.reduceSub, Nat.reduceLT, Nat.reduceLeDiff, Int.reduceLE, Int.reduceLT, reduceCtorEq, ge_iff_le, h]

end Go.Vm.Ytdebllkmblakkaa
/- Walks: rules are copied and weighed. -/
namespace Go.Vm.Ytdebllkmblakkaa
open Go Go.Vm
set_option maxRecDepth 10000
set_option maxHeartbeats 4000000
set_option linter.unusedSimpArgs false
set_option linter.unusedVariables false

/-- a rule -/
structure RuleD where
  ifs : List Int
  thn : Int
  deriving DecidableEq
abbrev RuleD.d (r : RuleD) : D := .agg [ints r.ifs, Ii r.thn]
abbrev rules (l : List RuleD) : D := .sl 2 (l.map RuleD.d)
end Go.Vm.Ytdebllkmblakkaa
/- Walks: rules are looked at. -/
namespace Go.Vm.Ytdebllkmblakkaa
open Go Go.Vm
set_option maxRecDepth 10000
set_option maxHeartbeats 4000000
set_option linter.unusedSimpArgs false
set_option linter.unusedVariables false

end Go.Vm.Ytdebllkmblakkaa
/- Walks: rules are looked at, by the program and by the reference. -/
namespace Go.Vm.Ytdebllkmblakkaa
open Go Go.Vm
set_option maxRecDepth 10000
set_option maxHeartbeats 4000000
set_option linter.unusedSimpArgs false
set_option linter.unusedVariables false

end Go.Vm.Ytdebllkmblakkaa
/- Walks: valid rules; rules are compared. -/
namespace Go.Vm.Ytdebllkmblakkaa
open Go Go.Vm
set_option maxRecDepth 10000
set_option maxHeartbeats 4000000
set_option linter.unusedSimpArgs false
set_option linter.unusedVariables false

end Go.Vm.Ytdebllkmblakkaa
/- Walks: results are marked and read again. -/
namespace Go.Vm.Ytdebllkmblakkaa
open Go Go.Vm
set_option maxRecDepth 10000
set_option maxHeartbeats 4000000
set_option linter.unusedSimpArgs false
set_option linter.unusedVariables false

end Go.Vm.Ytdebllkmblakkaa
/- Walks: intervals and known bits, reduced by each other. -/
namespace Go.Vm.Ytdebllkmblakkaa
open Go Go.Vm
set_option maxRecDepth 10000
set_option maxHeartbeats 4000000
set_option linter.unusedSimpArgs false
set_option linter.unusedVariables false

abbrev pr (a b : Int) : D := .agg [Ii a, Ii b]
def goodS (a b : Int) : Bool := inB a 0 65535 && inB b 0 65535 && decide (a ≤ b)
def andI (a b : Int) : Int := IntKind.i64.wrap (BitVec.ofInt IntKind.i64.bits a &&& BitVec.ofInt IntKind.i64.bits b).toNat
def goodK (a b : Int) : Bool := inB a 0 65535 && inB b 0 65535 && (andI a b == 0)
end Go.Vm.Ytdebllkmblakkaa
/- Walks: arcs. -/
namespace Go.Vm.Ytdebllkmblakkaa
open Go Go.Vm
set_option maxRecDepth 10000
set_option maxHeartbeats 4000000
set_option linter.unusedSimpArgs false
set_option linter.unusedVariables false

abbrev arcD (a : Int × Int) : D := pr a.1 a.2
abbrev arcs (l : List (Int × Int)) : D := .sl 2 (l.map arcD)
end Go.Vm.Ytdebllkmblakkaa
/- Walks: valid arcs. -/
namespace Go.Vm.Ytdebllkmblakkaa
open Go Go.Vm
set_option maxRecDepth 10000
set_option maxHeartbeats 4000000
set_option linter.unusedSimpArgs false
set_option linter.unusedVariables false

end Go.Vm.Ytdebllkmblakkaa
/- Walks: rows of rows; clauses. -/
namespace Go.Vm.Ytdebllkmblakkaa
open Go Go.Vm
set_option maxRecDepth 10000
set_option maxHeartbeats 4000000
set_option linter.unusedSimpArgs false
set_option linter.unusedVariables false

abbrev intss (l : List (List Int)) : D := .sl 1 (l.map ints)
theorem noRs_intss {l : List (List Int)} : noRs (intss l) = true := noRs_sl (by
  intro d hd
  obtain ⟨r, _, rfl⟩ := List.mem_map.1 hd
  exact noRs_ints)
theorem slices_IndexFunc__sint_int.fc (l : List Int) (f : FuncId) (caps : List D) (p : Int → Bool) (hl : l.length ≤ 4294967296)
    (h : ∀ x ∈ l, FCt prog f (.ro :: caps.map fun _ => .ro) (Ii x :: caps) (Bb (p x)) []) : FCt prog F_slices_IndexFunc__sint_int [.ro, .ro] [ints l, .clo f caps] (Ii (idxB p l)) [] := by
  refine fct_run slices_IndexFunc__sint_int.ok rfl ?_
  simp only [go_sem, ↓reduceIte, Nat.reduceEqDiff, Nat.reduceAdd, Nat.reduceMul, Nat.reduceBEq, Option.getD_none, Int.reduceToNat, Nat.reduceSub, Nat.reduceLT, Nat.reduceLeDiff, Int.reduceLE, Int.reduceLT, reduceCtorEq]
  refine R_loop (α := Nat) (fun k s' M' => k ≤ l.length ∧ s' 8 = aI k ∧ (l.take k).all (fun x => !p x) = true) (fun k => l.length - k) 0 ⟨by omega, by simp only [go_sem, ↓reduceIte, Nat.reduceEqDiff, Nat.reduceAdd, Nat.reduceMul, Nat.reduceBEq, Option.getD_none, Int.reduceToNat, Nat.reduceSub, Nat.reduceLT, Nat.reduceLeDiff, Int.reduceLE, Int.reduceLT, reduceCtorEq]; rfl, by simp⟩ ?_
  rintro k s' M' ⟨hk, h8, hr⟩ ho
  have h0 : s' 0 = .dat none (ints l) := by rw [ho 0 rfl]; simp only [go_sem, ↓reduceIte, Nat.reduceEqDiff, Nat.reduceAdd, Nat.reduceMul, Nat.reduceBEq, Option.getD_none, Int.reduceToNat, Nat.reduceSub, Nat.reduceLT, Nat.reduceLeDiff, Int.reduceLE, Int.reduceLT, reduceCtorEq]
  have h1 : s' 1 = .clo f (caps.map bindC) := by rw [ho 1 rfl]; simp only [go_sem, ↓reduceIte, Nat.reduceEqDiff, Nat.reduceAdd, Nat.reduceMul, Nat.reduceBEq, Option.getD_none, Int.reduceToNat, Nat.reduceSub, Nat.reduceLT, Nat.reduceLeDiff, Int.reduceLE, Int.reduceLT, reduceCtorEq]
  have h7 : s' 7 = aI l.length := by rw [ho 7 rfl]; simp only [go_sem, ↓reduceIte, Nat.reduceEqDiff, Nat.reduceAdd, Nat.reduceMul, Nat.reduceBEq, Option.getD_none, Int.reduceToNat, Nat.reduceSub, Nat.reduceLT, Nat.reduceLeDiff, Int.reduceLE, Int.reduceLT, reduceCtorEq]
  clear ho
  unfold slices_IndexFunc__sint_int.b0
  by_cases hlt : k < l.length
  · have hi' : (k : Int) < l.length := by omega
    have ga : l[k]? = some l[k] := List.getElem?_eq_getElem hlt
    have hw : IntKind.i64.wrap (k + 1) = ((k + 1 : Nat) : Int) := wrap_k hlt (by omega)
    simp only [go_sem, ↓reduceIte, Nat.reduceEqDiff, Nat.reduceAdd, Nat.reduceMul, Nat.reduceBEq, Option.getD_none, Int.reduceToNat, Nat.reduceSub, Nat.reduceLT, Nat.reduceLeDiff, Int.reduceLE, Int.reduceLT, reduceCtorEq, h0, h1, h7, h8, hi', ga]
    refine ccl_ro (ds := [Ii l[k]]) (by simp only [go_sem, ↓reduceIte, Nat.reduceEqDiff, Nat.reduceAdd, Nat.reduceMul, Nat.reduceBEq, Option.getD_none, Int.reduceToNat, Nat.reduceSub, Nat.reduceLT, Nat.reduceLeDiff, Int.reduceLE, Int.reduceLT, reduceCtorEq]) ?_
    refine fcW_bool (h _ (List.getElem_mem hlt)) ?_
    cases hp : p l[k] with
    | true => simp only [go_sem, ↓reduceIte, Nat.reduceEqDiff, Nat.reduceAdd, Nat.reduceMul, Nat.reduceBEq, Option.getD_none, Int.reduceToNat, Nat.reduceSub, Nat.reduceLT, Nat.reduceLeDiff, Int.reduceLE, Int.reduceLT, reduceCtorEq, idxB_some hlt hr hp]
    | false =>
      simp only [go_sem, ↓reduceIte, Nat.reduceEqDiff, Nat.reduceAdd, Nat.reduceMul, Nat.reduceBEq, Option.getD_none, Int.reduceToNat, Nat.reduceSub, Nat.reduceLT, Nat.reduceLeDiff, Int.reduceLE, Int.reduceLT, reduceCtorEq, h8, hw]
      exact ⟨k + 1, by dsimp only; omega, by omega, by simp only [go_sem, ↓reduceIte, Nat.reduceEqDiff, Nat.reduceAdd, Nat.reduceMul, Nat.reduceBEq, Option.getD_none, Int.reduceToNat, Nat.reduceSub, Nat.reduceLT, Nat.reduceLeDiff, Int.reduceLE, Int.reduceLT, reduceCtorEq], all_take hlt hr (by simp [hp])⟩
  · have hi' : ¬ (k : Int) < l.length := by omega
    rw [List.take_of_length_le (by omega)] at hr
    simp only [go_sem, ↓reduceIte, Nat.reduceEqDiff, Nat.reduceAdd, Nat.reduceMul, Nat.reduceBEq, Option.getD_none, Int.reduceToNat, Nat.reduceSub, Nat.reduceLT, Nat.reduceLeDiff, Int.reduceLE, Int.reduceLT, reduceCtorEq, h0, h1, h7, h8, hi', idxB_none hr]
theorem slices_ContainsFunc__sint_int.fc (l : List Int) (f : FuncId) (caps : List D) (p : Int → Bool) (hl : l.length ≤ 4294967296)
    (h : ∀ x ∈ l, FCt prog f (.ro :: caps.map fun _ => .ro) (Ii x :: caps) (Bb (p x)) []) : FCt prog F_slices_ContainsFunc__sint_int [.ro, .ro] [ints l, .clo f caps] (Bb (l.any p)) [] := by
  refine fct_run slices_ContainsFunc__sint_int.ok rfl ?_
  simp only [go_sem, ↓reduceIte, Nat.reduceEqDiff, Nat.reduceAdd, Nat.reduceMul, Nat.reduceBEq, Option.getD_none, Int.reduceToNat, Nat.reduceSub, Nat.reduceLT, Nat.reduceLeDiff, Int.reduceLE, Int.reduceLT, reduceCtorEq]
  refine fcW_int (slices_IndexFunc__sint_int.fc l f caps p hl h) ?_
  simp only [go_sem, ↓reduceIte, Nat.reduceEqDiff, Nat.reduceAdd, Nat.reduceMul, Nat.reduceBEq, Option.getD_none, Int.reduceToNat, Nat.reduceSub, Nat.reduceLT, Nat.reduceLeDiff, Int.reduceLE, Int.reduceLT, reduceCtorEq, ge_iff_le, idxB_any]

theorem slices_IndexFunc__ssint_sint.fc (l : List (List Int)) (f : FuncId) (caps : List D) (p : (List Int) → Bool) (hl : l.length ≤ 4294967296)
    (h : ∀ x ∈ l, FCt prog f (.ro :: caps.map fun _ => .ro) (ints x :: caps) (Bb (p x)) []) : FCt prog F_slices_IndexFunc__ssint_sint [.ro, .ro] [intss l, .clo f caps] (Ii (idxB p l)) [] := by
  refine fct_run slices_IndexFunc__ssint_sint.ok rfl ?_
  simp only [go_sem, ↓reduceIte, Nat.reduceEqDiff, Nat.reduceAdd, Nat.reduceMul, Nat.reduceBEq, Option.getD_none, Int.reduceToNat, Nat.reduceSub, Nat.reduceLT, Nat.reduceLeDiff, Int.reduceLE, Int.reduceLT, reduceCtorEq]
  refine R_loop (α := Nat) (fun k s' M' => k ≤ l.length ∧ s' 8 = aI k ∧ (l.take k).all (fun x => !p x) = true) (fun k => l.length - k) 0 ⟨by omega, by simp only [go_sem, ↓reduceIte, Nat.reduceEqDiff, Nat.reduceAdd, Nat.reduceMul, Nat.reduceBEq, Option.getD_none, Int.reduceToNat, Nat.reduceSub, Nat.reduceLT, Nat.reduceLeDiff, Int.reduceLE, Int.reduceLT, reduceCtorEq]; rfl, by simp⟩ ?_
  rintro k s' M' ⟨hk, h8, hr⟩ ho
  have h0 : s' 0 = .dat none (intss l) := by rw [ho 0 rfl]; simp only [go_sem, ↓reduceIte, Nat.reduceEqDiff, Nat.reduceAdd, Nat.reduceMul, Nat.reduceBEq, Option.getD_none, Int.reduceToNat, Nat.reduceSub, Nat.reduceLT, Nat.reduceLeDiff, Int.reduceLE, Int.reduceLT, reduceCtorEq]
  have h1 : s' 1 = .clo f (caps.map bindC) := by rw [ho 1 rfl]; simp only [go_sem, ↓reduceIte, Nat.reduceEqDiff, Nat.reduceAdd, Nat.reduceMul, Nat.reduceBEq, Option.getD_none, Int.reduceToNat, Nat.reduceSub, Nat.reduceLT, Nat.reduceLeDiff, Int.reduceLE, Int.reduceLT, reduceCtorEq]
  have h7 : s' 7 = aI l.length := by rw [ho 7 rfl]; simp only [go_sem, ↓reduceIte, Nat.reduceEqDiff, Nat.reduceAdd, Nat.reduceMul, Nat.reduceBEq, Option.getD_none, Int.reduceToNat, Nat.reduceSub, Nat.reduceLT, Nat.reduceLeDiff, Int.reduceLE, Int.reduceLT, reduceCtorEq]
  clear ho
  unfold slices_IndexFunc__ssint_sint.b0
  by_cases hlt : k < l.length
  · have hi' : (k : Int) < l.length := by omega
    have ga : l[k]? = some l[k] := List.getElem?_eq_getElem hlt
    have hw : IntKind.i64.wrap (k + 1) = ((k + 1 : Nat) : Int) := wrap_k hlt (by omega)
    simp only [go_sem, ↓reduceIte, Nat.reduceEqDiff, Nat.reduceAdd, Nat.reduceMul, Nat.reduceBEq, Option.getD_none, Int.reduceToNat, Nat.reduceSub, Nat.reduceLT, Nat.reduceLeDiff, Int.reduceLE, Int.reduceLT, reduceCtorEq, h0, h1, h7, h8, hi', ga]
    refine ccl_ro (ds := [ints l[k]]) (by simp only [go_sem, ↓reduceIte, Nat.reduceEqDiff, Nat.reduceAdd, Nat.reduceMul, Nat.reduceBEq, Option.getD_none, Int.reduceToNat, Nat.reduceSub, Nat.reduceLT, Nat.reduceLeDiff, Int.reduceLE, Int.reduceLT, reduceCtorEq]) ?_
    refine fcW_bool (h _ (List.getElem_mem hlt)) ?_
    cases hp : p l[k] with
    | true => simp only [go_sem, ↓reduceIte, Nat.reduceEqDiff, Nat.reduceAdd, Nat.reduceMul, Nat.reduceBEq, Option.getD_none, Int.reduceToNat, Nat.reduceSub, Nat.reduceLT, Nat.reduceLeDiff, Int.reduceLE, Int.reduceLT, reduceCtorEq, idxB_some hlt hr hp]
    | false =>
      simp only [go_sem, ↓reduceIte, Nat.reduceEqDiff, Nat.reduceAdd, Nat.reduceMul, Nat.reduceBEq, Option.getD_none, Int.reduceToNat, Nat.reduceSub, Nat.reduceLT, Nat.reduceLeDiff, Int.reduceLE, Int.reduceLT, reduceCtorEq, h8, hw]
      exact ⟨k + 1, by dsimp only; omega, by omega, by simp only [go_sem, ↓reduceIte, Nat.reduceEqDiff, Nat.reduceAdd, Nat.reduceMul, Nat.reduceBEq, Option.getD_none, Int.reduceToNat, Nat.reduceSub, Nat.reduceLT, Nat.reduceLeDiff, Int.reduceLE, Int.reduceLT, reduceCtorEq], all_take hlt hr (by simp [hp])⟩
  · have hi' : ¬ (k : Int) < l.length := by omega
    rw [List.take_of_length_le (by omega)] at hr
    simp only [go_sem, ↓reduceIte, Nat.reduceEqDiff, Nat.reduceAdd, Nat.reduceMul, Nat.reduceBEq, Option.getD_none, Int.reduceToNat, Nat.reduceSub, Nat.reduceLT, Nat.reduceLeDiff, Int.reduceLE, Int.reduceLT, reduceCtorEq, h0, h1, h7, h8, hi', idxB_none hr]
theorem slices_ContainsFunc__ssint_sint.fc (l : List (List Int)) (f : FuncId) (caps : List D) (p : (List Int) → Bool) (hl : l.length ≤ 4294967296)
    (h : ∀ x ∈ l, FCt prog f (.ro :: caps.map fun _ => .ro) (ints x :: caps) (Bb (p x)) []) : FCt prog F_slices_ContainsFunc__ssint_sint [.ro, .ro] [intss l, .clo f caps] (Bb (l.any p)) [] := by
  refine fct_run slices_ContainsFunc__ssint_sint.ok rfl ?_
  simp only [go_sem, ↓reduceIte, Nat.reduceEqDiff, Nat.reduceAdd, Nat.reduceMul, Nat.reduceBEq, Option.getD_none, Int.reduceToNat, Nat.reduceSub, Nat.reduceLT, Nat.reduceLeDiff, Int.reduceLE, Int.reduceLT, reduceCtorEq]
  refine fcW_int (slices_IndexFunc__ssint_sint.fc l f caps p hl h) ?_
  simp only [go_sem, ↓reduceIte, Nat.reduceEqDiff, Nat.reduceAdd, Nat.reduceMul, Nat.reduceBEq, Option.getD_none, Int.reduceToNat, Nat.reduceSub, Nat.reduceLT, Nat.reduceLeDiff, Int.reduceLE, Int.reduceLT, reduceCtorEq, ge_iff_le, idxB_any]

theorem spec_l1Has.fc (l : List Int) (n : Int) (hl : l.length ≤ 4294967296) : FCt prog F_spec_l1Has [.ro, .ro] [ints l, Ii n] (Bb (l.any (· == n))) [] := by
  refine fct_run spec_l1Has.ok rfl ?_
  simp only [go_sem, ↓reduceIte, Nat.reduceEqDiff, Nat.reduceAdd, Nat.reduceMul, Nat.reduceBEq, Option.getD_none, Int.reduceToNat, Nat.reduceSub, Nat.reduceLT, Nat.reduceLeDiff, Int.reduceLE, Int.reduceLT, reduceCtorEq]
  refine R_loop (α := Nat) (fun k s' M' => k ≤ l.length ∧ s' 9 = aI k ∧ (l.take k).all (fun x => !(x == n)) = true) (fun k => l.length - k) 0 ⟨by omega, by simp only [go_sem, ↓reduceIte, Nat.reduceEqDiff, Nat.reduceAdd, Nat.reduceMul, Nat.reduceBEq, Option.getD_none, Int.reduceToNat, Nat.reduceSub, Nat.reduceLT, Nat.reduceLeDiff, Int.reduceLE, Int.reduceLT, reduceCtorEq]; rfl, by simp⟩ ?_
  rintro k s' M' ⟨hk, h9, hr⟩ ho
  have h1 : s' 1 = aI n := by rw [ho 1 rfl]; simp only [go_sem, ↓reduceIte, Nat.reduceEqDiff, Nat.reduceAdd, Nat.reduceMul, Nat.reduceBEq, Option.getD_none, Int.reduceToNat, Nat.reduceSub, Nat.reduceLT, Nat.reduceLeDiff, Int.reduceLE, Int.reduceLT, reduceCtorEq]
  have h7 : s' 7 = .dat none (ints l) := by rw [ho 7 rfl]; simp only [go_sem, ↓reduceIte, Nat.reduceEqDiff, Nat.reduceAdd, Nat.reduceMul, Nat.reduceBEq, Option.getD_none, Int.reduceToNat, Nat.reduceSub, Nat.reduceLT, Nat.reduceLeDiff, Int.reduceLE, Int.reduceLT, reduceCtorEq]
  have h8 : s' 8 = aI l.length := by rw [ho 8 rfl]; simp only [go_sem, ↓reduceIte, Nat.reduceEqDiff, Nat.reduceAdd, Nat.reduceMul, Nat.reduceBEq, Option.getD_none, Int.reduceToNat, Nat.reduceSub, Nat.reduceLT, Nat.reduceLeDiff, Int.reduceLE, Int.reduceLT, reduceCtorEq]
  clear ho
  unfold spec_l1Has.b0
  by_cases hlt : k < l.length
  · have hi' : (k : Int) < l.length := by omega
    have ga : l[k]? = some l[k] := List.getElem?_eq_getElem hlt
    have hw : IntKind.i64.wrap (k + 1) = ((k + 1 : Nat) : Int) := wrap_k hlt (by omega)
    simp only [go_sem, ↓reduceIte, Nat.reduceEqDiff, Nat.reduceAdd, Nat.reduceMul, Nat.reduceBEq, Option.getD_none, Int.reduceToNat, Nat.reduceSub, Nat.reduceLT, Nat.reduceLeDiff, Int.reduceLE, Int.reduceLT, reduceCtorEq, h1, h7, h8, h9, hi', ga]
    refine cdW_any (fun e => ?_) (fun e => ?_)
    · have : l.any (· == n) = true := List.any_eq_true.2 ⟨l[k], List.getElem_mem hlt, e⟩
      simp only [go_sem, ↓reduceIte, Nat.reduceEqDiff, Nat.reduceAdd, Nat.reduceMul, Nat.reduceBEq, Option.getD_none, Int.reduceToNat, Nat.reduceSub, Nat.reduceLT, Nat.reduceLeDiff, Int.reduceLE, Int.reduceLT, reduceCtorEq, this]
    · simp only [go_sem, ↓reduceIte, Nat.reduceEqDiff, Nat.reduceAdd, Nat.reduceMul, Nat.reduceBEq, Option.getD_none, Int.reduceToNat, Nat.reduceSub, Nat.reduceLT, Nat.reduceLeDiff, Int.reduceLE, Int.reduceLT, reduceCtorEq, h9, hw]
      exact ⟨k + 1, by dsimp only; omega, by omega, by simp only [go_sem, ↓reduceIte, Nat.reduceEqDiff, Nat.reduceAdd, Nat.reduceMul, Nat.reduceBEq, Option.getD_none, Int.reduceToNat, Nat.reduceSub, Nat.reduceLT, Nat.reduceLeDiff, Int.reduceLE, Int.reduceLT, reduceCtorEq], all_take hlt hr (by simp [e])⟩
  · have hi' : ¬ (k : Int) < l.length := by omega
    rw [List.take_of_length_le (by omega)] at hr
    have : l.any (· == n) = false := by
      rw [List.any_eq_false]; intro x hx; have := List.all_eq_true.1 hr x hx; simpa using this
    simp only [go_sem, ↓reduceIte, Nat.reduceEqDiff, Nat.reduceAdd, Nat.reduceMul, Nat.reduceBEq, Option.getD_none, Int.reduceToNat, Nat.reduceSub, Nat.reduceLT, Nat.reduceLeDiff, Int.reduceLE, Int.reduceLT, reduceCtorEq, h1, h7, h8, h9, hi', this]
end Go.Vm.Ytdebllkmblakkaa
/- Walks: sorted rows. -/
namespace Go.Vm.Ytdebllkmblakkaa
open Go Go.Vm
set_option maxRecDepth 10000
set_option maxHeartbeats 4000000
set_option linter.unusedSimpArgs false
set_option linter.unusedVariables false

/-- where x belongs -/
def putK (l : List Int) (x : Int) : Nat := l.findIdx (fun y => !decide (y < x))
def putI (l : List Int) (x : Int) : List Int := if l[putK l x]? = some x then l else l.take (putK l x) ++ x :: l.drop (putK l x)
theorem putK_at {l : List Int} {x : Int} {k : Nat} (hk : k < l.length) (h : (l.take k).all (fun y => decide (y < x)) = true) (h2 : ¬ l[k] < x) : putK l x = k := by
  unfold putK
  rw [List.findIdx_eq hk]
  refine ⟨by simp [h2], fun j hj => ?_⟩
  have := List.all_eq_true.1 h l[j] (by rw [List.mem_take_iff_getElem]; exact ⟨j, by omega, rfl⟩)
  simpa using this
theorem putK_end {l : List Int} {x : Int} (h : l.all (fun y => decide (y < x)) = true) : putK l x = l.length := by
  unfold putK
  rw [List.findIdx_eq_length]
  intro y hy
  have := List.all_eq_true.1 h y hy
  simpa using this
theorem allSc {l : List Int} : (l.map Ii).all isSc = true := by
  rw [List.all_eq_true]; intro d hd; obtain ⟨x, _, rfl⟩ := List.mem_map.1 hd; rfl
theorem putL_len {l : List Int} {k : Nat} (hk : k ≤ l.length) : (l.take k).length = k := by rw [List.length_take]; omega
end Go.Vm.Ytdebllkmblakkaa
/- Walks: what is reached. -/
namespace Go.Vm.Ytdebllkmblakkaa
open Go Go.Vm
set_option maxRecDepth 10000
set_option maxHeartbeats 4000000
set_option linter.unusedSimpArgs false
set_option linter.unusedVariables false

theorem putI_len (l : List Int) (x : Int) : (putI l x).length ≤ l.length + 1 := by
  unfold putI
  split
  · omega
  · simp; omega
end Go.Vm.Ytdebllkmblakkaa
/- Walks: facts and rules that hold. -/
namespace Go.Vm.Ytdebllkmblakkaa
open Go Go.Vm
set_option maxRecDepth 10000
set_option maxHeartbeats 4000000
set_option linter.unusedSimpArgs false
set_option linter.unusedVariables false

abbrev bools (l : List Bool) : D := .sl 1 (l.map Bb)
def hasI (so : List Int) (x : Int) : Bool := so.any (· == x)
end Go.Vm.Ytdebllkmblakkaa
/- Walks: lists of the places where a condition holds. -/
namespace Go.Vm.Ytdebllkmblakkaa
open Go Go.Vm
set_option maxRecDepth 10000
set_option maxHeartbeats 4000000
set_option linter.unusedSimpArgs false
set_option linter.unusedVariables false

/-- the numbers below n for which p holds -/
def listI (n : Nat) (p : Nat → Bool) : List Int := ((List.range n).filter p).map fun (i : Nat) => (i : Int)
end Go.Vm.Ytdebllkmblakkaa
/- Walks: what is reached, by rows of marks. -/
namespace Go.Vm.Ytdebllkmblakkaa
open Go Go.Vm
set_option maxRecDepth 10000
set_option maxHeartbeats 4000000
set_option linter.unusedSimpArgs false
set_option linter.unusedVariables false

end Go.Vm.Ytdebllkmblakkaa
/- Plain law: rows of marks and sorted rows. -/
namespace Go.Vm.Ytdebllkmblakkaa
open Go Go.Vm
set_option maxRecDepth 10000
set_option maxHeartbeats 4000000
set_option linter.unusedSimpArgs false
set_option linter.unusedVariables false

/-- the numbers from a on, b of them, for which p holds -/
def segI (a b : Nat) (p : Nat → Bool) : List Int := ((List.range' a b).filter p).map fun (i : Nat) => (i : Int)
theorem listI_seg (n : Nat) (p : Nat → Bool) : listI n p = segI 0 n p := by simp only [listI, segI, List.range_eq_range']
theorem segI_split {a b c : Nat} {p : Nat → Bool} : segI a (b + c) p = segI a b p ++ segI (a + b) c p := by
  simp only [segI]
  rw [← List.range'_append_1, List.filter_append, List.map_append]
theorem segI_mem {a b : Nat} {p : Nat → Bool} {x : Int} (h : x ∈ segI a b p) : ∃ i : Nat, x = i ∧ a ≤ i ∧ i < a + b ∧ p i = true := by
  simp only [segI, List.mem_map, List.mem_filter, List.mem_range'_1] at h
  obtain ⟨i, ⟨hi, hp⟩, rfl⟩ := h
  exact ⟨i, rfl, hi.1, hi.2, hp⟩
theorem segI_congr {a b : Nat} {p q : Nat → Bool} (h : ∀ i, a ≤ i → i < a + b → p i = q i) : segI a b p = segI a b q := by
  simp only [segI]
  congr 1
  exact List.filter_congr fun i hi => by rw [List.mem_range'_1] at hi; exact h i hi.1 hi.2
theorem putK_app {A C : List Int} {x : Int} (hA : ∀ y ∈ A, y < x) (hC : ∀ y ∈ C, ¬ y < x) : putK (A ++ C) x = A.length := by
  unfold putK
  have h1 : A.findIdx (fun y => !decide (y < x)) = A.length := by
    rw [List.findIdx_eq_length]; intro y hy; simp [hA y hy]
  rw [List.findIdx_append, h1, if_neg (by omega)]
  cases C with
  | nil => simp
  | cons c C =>
    have := hC c List.mem_cons_self
    simp only [List.findIdx_cons, this, decide_false, Bool.not_false, cond_true, Nat.zero_add]
theorem putI_app {A C : List Int} {x : Int} (hA : ∀ y ∈ A, y < x) (hC : ∀ y ∈ C, x < y) : putI (A ++ C) x = A ++ x :: C ∧ putI (A ++ x :: C) x = A ++ x :: C := by
  constructor
  · unfold putI
    rw [putK_app hA (fun y hy => by have := hC y hy; omega)]
    have : (A ++ C)[A.length]? ≠ some x := by
      rw [List.getElem?_append_right (Nat.le_refl _), Nat.sub_self]
      cases C with
      | nil => simp
      | cons c C => have := hC c List.mem_cons_self; simp; omega
    rw [if_neg this]
    simp
  · unfold putI
    rw [putK_app hA (fun y hy => by
      rcases List.mem_cons.1 hy with rfl | hy
      · omega
      · have := hC y hy; omega)]
    simp
theorem putI_list {n : Nat} {p : Nat → Bool} {x : Nat} (hx : x < n) : putI (listI n p) x = listI n (fun i => if i = x then true else p i) := by
  obtain ⟨m, rfl⟩ : ∃ m, n = x + (1 + m) := ⟨n - x - 1, by omega⟩
  rw [listI_seg, listI_seg, segI_split (p := p), segI_split (p := p) (b := 1), segI_split (p := fun i => if i = x then true else p i), segI_split (p := fun i => if i = x then true else p i) (b := 1)]
  simp only [Nat.zero_add]
  have hA : ∀ q, ∀ y ∈ segI 0 x q, y < (x : Int) := fun q y hy => by obtain ⟨i, rfl, _, h, _⟩ := segI_mem hy; omega
  have hC : ∀ q, ∀ y ∈ segI (x + 1) m q, (x : Int) < y := fun q y hy => by obtain ⟨i, rfl, h, _, _⟩ := segI_mem hy; omega
  have e1 : segI 0 x (fun i => if i = x then true else p i) = segI 0 x p := segI_congr fun i _ h => by rw [if_neg (by omega)]
  have e2 : segI (x + 1) m (fun i => if i = x then true else p i) = segI (x + 1) m p := segI_congr fun i h _ => by rw [if_neg (by omega)]
  have e3 : segI x 1 (fun i => if i = x then true else p i) = [(x : Int)] := by simp [segI]
  rw [e1, e2, e3]
  cases hp : p x with
  | true =>
    have e4 : segI x 1 p = [(x : Int)] := by simp [segI, hp]
    rw [e4]
    exact (putI_app (hA p) (hC p)).2
  | false =>
    have e4 : segI x 1 p = [] := by simp [segI, hp]
    rw [e4, List.nil_append]
    exact (putI_app (hA p) (hC p)).1
theorem listI_congr {n : Nat} {p q : Nat → Bool} (h : ∀ i, i < n → p i = q i) : listI n p = listI n q := by
  rw [listI_seg, listI_seg]; exact segI_congr fun i _ hi => h i (by omega)
end Go.Vm.Ytdebllkmblakkaa
/- Walks: what is reached within so many steps. -/
namespace Go.Vm.Ytdebllkmblakkaa
open Go Go.Vm
set_option maxRecDepth 10000
set_option maxHeartbeats 4000000
set_option linter.unusedSimpArgs false
set_option linter.unusedVariables false

end Go.Vm.Ytdebllkmblakkaa
/- Walks: arcs that lead back. -/
namespace Go.Vm.Ytdebllkmblakkaa
open Go Go.Vm
set_option maxRecDepth 10000
set_option maxHeartbeats 4000000
set_option linter.unusedSimpArgs false
set_option linter.unusedVariables false

end Go.Vm.Ytdebllkmblakkaa
/- Walks: the laws' own helpers, in one form. -/
namespace Go.Vm.Ytdebllkmblakkaa
open Go Go.Vm
set_option maxRecDepth 10000
set_option maxHeartbeats 4000000
set_option linter.unusedSimpArgs false
set_option linter.unusedVariables false

theorem hasSl {α : Type} {f : α → D} {p : α → Prop} {T : Ty} (one : ∀ x, HasTy T x → ∃ a, x = f a ∧ p a) {d : D} (h : HasTy (.sl T) d) : ∃ l : List α, d = .sl T.cells (l.map f) ∧ l.length ≤ 9223372036854775807 ∧ ∀ a ∈ l, p a := by
  simp only [HasTy] at h
  obtain ⟨xs, rfl, hl, h⟩ := h
  have : ∀ xs : List D, (∀ x ∈ xs, HasTy T x) → ∃ l : List α, xs = l.map f ∧ ∀ a ∈ l, p a := by
    intro xs
    induction xs with
    | nil => intro _; exact ⟨[], rfl, by simp⟩
    | cons x xs ih =>
      intro h
      obtain ⟨a, rfl, hp⟩ := one x (h x List.mem_cons_self)
      obtain ⟨l, rfl, hl⟩ := ih fun y hy => h y (List.mem_cons_of_mem _ hy)
      exact ⟨a :: l, rfl, fun b hb => by
        rcases List.mem_cons.1 hb with rfl | hb
        · exact hp
        · exact hl b hb⟩
  obtain ⟨l, rfl, hp⟩ := this xs h
  exact ⟨l, rfl, by simpa [maxLen] using hl, hp⟩
theorem noRs_t2 {a b : D} (h1 : noRs a = true) (h2 : noRs b = true) : noRs (.tup [a, b]) = true := by simp only [noRs, noRsL, h1, h2, Bool.and_self]
theorem noRs_t3 {a b c : D} (h1 : noRs a = true) (h2 : noRs b = true) (h3 : noRs c = true) : noRs (.tup [a, b, c]) = true := by simp only [noRs, noRsL, h1, h2, h3, Bool.and_self]
end Go.Vm.Ytdebllkmblakkaa
/- Walks: the laws' own helpers, in one form: rules, rows of rows. -/
namespace Go.Vm.Ytdebllkmblakkaa
open Go Go.Vm
set_option maxRecDepth 10000
set_option maxHeartbeats 4000000
set_option linter.unusedSimpArgs false
set_option linter.unusedVariables false

end Go.Vm.Ytdebllkmblakkaa
/- Walks: what is put into a row that is handed over; the least facts. -/
namespace Go.Vm.Ytdebllkmblakkaa
open Go Go.Vm
set_option maxRecDepth 10000
set_option maxHeartbeats 4000000
set_option linter.unusedSimpArgs false
set_option linter.unusedVariables false

theorem spec_l1Put.fco (l : List Int) (x : Int) (hl : l.length ≤ 4294967296) : FCt prog F_spec_l1Put [.co, .ro] [ints l, Ii x] (ints (putI l x)) [] := by
  refine fct_run spec_l1Put_co.ok rfl ?_
  simp only [go_sem, ↓reduceIte, Nat.reduceEqDiff, Nat.reduceAdd, Nat.reduceMul, Nat.reduceBEq, Option.getD_none, Int.reduceToNat, Nat.reduceSub, Nat.reduceLT, Nat.reduceLeDiff, Int.reduceLE, Int.reduceLT, reduceCtorEq]
  refine R_cut (fun e s' M' => e = .ex 0 ∧ s' 5 = aI (putK l x) ∧ M'.m 0 = some (.arr 0 true 1 (l.map Ii)) ∧ putK l x ≤ l.length) ?_ ?_
  · refine R_loop (α := Nat) (fun k s' M' => k ≤ l.length ∧ s' 5 = aI k ∧ M'.m 0 = some (.arr 0 true 1 (l.map Ii)) ∧ (l.take k).all (fun y => decide (y < x)) = true) (fun k => l.length - k) 0 ⟨by omega, by simp only [go_sem, ↓reduceIte, Nat.reduceEqDiff, Nat.reduceAdd, Nat.reduceMul, Nat.reduceBEq, Option.getD_none, Int.reduceToNat, Nat.reduceSub, Nat.reduceLT, Nat.reduceLeDiff, Int.reduceLE, Int.reduceLT, reduceCtorEq]; rfl, by simp only [go_sem, ↓reduceIte, Nat.reduceEqDiff, Nat.reduceAdd, Nat.reduceMul, Nat.reduceBEq, Option.getD_none, Int.reduceToNat, Nat.reduceSub, Nat.reduceLT, Nat.reduceLeDiff, Int.reduceLE, Int.reduceLT, reduceCtorEq], by simp⟩ ?_
    rintro k s' M' ⟨hk, h5, hm, hr⟩ ho
    unfold spec_l1Put_co.b0
    have k0 : s' 0 = .sl 0 0 0 l.length 1 := by rw [ho 0 rfl]; simp only [go_sem, ↓reduceIte, Nat.reduceEqDiff, Nat.reduceAdd, Nat.reduceMul, Nat.reduceBEq, Option.getD_none, Int.reduceToNat, Nat.reduceSub, Nat.reduceLT, Nat.reduceLeDiff, Int.reduceLE, Int.reduceLT, reduceCtorEq]
    have k1 : s' 1 = aI x := by rw [ho 1 rfl]; simp only [go_sem, ↓reduceIte, Nat.reduceEqDiff, Nat.reduceAdd, Nat.reduceMul, Nat.reduceBEq, Option.getD_none, Int.reduceToNat, Nat.reduceSub, Nat.reduceLT, Nat.reduceLeDiff, Int.reduceLE, Int.reduceLT, reduceCtorEq]
    clear ho
    by_cases hlt : k < l.length
    · have hi' : (k : Int) < l.length := by omega
      have ga : l[k]? = some l[k] := List.getElem?_eq_getElem hlt
      have hw : IntKind.i64.wrap (k + 1) = ((k + 1 : Nat) : Int) := wrap_k hlt (by omega)
      by_cases hc : l[k] < x
      · simp only [go_sem, ↓reduceIte, Nat.reduceEqDiff, Nat.reduceAdd, Nat.reduceMul, Nat.reduceBEq, Option.getD_none, Int.reduceToNat, Nat.reduceSub, Nat.reduceLT, Nat.reduceLeDiff, Int.reduceLE, Int.reduceLT, reduceCtorEq, hi', ga, hc, hw, k0, k1, h5, hm]
        exact ⟨k + 1, by dsimp only; omega, by omega, by simp only [go_sem, ↓reduceIte, Nat.reduceEqDiff, Nat.reduceAdd, Nat.reduceMul, Nat.reduceBEq, Option.getD_none, Int.reduceToNat, Nat.reduceSub, Nat.reduceLT, Nat.reduceLeDiff, Int.reduceLE, Int.reduceLT, reduceCtorEq, k0, k1, h5, hm], by simp only [go_sem, ↓reduceIte, Nat.reduceEqDiff, Nat.reduceAdd, Nat.reduceMul, Nat.reduceBEq, Option.getD_none, Int.reduceToNat, Nat.reduceSub, Nat.reduceLT, Nat.reduceLeDiff, Int.reduceLE, Int.reduceLT, reduceCtorEq, k0, k1, h5, hm], all_take hlt hr (by simpa using hc)⟩
      · have hp := putK_at hlt hr hc
        simp only [go_sem, ↓reduceIte, Nat.reduceEqDiff, Nat.reduceAdd, Nat.reduceMul, Nat.reduceBEq, Option.getD_none, Int.reduceToNat, Nat.reduceSub, Nat.reduceLT, Nat.reduceLeDiff, Int.reduceLE, Int.reduceLT, reduceCtorEq, hi', ga, hc, hp, k0, k1, h5, hm]
        exact hk
    · have hi' : ¬ (k : Int) < l.length := by omega
      rw [List.take_of_length_le (by omega)] at hr
      have hp := putK_end hr
      obtain rfl : k = l.length := by omega
      simp only [go_sem, ↓reduceIte, Nat.reduceEqDiff, Nat.reduceAdd, Nat.reduceMul, Nat.reduceBEq, Option.getD_none, Int.reduceToNat, Nat.reduceSub, Nat.reduceLT, Nat.reduceLeDiff, Int.reduceLE, Int.reduceLT, reduceCtorEq, hi', hp, k0, k1, h5, hm]
  · rintro e s' M' ⟨rfl, h5, hm, hk⟩ ho
    have k0 : s' 0 = .sl 0 0 0 l.length 1 := by rw [ho 0 rfl]; simp only [go_sem, ↓reduceIte, Nat.reduceEqDiff, Nat.reduceAdd, Nat.reduceMul, Nat.reduceBEq, Option.getD_none, Int.reduceToNat, Nat.reduceSub, Nat.reduceLT, Nat.reduceLeDiff, Int.reduceLE, Int.reduceLT, reduceCtorEq]
    have k1 : s' 1 = aI x := by rw [ho 1 rfl]; simp only [go_sem, ↓reduceIte, Nat.reduceEqDiff, Nat.reduceAdd, Nat.reduceMul, Nat.reduceBEq, Option.getD_none, Int.reduceToNat, Nat.reduceSub, Nat.reduceLT, Nat.reduceLeDiff, Int.reduceLE, Int.reduceLT, reduceCtorEq]
    clear ho
    have hle : (putK l x : Int) ≤ l.length := by omega
    have hlt2 := putL_len hk
    have hb1 : putK l x * 8 ≤ 70368744177664 := by omega
    have hb2 : (putK l x + 1) * 8 ≤ 70368744177664 := by omega
    have hb3 : (putK l x + 1 + (l.length - putK l x)) * 8 ≤ 70368744177664 := by omega
    have ht1 : (l.take (putK l x)).take (putK l x) = l.take (putK l x) := by rw [List.take_take, Nat.min_self]
    have hl1 : ((l.take (putK l x)).map Ii ++ [D.int IntKind.i64 x]).length = putK l x + 1 := by rw [List.length_append, List.length_map, hlt2]; rfl
    have ht2 : ((l.take (putK l x)).map Ii ++ [D.int IntKind.i64 x]).take (putK l x + 1) = (l.take (putK l x)).map Ii ++ [D.int IntKind.i64 x] := List.take_of_length_le (by omega)
    have hl2 : ((l.take (putK l x)).map Ii ++ [D.int IntKind.i64 x] ++ (l.drop (putK l x)).map Ii).length = putK l x + 1 + (l.length - putK l x) := by rw [List.length_append, hl1, List.length_map, List.length_drop]
    have ht3 : ((l.take (putK l x)).map Ii ++ [D.int IntKind.i64 x] ++ (l.drop (putK l x)).map Ii).take (putK l x + 1 + (l.length - putK l x)) = (l.take (putK l x)).map Ii ++ [D.int IntKind.i64 x] ++ (l.drop (putK l x)).map Ii := List.take_of_length_le (by omega)
    have ht4 : (l.drop (putK l x)).take (l.length - putK l x) = l.drop (putK l x) := List.take_of_length_le (by simp)
    have hsm : putK l x + (l.length - putK l x) = l.length := by omega
    have hsi : ((l.length : Int) - (putK l x : Int)).toNat = l.length - putK l x := by omega
    by_cases hlt : putK l x < l.length
    · have hi' : (putK l x : Int) < l.length := by omega
      have ga : l[putK l x]? = some l[putK l x] := List.getElem?_eq_getElem hlt
      simp only [go_sem, ↓reduceIte, Nat.reduceEqDiff, Nat.reduceAdd, Nat.reduceMul, Nat.reduceBEq, Option.getD_none, Int.reduceToNat, Nat.reduceSub, Nat.reduceLT, Nat.reduceLeDiff, Int.reduceLE, Int.reduceLT, reduceCtorEq, hi', ga, k0, k1, h5, hm, hle, hlt2, hb1, hb2, hb3, ht1, hl1, ht2, hl2, ht3, ht4, hsm, hsi, hk, take_map_len, Int.sub_zero, List.drop_zero]
      cases hc : (l[putK l x] == x) with
      | true =>
        have e : putI l x = l := by unfold putI; rw [ga, if_pos (by simpa using hc)]
        simp only [go_sem, ↓reduceIte, Nat.reduceEqDiff, Nat.reduceAdd, Nat.reduceMul, Nat.reduceBEq, Option.getD_none, Int.reduceToNat, Nat.reduceSub, Nat.reduceLT, Nat.reduceLeDiff, Int.reduceLE, Int.reduceLT, reduceCtorEq, e, k0, k1, h5, hm, hle, hlt2, hb1, hb2, hb3, ht1, hl1, ht2, hl2, ht3, ht4, hsm, hsi, hk, take_map_len, Int.sub_zero, List.drop_zero]
      | false =>
        have e : putI l x = l.take (putK l x) ++ x :: l.drop (putK l x) := by unfold putI; rw [ga, if_neg (by simpa using hc)]
        simp only [go_sem, ↓reduceIte, Nat.reduceEqDiff, Nat.reduceAdd, Nat.reduceMul, Nat.reduceBEq, Option.getD_none, Int.reduceToNat, Nat.reduceSub, Nat.reduceLT, Nat.reduceLeDiff, Int.reduceLE, Int.reduceLT, reduceCtorEq, ← List.map_take, ← List.map_drop, allSc, Nat.zero_le, List.take_length, List.length_drop, Int.le_refl, k0, k1, h5, hm, hle, hlt2, hb1, hb2, hb3, ht1, hl1, ht2, hl2, ht3, ht4, hsm, hsi, hk, take_map_len, Int.sub_zero, List.drop_zero]
        rw [e]
        simp
    · have hi' : ¬ (putK l x : Int) < l.length := by omega
      have e : putI l x = l.take (putK l x) ++ x :: l.drop (putK l x) := by
        unfold putI
        rw [List.getElem?_eq_none (by omega), if_neg (by simp)]
      simp only [go_sem, ↓reduceIte, Nat.reduceEqDiff, Nat.reduceAdd, Nat.reduceMul, Nat.reduceBEq, Option.getD_none, Int.reduceToNat, Nat.reduceSub, Nat.reduceLT, Nat.reduceLeDiff, Int.reduceLE, Int.reduceLT, reduceCtorEq, hi', ← List.map_take, ← List.map_drop, allSc, Nat.zero_le, List.take_length, List.length_drop, Int.le_refl, k0, k1, h5, hm, hle, hlt2, hb1, hb2, hb3, ht1, hl1, ht2, hl2, ht3, ht4, hsm, hsi, hk, take_map_len, Int.sub_zero, List.drop_zero]
      rw [e]
      simp
end Go.Vm.Ytdebllkmblakkaa
/- Walks: do rules hold among facts? -/
namespace Go.Vm.Ytdebllkmblakkaa
open Go Go.Vm
set_option maxRecDepth 10000
set_option maxHeartbeats 4000000
set_option linter.unusedSimpArgs false
set_option linter.unusedVariables false

end Go.Vm.Ytdebllkmblakkaa
/- Plain law: the least facts. -/
namespace Go.Vm.Ytdebllkmblakkaa
open Go Go.Vm
set_option maxRecDepth 10000
set_option maxHeartbeats 4000000
set_option linter.unusedSimpArgs false
set_option linter.unusedVariables false

theorem mem_putI {l : List Int} {x y : Int} : y ∈ putI l x ↔ y = x ∨ y ∈ l := by
  unfold putI
  split
  · rename_i h
    have := List.mem_of_getElem? h
    constructor
    · exact .inr
    · rintro (rfl | h)
      · exact this
      · exact h
  · rw [List.mem_append, List.mem_cons]
    have : y ∈ l ↔ y ∈ l.take (putK l x) ∨ y ∈ l.drop (putK l x) := by rw [← List.mem_append, List.take_append_drop]
    rw [this]
    constructor
    · rintro (h | rfl | h)
      · exact .inr (.inl h)
      · exact .inl rfl
      · exact .inr (.inr h)
    · rintro (rfl | h | h)
      · exact .inr (.inl rfl)
      · exact .inl h
      · exact .inr (.inr h)
theorem hasI_iff {l : List Int} {x : Int} : hasI l x = true ↔ x ∈ l := by
  unfold hasI
  rw [List.any_eq_true]
  exact ⟨fun ⟨y, h, e⟩ => by rw [← (by simpa using e : y = x)]; exact h, fun h => ⟨x, h, by simp⟩⟩
theorem hasI_put {l : List Int} {x y : Int} : hasI (putI l x) y = (decide (y = x) || hasI l y) := by
  rw [Bool.eq_iff_iff, hasI_iff, mem_putI, Bool.or_eq_true, decide_eq_true_eq, hasI_iff]
/-- how many are not there -/
def lackN (n : Nat) (so : List Int) : Nat := ((List.range (n + 1)).filter fun (i : Nat) => !hasI so (i : Int)).length
theorem filter_lt {α : Type} {p q : α → Bool} {l : List α} {z : α} (hz : z ∈ l) (hp : p z = true) (hq : q z = false) (h : ∀ y, q y = true → p y = true) : (l.filter q).length < (l.filter p).length := by
  have e : l.filter q = (l.filter p).filter q := by
    rw [List.filter_filter]
    refine List.filter_congr fun y _ => ?_
    cases hh : q y with
    | false => simp
    | true => simp [h y hh]
  rw [e]
  exact List.length_filter_lt_length_iff_exists.2 ⟨z, List.mem_filter.2 ⟨hz, hp⟩, by simp [hq]⟩
theorem lack_put {n : Nat} {so : List Int} {x : Int} (hx : 0 ≤ x ∧ x ≤ n) (h : hasI so x = false) : lackN n (putI so x) + 1 ≤ lackN n so := by
  unfold lackN
  have e : ((x.toNat : Nat) : Int) = x := by omega
  refine Nat.succ_le_of_lt (filter_lt (z := x.toNat) (by simp; omega) ?_ ?_ fun y hy => ?_)
  · rw [e, h]; rfl
  · rw [e, hasI_put]; simp
  · rw [hasI_put] at hy; simp at hy; simp [hy.2]
theorem lack_le {n : Nat} {so : List Int} : lackN n so ≤ n + 1 := by
  unfold lackN
  exact Nat.le_trans (List.length_filter_le _ _) (by simp)
/-- a rule that gives a new fact -/
def readyR (so : List Int) (r : RuleD) : Bool := decide (r.thn > 0) && !hasI so r.thn && r.ifs.all (hasI so)
def ruleAt (l : List RuleD) (i : Nat) : RuleD := l.getD i ⟨[], 0⟩
def leastI (l : List RuleD) : Nat → List Int → List Int → List Int × List Int
  | 0, so, ap => (so, ap)
  | f + 1, so, ap => match l.findIdx? (readyR so) with
    | none => (so, ap)
    | some i => leastI l f (putI so (ruleAt l i).thn) (ap ++ [(i : Int)])
theorem ruleAt_get {l : List RuleD} {i : Nat} (h : i < l.length) : ruleAt l i = l[i] := by
  unfold ruleAt; rw [List.getD_eq_getElem?_getD, List.getElem?_eq_getElem h]; rfl
theorem ready_at {l : List RuleD} {so : List Int} {i : Nat} (h : l.findIdx? (readyR so) = some i) : i < l.length ∧ readyR so (ruleAt l i) = true := by
  rw [List.findIdx?_eq_some_iff_getElem] at h
  obtain ⟨hi, h, _⟩ := h
  exact ⟨hi, by rw [ruleAt_get hi]; exact h⟩
theorem ready_thn {so : List Int} {r : RuleD} (h : readyR so r = true) : 0 < r.thn ∧ hasI so r.thn = false := by
  simp only [readyR, Bool.and_eq_true, decide_eq_true_eq, Bool.not_eq_true'] at h
  exact ⟨h.1.1, h.1.2⟩
theorem ready_lack {n : Nat} {l : List RuleD} {so : List Int} {i : Nat} (hr : ∀ r ∈ l, r.thn ≤ n) (h : l.findIdx? (readyR so) = some i) : lackN n (putI so (ruleAt l i).thn) + 1 ≤ lackN n so := by
  obtain ⟨hi, h⟩ := ready_at h
  have := ready_thn h
  exact lack_put ⟨by omega, hr _ (by rw [ruleAt_get hi]; exact List.getElem_mem hi)⟩ this.2
theorem least_fuel {n : Nat} {l : List RuleD} (hr : ∀ r ∈ l, r.thn ≤ n) : ∀ (f g : Nat) (so ap : List Int), lackN n so ≤ f → lackN n so ≤ g → leastI l f so ap = leastI l g so ap := by
  intro f
  induction f with
  | zero =>
    intro g so ap hf hg
    cases g with
    | zero => rfl
    | succ g =>
      simp only [leastI]
      cases h : l.findIdx? (readyR so) with
      | none => rfl
      | some i => have := ready_lack hr h; omega
  | succ f ih =>
    intro g so ap hf hg
    cases g with
    | zero =>
      simp only [leastI]
      cases h : l.findIdx? (readyR so) with
      | none => rfl
      | some i => have := ready_lack hr h; omega
    | succ g =>
      simp only [leastI]
      cases h : l.findIdx? (readyR so) with
      | none => rfl
      | some i =>
        have := ready_lack hr h
        exact ih g _ _ (by omega) (by omega)
/-- the least facts and what was applied -/
def leastP (l : List RuleD) : List Int × List Int := leastI l 14 [] []
theorem least_step {n : Nat} {l : List RuleD} (hn : n ≤ 12) (hr : ∀ r ∈ l, r.thn ≤ n) {so ap : List Int} {i : Nat} (h : l.findIdx? (readyR so) = some i) : leastI l 14 (putI so (ruleAt l i).thn) (ap ++ [(i : Int)]) = leastI l 14 so ap := by
  have h1 : leastI l 15 so ap = leastI l 14 (putI so (ruleAt l i).thn) (ap ++ [(i : Int)]) := by simp only [leastI, h]
  have hl := lack_le (n := n) (so := so)
  rw [← h1]
  exact least_fuel hr _ _ _ _ (by omega) (by omega)
/-- what is known all along -/
structure LeastOk (n : Nat) (l : List RuleD) (so ap : List Int) : Prop where
  same : leastI l 14 so ap = leastP l
  sort : so = listI (n + 1) fun i => hasI so (i : Int)
  few : so.length ≤ ap.length
  left : ap.length + lackN n so ≤ n + 1
  apl : ∀ i ∈ ap, 0 ≤ i ∧ i < l.length ∧ 0 < (ruleAt l i.toNat).thn
theorem LeastOk.start {n : Nat} {l : List RuleD} : LeastOk n l [] [] where
  same := rfl
  sort := by
    have : listI (n + 1) (fun i => hasI [] (i : Int)) = [] := by
      unfold listI; rw [List.filter_eq_nil_iff.2 (by intro i _; simp [hasI])]; rfl
    rw [this]
  few := by simp
  left := by have := lack_le (n := n) (so := []); simpa using this
  apl := by simp
theorem LeastOk.next {n : Nat} {l : List RuleD} {so ap : List Int} (hn : n ≤ 12) (hr : ∀ r ∈ l, r.thn ≤ n) (h : LeastOk n l so ap) {i : Nat} (hi : l.findIdx? (readyR so) = some i) : LeastOk n l (putI so (ruleAt l i).thn) (ap ++ [(i : Int)]) where
  same := by rw [least_step hn hr hi]; exact h.same
  sort := by
    obtain ⟨h1, h2⟩ := ready_at hi
    have h3 := ready_thn h2
    have h4 : (ruleAt l i).thn ≤ n := hr _ (by rw [ruleAt_get h1]; exact List.getElem_mem h1)
    have hp := putI_list (n := n + 1) (p := fun i => hasI so (i : Int)) (x := (ruleAt l i).thn.toNat) (by omega)
    rw [← h.sort, show (((ruleAt l i).thn.toNat : Nat) : Int) = (ruleAt l i).thn by omega] at hp
    rw [hp]
    refine listI_congr fun j hj => ?_
    rw [← hp, hasI_put]
    by_cases e : j = (ruleAt l i).thn.toNat
    · rw [if_pos e]; simp; omega
    · rw [if_neg e]
      have : ¬ ((j : Int) = (ruleAt l i).thn) := by omega
      simp [this]
  few := by have := putI_len so (ruleAt l i).thn; have := h.few; simp; omega
  left := by have := ready_lack hr hi; have := h.left; simp; omega
  apl := fun j hj => by
    rcases List.mem_append.1 hj with hj | hj
    · exact h.apl j hj
    · obtain ⟨h1, h2⟩ := ready_at hi
      have : j = i := by simpa using hj
      subst this
      exact ⟨by omega, by omega, by rw [Int.toNat_natCast]; exact (ready_thn h2).1⟩
theorem LeastOk.len {n : Nat} {l : List RuleD} {so ap : List Int} (h : LeastOk n l so ap) (hn : n ≤ 12) : so.length ≤ 13 ∧ ap.length ≤ 13 := by
  have := h.few; have := h.left; omega
end Go.Vm.Ytdebllkmblakkaa
/- Walks: the least facts. -/
namespace Go.Vm.Ytdebllkmblakkaa
open Go Go.Vm
set_option maxRecDepth 10000
set_option maxHeartbeats 4000000
set_option linter.unusedSimpArgs false
set_option linter.unusedVariables false

end Go.Vm.Ytdebllkmblakkaa
/- Walks: the least facts by the reference; why a fact holds. -/
namespace Go.Vm.Ytdebllkmblakkaa
open Go Go.Vm
set_option maxRecDepth 10000
set_option maxHeartbeats 4000000
set_option linter.unusedSimpArgs false
set_option linter.unusedVariables false

end Go.Vm.Ytdebllkmblakkaa
/- Walks: literals and clauses. -/
namespace Go.Vm.Ytdebllkmblakkaa
open Go Go.Vm
set_option maxRecDepth 10000
set_option maxHeartbeats 4000000
set_option linter.unusedSimpArgs false
set_option linter.unusedVariables false

theorem neg_in {n : Int} (h : -4611686018427387904 ≤ n ∧ n ≤ 4611686018427387904) : IntKind.i64.wrap (0 - n) = -n := by rw [wrap_in (by omega) (by omega)]; omega
def litB (n v : Int) : Bool := (n != 0) && inB n (-v) v
theorem litB_in {n v : Int} (hv : v ≤ 4294967296) (h : litB n v = true) : -4294967296 ≤ n ∧ n ≤ 4294967296 := by
  simp only [litB, inB, Bool.and_eq_true, decide_eq_true_eq] at h
  omega
theorem impl_isLiteral.fc (n v : Int) (hv : 0 ≤ v ∧ v ≤ 4294967296) : FCt prog F_impl_isLiteral [.ro, .ro] [Ii n, Ii v] (Bb (litB n v)) [] := by
  refine fct_run impl_isLiteral.ok rfl ?_
  have hw := neg_in (n := v) (by omega)
  unfold litB
  cases h : (n != 0)
  · simp only [go_sem, ↓reduceIte, Nat.reduceEqDiff, Nat.reduceAdd, Nat.reduceMul, Nat.reduceBEq, Option.getD_none, Int.reduceToNat, Nat.reduceSub, Nat.reduceLT, Nat.reduceLeDiff, Int.reduceLE, Int.reduceLT, reduceCtorEq, h]
  · simp only [go_sem, ↓reduceIte, Nat.reduceEqDiff, Nat.reduceAdd, Nat.reduceMul, Nat.reduceBEq, Option.getD_none, Int.reduceToNat, Nat.reduceSub, Nat.reduceLT, Nat.reduceLeDiff, Int.reduceLE, Int.reduceLT, reduceCtorEq, h, hw]
    refine fcW_bool (impl_in.fc ..) ?_
    simp only [go_sem, ↓reduceIte, Nat.reduceEqDiff, Nat.reduceAdd, Nat.reduceMul, Nat.reduceBEq, Option.getD_none, Int.reduceToNat, Nat.reduceSub, Nat.reduceLT, Nat.reduceLeDiff, Int.reduceLE, Int.reduceLT, reduceCtorEq]
def varI (n : Int) : Int := if IntKind.i64.wrap (0 - n) > n then IntKind.i64.wrap (0 - n) else n
theorem impl_variable.fc (n : Int) : FCt prog F_impl_variable [.ro] [Ii n] (Ii (varI n)) [] := by
  refine fct_run impl_variable.ok rfl ?_
  unfold varI
  simp only [go_sem, ↓reduceIte, Nat.reduceEqDiff, Nat.reduceAdd, Nat.reduceMul, Nat.reduceBEq, Option.getD_none, Int.reduceToNat, Nat.reduceSub, Nat.reduceLT, Nat.reduceLeDiff, Int.reduceLE, Int.reduceLT, reduceCtorEq]
theorem impl_isClause_c1.fc (k n : Int) : FCt prog F_impl_isClause_c1 [.ro, .ro] [Ii k, .ptr (Ii n)] (Bb (varI k == varI n)) [] := by
  refine fct_run impl_isClause_c1.ok rfl ?_
  simp only [go_sem, ↓reduceIte, Nat.reduceEqDiff, Nat.reduceAdd, Nat.reduceMul, Nat.reduceBEq, Option.getD_none, Int.reduceToNat, Nat.reduceSub, Nat.reduceLT, Nat.reduceLeDiff, Int.reduceLE, Int.reduceLT, reduceCtorEq]
  refine fcW_int (impl_variable.fc ..) ?_
  simp only [go_sem, ↓reduceIte, Nat.reduceEqDiff, Nat.reduceAdd, Nat.reduceMul, Nat.reduceBEq, Option.getD_none, Int.reduceToNat, Nat.reduceSub, Nat.reduceLT, Nat.reduceLeDiff, Int.reduceLE, Int.reduceLT, reduceCtorEq]
  refine fcW_int (impl_variable.fc ..) ?_
  simp only [go_sem, ↓reduceIte, Nat.reduceEqDiff, Nat.reduceAdd, Nat.reduceMul, Nat.reduceBEq, Option.getD_none, Int.reduceToNat, Nat.reduceSub, Nat.reduceLT, Nat.reduceLeDiff, Int.reduceLE, Int.reduceLT, reduceCtorEq]
theorem varI_in {n : Int} (h : -4294967296 ≤ n ∧ n ≤ 4294967296) : varI n = if n < 0 then -n else n := by
  unfold varI
  rw [neg_in (by omega)]
  split <;> split <;> omega
/-- the place i of a clause -/
def clAt (v : Int) (c : List Int) (i : Nat) : Bool := litB (c.getD i 0) v && !((c.take i).any (· == c.getD i 0)) && !((c.take i).any (· == -(c.getD i 0)))
def clauseB (v : Int) (c : List Int) : Bool := (List.range c.length).all (clAt v c) && decide (c.length ≤ 12)
theorem cl_step {v : Int} {c : List Int} {k : Nat} (h : (List.range k).all (clAt v c) = true) (h2 : clAt v c k = true) : (List.range (k + 1)).all (clAt v c) = true := by
  rw [List.range_succ, List.all_append, h]; simpa using h2
theorem cl_not {v : Int} {c : List Int} {k : Nat} (hk : k < c.length) (h2 : clAt v c k = false) : clauseB v c = false := by
  unfold clauseB
  rw [Bool.and_eq_false_iff]
  refine .inl ?_
  rw [← Bool.not_eq_true, List.all_eq_true]
  intro h
  have := h k (by simpa using hk)
  rw [h2] at this; cases this
theorem cl_lit {v : Int} {c : List Int} {k : Nat} (hk : k ≤ c.length) (h : (List.range k).all (clAt v c) = true) : ∀ x ∈ c.take k, litB x v = true := by
  intro x hx
  rw [List.mem_take_iff_getElem] at hx
  obtain ⟨i, hi, rfl⟩ := hx
  have := List.all_eq_true.1 h i (by simp; omega)
  simp only [clAt, Bool.and_eq_true] at this
  have e : c.getD i 0 = c[i] := by rw [List.getD_eq_getElem?_getD, List.getElem?_eq_getElem (by omega)]; rfl
  rw [← e]; exact this.1.1
theorem cl_var {v x : Int} {l : List Int} (hv : v ≤ 4294967296) (hl : ∀ y ∈ l, litB y v = true) (hx : litB x v = true) : l.any (fun y => varI y == varI x) = (l.any (· == x) || l.any (· == -x)) := by
  have hxi := litB_in hv hx
  rw [Bool.eq_iff_iff, Bool.or_eq_true, List.any_eq_true, List.any_eq_true, List.any_eq_true]
  constructor
  · rintro ⟨y, hy, e⟩
    have hyi := litB_in hv (hl y hy)
    rw [varI_in hyi, varI_in hxi] at e
    have e : (if y < 0 then -y else y) = (if x < 0 then -x else x) := by simpa using e
    by_cases h : y = x
    · exact .inl ⟨y, hy, by simpa using h⟩
    · refine .inr ⟨y, hy, ?_⟩
      have : y = -x := by split at e <;> split at e <;> omega
      simpa using this
  · rintro (⟨y, hy, e⟩ | ⟨y, hy, e⟩)
    · have e : y = x := by simpa using e
      subst e
      exact ⟨y, hy, by simp⟩
    · have e : y = -x := by simpa using e
      subst e
      refine ⟨_, hy, ?_⟩
      rw [varI_in (litB_in hv (hl _ hy)), varI_in hxi]
      simp
      split <;> split <;> omega
theorem spec_l4Clause.fc (v : Int) (c : List Int) (hv : 0 ≤ v ∧ v ≤ 4294967296) (hl : c.length ≤ 4294967296) : FCt prog F_spec_l4Clause [.ro, .ro] [Ii v, ints c] (Bb (clauseB v c)) [] := by
  refine fct_run spec_l4Clause.ok rfl ?_
  simp only [go_sem, ↓reduceIte, Nat.reduceEqDiff, Nat.reduceAdd, Nat.reduceMul, Nat.reduceBEq, Option.getD_none, Int.reduceToNat, Nat.reduceSub, Nat.reduceLT, Nat.reduceLeDiff, Int.reduceLE, Int.reduceLT, reduceCtorEq]
  refine R_loop (α := Nat) (fun k s' M' => k ≤ c.length ∧ s' 9 = aI k ∧ (List.range k).all (clAt v c) = true) (fun k => c.length - k) 0 ⟨by omega, by simp only [go_sem, ↓reduceIte, Nat.reduceEqDiff, Nat.reduceAdd, Nat.reduceMul, Nat.reduceBEq, Option.getD_none, Int.reduceToNat, Nat.reduceSub, Nat.reduceLT, Nat.reduceLeDiff, Int.reduceLE, Int.reduceLT, reduceCtorEq]; rfl, by simp⟩ ?_
  rintro k s' M' ⟨hk, h9, hr⟩ ho
  have h0 : s' 0 = aI v := by rw [ho 0 rfl]; simp only [go_sem, ↓reduceIte, Nat.reduceEqDiff, Nat.reduceAdd, Nat.reduceMul, Nat.reduceBEq, Option.getD_none, Int.reduceToNat, Nat.reduceSub, Nat.reduceLT, Nat.reduceLeDiff, Int.reduceLE, Int.reduceLT, reduceCtorEq]
  have h1 : s' 1 = .dat none (ints c) := by rw [ho 1 rfl]; simp only [go_sem, ↓reduceIte, Nat.reduceEqDiff, Nat.reduceAdd, Nat.reduceMul, Nat.reduceBEq, Option.getD_none, Int.reduceToNat, Nat.reduceSub, Nat.reduceLT, Nat.reduceLeDiff, Int.reduceLE, Int.reduceLT, reduceCtorEq]
  have h7 : s' 7 = .dat none (ints c) := by rw [ho 7 rfl]; simp only [go_sem, ↓reduceIte, Nat.reduceEqDiff, Nat.reduceAdd, Nat.reduceMul, Nat.reduceBEq, Option.getD_none, Int.reduceToNat, Nat.reduceSub, Nat.reduceLT, Nat.reduceLeDiff, Int.reduceLE, Int.reduceLT, reduceCtorEq]
  have h8 : s' 8 = aI c.length := by rw [ho 8 rfl]; simp only [go_sem, ↓reduceIte, Nat.reduceEqDiff, Nat.reduceAdd, Nat.reduceMul, Nat.reduceBEq, Option.getD_none, Int.reduceToNat, Nat.reduceSub, Nat.reduceLT, Nat.reduceLeDiff, Int.reduceLE, Int.reduceLT, reduceCtorEq]
  clear ho
  unfold spec_l4Clause.b0
  have hvw := neg_in (n := v) (by omega)
  by_cases hlt : k < c.length
  · have hi' : (k : Int) < c.length := by omega
    have ga : c[k]? = some c[k] := List.getElem?_eq_getElem hlt
    have hw : IntKind.i64.wrap (k + 1) = ((k + 1 : Nat) : Int) := wrap_k hlt (by omega)
    have gd : c.getD k 0 = c[k] := by rw [List.getD_eq_getElem?_getD, ga]; rfl
    have hle : (k : Int) ≤ c.length := by omega
    simp only [go_sem, ↓reduceIte, Nat.reduceEqDiff, Nat.reduceAdd, Nat.reduceMul, Nat.reduceBEq, Option.getD_none, Int.reduceToNat, Nat.reduceSub, Nat.reduceLT, Nat.reduceLeDiff, Int.reduceLE, Int.reduceLT, reduceCtorEq, hi', ga, h0, h1, h7, h8, h9, hvw]
    cases hz : (c[k] == 0) with
    | true =>
      have hf : clauseB v c = false := cl_not hlt (by simp only [clAt, gd, litB, bne, hz, Bool.not_true, Bool.false_and])
      simp only [go_sem, ↓reduceIte, Nat.reduceEqDiff, Nat.reduceAdd, Nat.reduceMul, Nat.reduceBEq, Option.getD_none, Int.reduceToNat, Nat.reduceSub, Nat.reduceLT, Nat.reduceLeDiff, Int.reduceLE, Int.reduceLT, reduceCtorEq, hz, hf, h0, h1, h7, h8, h9, hvw]
    | false =>
      simp only [go_sem, ↓reduceIte, Nat.reduceEqDiff, Nat.reduceAdd, Nat.reduceMul, Nat.reduceBEq, Option.getD_none, Int.reduceToNat, Nat.reduceSub, Nat.reduceLT, Nat.reduceLeDiff, Int.reduceLE, Int.reduceLT, reduceCtorEq, hz, h0, h1, h7, h8, h9, hvw]
      refine fcW_bool (spec_l1In.fc ..) ?_
      cases hin : inB c[k] (-v) v with
      | false =>
        have hf : clauseB v c = false := cl_not hlt (by simp only [clAt, gd, litB, hin, Bool.and_false, Bool.false_and])
        simp only [go_sem, ↓reduceIte, Nat.reduceEqDiff, Nat.reduceAdd, Nat.reduceMul, Nat.reduceBEq, Option.getD_none, Int.reduceToNat, Nat.reduceSub, Nat.reduceLT, Nat.reduceLeDiff, Int.reduceLE, Int.reduceLT, reduceCtorEq, hf, h0, h1, h7, h8, h9, hvw]
      | true =>
        have hlit : litB c[k] v = true := by simp only [litB, hin, bne, hz]; rfl
        have hxi := litB_in hv.2 hlit
        have hxw := neg_in (n := c[k]) (by omega)
        simp only [go_sem, ↓reduceIte, Nat.reduceEqDiff, Nat.reduceAdd, Nat.reduceMul, Nat.reduceBEq, Option.getD_none, Int.reduceToNat, Nat.reduceSub, Nat.reduceLT, Nat.reduceLeDiff, Int.reduceLE, Int.reduceLT, reduceCtorEq, hle, ← List.map_take, hxw, h0, h1, h7, h8, h9, hvw]
        refine fcW_bool (spec_l1Has.fc (c.take k) _ (by rw [List.length_take]; omega)) ?_
        cases ha : (c.take k).any (· == c[k]) with
        | true =>
          have hf : clauseB v c = false := cl_not hlt (by simp only [clAt, gd, ha, Bool.not_true, Bool.and_false, Bool.false_and])
          simp only [go_sem, ↓reduceIte, Nat.reduceEqDiff, Nat.reduceAdd, Nat.reduceMul, Nat.reduceBEq, Option.getD_none, Int.reduceToNat, Nat.reduceSub, Nat.reduceLT, Nat.reduceLeDiff, Int.reduceLE, Int.reduceLT, reduceCtorEq, hf, h0, h1, h7, h8, h9, hvw]
        | false =>
          simp only [go_sem, ↓reduceIte, Nat.reduceEqDiff, Nat.reduceAdd, Nat.reduceMul, Nat.reduceBEq, Option.getD_none, Int.reduceToNat, Nat.reduceSub, Nat.reduceLT, Nat.reduceLeDiff, Int.reduceLE, Int.reduceLT, reduceCtorEq, hle, ← List.map_take, hxw, h0, h1, h7, h8, h9, hvw]
          refine fcW_bool (spec_l1Has.fc (c.take k) _ (by rw [List.length_take]; omega)) ?_
          cases hb : (c.take k).any (· == -c[k]) with
          | true =>
            have hf : clauseB v c = false := cl_not hlt (by simp only [clAt, gd, hb, Bool.not_true, Bool.and_false])
            simp only [go_sem, ↓reduceIte, Nat.reduceEqDiff, Nat.reduceAdd, Nat.reduceMul, Nat.reduceBEq, Option.getD_none, Int.reduceToNat, Nat.reduceSub, Nat.reduceLT, Nat.reduceLeDiff, Int.reduceLE, Int.reduceLT, reduceCtorEq, hf, h0, h1, h7, h8, h9, hvw]
          | false =>
            simp only [go_sem, ↓reduceIte, Nat.reduceEqDiff, Nat.reduceAdd, Nat.reduceMul, Nat.reduceBEq, Option.getD_none, Int.reduceToNat, Nat.reduceSub, Nat.reduceLT, Nat.reduceLeDiff, Int.reduceLE, Int.reduceLT, reduceCtorEq, hw, h0, h1, h7, h8, h9, hvw]
            exact ⟨k + 1, by dsimp only; omega, by omega, by simp only [go_sem, ↓reduceIte, Nat.reduceEqDiff, Nat.reduceAdd, Nat.reduceMul, Nat.reduceBEq, Option.getD_none, Int.reduceToNat, Nat.reduceSub, Nat.reduceLT, Nat.reduceLeDiff, Int.reduceLE, Int.reduceLT, reduceCtorEq, h0, h1, h7, h8, h9, hvw], cl_step hr (by simp only [clAt, gd, hlit, ha, hb]; rfl)⟩
  · have hi' : ¬ (k : Int) < c.length := by omega
    have hkl : k = c.length := by omega
    subst hkl
    have hf : clauseB v c = decide ((c.length : Int) ≤ 12) := by
      simp only [clauseB, hr, Bool.true_and]
      exact decide_eq_decide.2 (by omega)
    simp only [go_sem, ↓reduceIte, Nat.reduceEqDiff, Nat.reduceAdd, Nat.reduceMul, Nat.reduceBEq, Option.getD_none, Int.reduceToNat, Nat.reduceSub, Nat.reduceLT, Nat.reduceLeDiff, Int.reduceLE, Int.reduceLT, reduceCtorEq, hi', hf, h0, h1, h7, h8, h9, hvw]
theorem impl_isClause.fc (c : List Int) (v : Int) (hv : 0 ≤ v ∧ v ≤ 4294967296) (hl : c.length ≤ 4294967296) : FCt prog F_impl_isClause [.ro, .ro] [ints c, Ii v] (Bb (clauseB v c)) [] := by
  refine fct_run impl_isClause.ok rfl ?_
  simp only [go_sem, ↓reduceIte, Nat.reduceEqDiff, Nat.reduceAdd, Nat.reduceMul, Nat.reduceBEq, Option.getD_none, Int.reduceToNat, Nat.reduceSub, Nat.reduceLT, Nat.reduceLeDiff, Int.reduceLE, Int.reduceLT, reduceCtorEq]
  refine R_loop (α := Nat) (fun k s' M' => k ≤ c.length ∧ s' 9 = aI k ∧ (List.range k).all (clAt v c) = true) (fun k => c.length - k) 0 ⟨by omega, by simp only [go_sem, ↓reduceIte, Nat.reduceEqDiff, Nat.reduceAdd, Nat.reduceMul, Nat.reduceBEq, Option.getD_none, Int.reduceToNat, Nat.reduceSub, Nat.reduceLT, Nat.reduceLeDiff, Int.reduceLE, Int.reduceLT, reduceCtorEq]; rfl, by simp⟩ ?_
  rintro k s' M' ⟨hk, h9, hr⟩ ho
  have h0 : s' 0 = .dat none (ints c) := by rw [ho 0 rfl]; simp only [go_sem, ↓reduceIte, Nat.reduceEqDiff, Nat.reduceAdd, Nat.reduceMul, Nat.reduceBEq, Option.getD_none, Int.reduceToNat, Nat.reduceSub, Nat.reduceLT, Nat.reduceLeDiff, Int.reduceLE, Int.reduceLT, reduceCtorEq]
  have h1 : s' 1 = aI v := by rw [ho 1 rfl]; simp only [go_sem, ↓reduceIte, Nat.reduceEqDiff, Nat.reduceAdd, Nat.reduceMul, Nat.reduceBEq, Option.getD_none, Int.reduceToNat, Nat.reduceSub, Nat.reduceLT, Nat.reduceLeDiff, Int.reduceLE, Int.reduceLT, reduceCtorEq]
  have h7 : s' 7 = .dat none (ints c) := by rw [ho 7 rfl]; simp only [go_sem, ↓reduceIte, Nat.reduceEqDiff, Nat.reduceAdd, Nat.reduceMul, Nat.reduceBEq, Option.getD_none, Int.reduceToNat, Nat.reduceSub, Nat.reduceLT, Nat.reduceLeDiff, Int.reduceLE, Int.reduceLT, reduceCtorEq]
  have h8 : s' 8 = aI c.length := by rw [ho 8 rfl]; simp only [go_sem, ↓reduceIte, Nat.reduceEqDiff, Nat.reduceAdd, Nat.reduceMul, Nat.reduceBEq, Option.getD_none, Int.reduceToNat, Nat.reduceSub, Nat.reduceLT, Nat.reduceLeDiff, Int.reduceLE, Int.reduceLT, reduceCtorEq]
  clear ho
  unfold impl_isClause.b0
  by_cases hlt : k < c.length
  · have hi' : (k : Int) < c.length := by omega
    have ga : c[k]? = some c[k] := List.getElem?_eq_getElem hlt
    have hw : IntKind.i64.wrap (k + 1) = ((k + 1 : Nat) : Int) := wrap_k hlt (by omega)
    have gd : c.getD k 0 = c[k] := by rw [List.getD_eq_getElem?_getD, ga]; rfl
    have hle : (k : Int) ≤ c.length := by omega
    simp only [go_sem, ↓reduceIte, Nat.reduceEqDiff, Nat.reduceAdd, Nat.reduceMul, Nat.reduceBEq, Option.getD_none, Int.reduceToNat, Nat.reduceSub, Nat.reduceLT, Nat.reduceLeDiff, Int.reduceLE, Int.reduceLT, reduceCtorEq, hi', ga, h0, h1, h7, h8, h9]
    refine fcW_bool (impl_isLiteral.fc _ _ hv) ?_
    cases hlit : litB c[k] v with
    | false =>
      have hf : clauseB v c = false := cl_not hlt (by simp only [clAt, gd, hlit, Bool.false_and])
      simp only [go_sem, ↓reduceIte, Nat.reduceEqDiff, Nat.reduceAdd, Nat.reduceMul, Nat.reduceBEq, Option.getD_none, Int.reduceToNat, Nat.reduceSub, Nat.reduceLT, Nat.reduceLeDiff, Int.reduceLE, Int.reduceLT, reduceCtorEq, hf, h0, h1, h7, h8, h9]
    | true =>
      simp only [go_sem, ↓reduceIte, Nat.reduceEqDiff, Nat.reduceAdd, Nat.reduceMul, Nat.reduceBEq, Option.getD_none, Int.reduceToNat, Nat.reduceSub, Nat.reduceLT, Nat.reduceLeDiff, Int.reduceLE, Int.reduceLT, reduceCtorEq, hle, ← List.map_take, h0, h1, h7, h8, h9]
      refine fcW_bool (slices_ContainsFunc__sint_int.fc (c.take k) F_impl_isClause_c1 [.ptr (Ii c[k])] (fun y => varI y == varI c[k]) (by rw [List.length_take]; omega) (fun x _ => impl_isClause_c1.fc x c[k])) ?_
      rw [cl_var hv.2 (cl_lit hk hr) hlit]
      cases ha : (c.take k).any (· == c[k]) with
      | true =>
        have hf : clauseB v c = false := cl_not hlt (by simp only [clAt, gd, ha, Bool.not_true, Bool.and_false, Bool.false_and])
        simp only [go_sem, ↓reduceIte, Nat.reduceEqDiff, Nat.reduceAdd, Nat.reduceMul, Nat.reduceBEq, Option.getD_none, Int.reduceToNat, Nat.reduceSub, Nat.reduceLT, Nat.reduceLeDiff, Int.reduceLE, Int.reduceLT, reduceCtorEq, hf, h0, h1, h7, h8, h9]
      | false =>
        cases hb : (c.take k).any (· == -c[k]) with
        | true =>
          have hf : clauseB v c = false := cl_not hlt (by simp only [clAt, gd, hb, Bool.not_true, Bool.and_false])
          simp only [go_sem, ↓reduceIte, Nat.reduceEqDiff, Nat.reduceAdd, Nat.reduceMul, Nat.reduceBEq, Option.getD_none, Int.reduceToNat, Nat.reduceSub, Nat.reduceLT, Nat.reduceLeDiff, Int.reduceLE, Int.reduceLT, reduceCtorEq, hf, h0, h1, h7, h8, h9]
        | false =>
          simp only [go_sem, ↓reduceIte, Nat.reduceEqDiff, Nat.reduceAdd, Nat.reduceMul, Nat.reduceBEq, Option.getD_none, Int.reduceToNat, Nat.reduceSub, Nat.reduceLT, Nat.reduceLeDiff, Int.reduceLE, Int.reduceLT, reduceCtorEq, hw, h0, h1, h7, h8, h9]
          exact ⟨k + 1, by dsimp only; omega, by omega, by simp only [go_sem, ↓reduceIte, Nat.reduceEqDiff, Nat.reduceAdd, Nat.reduceMul, Nat.reduceBEq, Option.getD_none, Int.reduceToNat, Nat.reduceSub, Nat.reduceLT, Nat.reduceLeDiff, Int.reduceLE, Int.reduceLT, reduceCtorEq, h0, h1, h7, h8, h9], cl_step hr (by simp only [clAt, gd, hlit, ha, hb]; rfl)⟩
  · have hi' : ¬ (k : Int) < c.length := by omega
    have hkl : k = c.length := by omega
    subst hkl
    have hf : clauseB v c = decide ((c.length : Int) ≤ 12) := by
      simp only [clauseB, hr, Bool.true_and]
      exact decide_eq_decide.2 (by omega)
    simp only [go_sem, ↓reduceIte, Nat.reduceEqDiff, Nat.reduceAdd, Nat.reduceMul, Nat.reduceBEq, Option.getD_none, Int.reduceToNat, Nat.reduceSub, Nat.reduceLT, Nat.reduceLeDiff, Int.reduceLE, Int.reduceLT, reduceCtorEq, hi', hf, h0, h1, h7, h8, h9]
theorem impl_areClauses_c1.fc (c : List Int) (v : Int) (hv : 0 ≤ v ∧ v ≤ 4294967296) (hl : c.length ≤ 4294967296) : FCt prog F_impl_areClauses_c1 [.ro, .ro] [ints c, .ptr (Ii v)] (Bb (!clauseB v c)) [] := by
  refine fct_run impl_areClauses_c1.ok rfl ?_
  simp only [go_sem, ↓reduceIte, Nat.reduceEqDiff, Nat.reduceAdd, Nat.reduceMul, Nat.reduceBEq, Option.getD_none, Int.reduceToNat, Nat.reduceSub, Nat.reduceLT, Nat.reduceLeDiff, Int.reduceLE, Int.reduceLT, reduceCtorEq]
  refine fcW_bool (impl_isClause.fc _ _ hv hl) ?_
  simp only [go_sem, ↓reduceIte, Nat.reduceEqDiff, Nat.reduceAdd, Nat.reduceMul, Nat.reduceBEq, Option.getD_none, Int.reduceToNat, Nat.reduceSub, Nat.reduceLT, Nat.reduceLeDiff, Int.reduceLE, Int.reduceLT, reduceCtorEq]
theorem any_not_all {α : Type} {p : α → Bool} : ∀ {l : List α}, l.any (fun x => !p x) = !l.all p
  | [] => rfl
  | x :: l => by simp only [List.any_cons, List.all_cons, any_not_all (l := l), Bool.not_and]
theorem impl_areClauses.fc (l : List (List Int)) (v : Int) (hv : 0 ≤ v ∧ v ≤ 4294967296) (hl : l.length ≤ 4294967296) (hr : ∀ c ∈ l, c.length ≤ 4294967296) : FCt prog F_impl_areClauses [.ro, .ro] [intss l, Ii v] (Bb (l.all (clauseB v))) [] := by
  refine fct_run impl_areClauses.ok rfl ?_
  simp only [go_sem, ↓reduceIte, Nat.reduceEqDiff, Nat.reduceAdd, Nat.reduceMul, Nat.reduceBEq, Option.getD_none, Int.reduceToNat, Nat.reduceSub, Nat.reduceLT, Nat.reduceLeDiff, Int.reduceLE, Int.reduceLT, reduceCtorEq]
  refine fcW_bool (slices_ContainsFunc__ssint_sint.fc l F_impl_areClauses_c1 [.ptr (Ii v)] (fun c => !clauseB v c) hl (fun c hc => impl_areClauses_c1.fc c v hv (hr c hc))) ?_
  simp only [go_sem, ↓reduceIte, Nat.reduceEqDiff, Nat.reduceAdd, Nat.reduceMul, Nat.reduceBEq, Option.getD_none, Int.reduceToNat, Nat.reduceSub, Nat.reduceLT, Nat.reduceLeDiff, Int.reduceLE, Int.reduceLT, reduceCtorEq, any_not_all, Bool.not_not]
def goodC (v : Int) (l : List (List Int)) : Bool := inB v 0 12 && decide (l.length ≤ 60) && l.all (clauseB v)
theorem impl_GoodClauses.fc (v : Int) (l : List (List Int)) (hl : l.length ≤ 4294967296) (hr : ∀ c ∈ l, c.length ≤ 4294967296) : FCt prog F_impl_GoodClauses [.ro, .ro] [Ii v, intss l] (Bb (goodC v l)) [] := by
  refine fct_run impl_GoodClauses.ok rfl ?_
  unfold goodC
  simp only [go_sem, ↓reduceIte, Nat.reduceEqDiff, Nat.reduceAdd, Nat.reduceMul, Nat.reduceBEq, Option.getD_none, Int.reduceToNat, Nat.reduceSub, Nat.reduceLT, Nat.reduceLeDiff, Int.reduceLE, Int.reduceLT, reduceCtorEq]
  refine fcW_bool (impl_in.fc ..) ?_
  cases hin : inB v 0 12
  · simp only [go_sem, ↓reduceIte, Nat.reduceEqDiff, Nat.reduceAdd, Nat.reduceMul, Nat.reduceBEq, Option.getD_none, Int.reduceToNat, Nat.reduceSub, Nat.reduceLT, Nat.reduceLeDiff, Int.reduceLE, Int.reduceLT, reduceCtorEq]
  · have hv : 0 ≤ v ∧ v ≤ 4294967296 := by simp only [inB, Bool.and_eq_true, decide_eq_true_eq] at hin; omega
    by_cases h2 : l.length ≤ 60
    · have h2' : (l.length : Int) ≤ 60 := by omega
      simp only [go_sem, ↓reduceIte, Nat.reduceEqDiff, Nat.reduceAdd, Nat.reduceMul, Nat.reduceBEq, Option.getD_none, Int.reduceToNat, Nat.reduceSub, Nat.reduceLT, Nat.reduceLeDiff, Int.reduceLE, Int.reduceLT, reduceCtorEq, h2, h2']
      refine fcW_bool (impl_areClauses.fc _ _ hv hl hr) ?_
      simp only [go_sem, ↓reduceIte, Nat.reduceEqDiff, Nat.reduceAdd, Nat.reduceMul, Nat.reduceBEq, Option.getD_none, Int.reduceToNat, Nat.reduceSub, Nat.reduceLT, Nat.reduceLeDiff, Int.reduceLE, Int.reduceLT, reduceCtorEq, h2]
    · have h2' : ¬ (l.length : Int) ≤ 60 := by omega
      simp only [go_sem, ↓reduceIte, Nat.reduceEqDiff, Nat.reduceAdd, Nat.reduceMul, Nat.reduceBEq, Option.getD_none, Int.reduceToNat, Nat.reduceSub, Nat.reduceLT, Nat.reduceLeDiff, Int.reduceLE, Int.reduceLT, reduceCtorEq, h2, h2']
theorem spec_l4Good.fc (v : Int) (l : List (List Int)) (m : Int) (hl : l.length ≤ 4294967296) (hr : ∀ c ∈ l, c.length ≤ 4294967296) : FCt prog F_spec_l4Good [.ro, .ro, .ro] [Ii v, intss l, Ii m] (Bb (inB v 0 12 && decide ((l.length : Int) ≤ m) && l.all (clauseB v))) [] := by
  refine fct_run spec_l4Good.ok rfl ?_
  simp only [go_sem, ↓reduceIte, Nat.reduceEqDiff, Nat.reduceAdd, Nat.reduceMul, Nat.reduceBEq, Option.getD_none, Int.reduceToNat, Nat.reduceSub, Nat.reduceLT, Nat.reduceLeDiff, Int.reduceLE, Int.reduceLT, reduceCtorEq]
  refine fcW_bool (spec_l1In.fc ..) ?_
  cases hin : inB v 0 12
  · simp only [go_sem, ↓reduceIte, Nat.reduceEqDiff, Nat.reduceAdd, Nat.reduceMul, Nat.reduceBEq, Option.getD_none, Int.reduceToNat, Nat.reduceSub, Nat.reduceLT, Nat.reduceLeDiff, Int.reduceLE, Int.reduceLT, reduceCtorEq]
  · have hv : 0 ≤ v ∧ v ≤ 4294967296 := by simp only [inB, Bool.and_eq_true, decide_eq_true_eq] at hin; omega
    by_cases h2 : (l.length : Int) > m
    · have h2' : ¬ (l.length : Int) ≤ m := by omega
      simp only [go_sem, ↓reduceIte, Nat.reduceEqDiff, Nat.reduceAdd, Nat.reduceMul, Nat.reduceBEq, Option.getD_none, Int.reduceToNat, Nat.reduceSub, Nat.reduceLT, Nat.reduceLeDiff, Int.reduceLE, Int.reduceLT, reduceCtorEq, h2, h2']
    · have h2' : (l.length : Int) ≤ m := by omega
      simp only [go_sem, ↓reduceIte, Nat.reduceEqDiff, Nat.reduceAdd, Nat.reduceMul, Nat.reduceBEq, Option.getD_none, Int.reduceToNat, Nat.reduceSub, Nat.reduceLT, Nat.reduceLeDiff, Int.reduceLE, Int.reduceLT, reduceCtorEq, h2, h2']
      refine R_loop (α := Nat) (fun k s' M' => k ≤ l.length ∧ s' 20 = aI k ∧ (l.take k).all (clauseB v) = true) (fun k => l.length - k) 0 ⟨by omega, by simp only [go_sem, ↓reduceIte, Nat.reduceEqDiff, Nat.reduceAdd, Nat.reduceMul, Nat.reduceBEq, Option.getD_none, Int.reduceToNat, Nat.reduceSub, Nat.reduceLT, Nat.reduceLeDiff, Int.reduceLE, Int.reduceLT, reduceCtorEq]; rfl, by simp⟩ ?_
      rintro k s' M' ⟨hk, h20, hrr⟩ ho
      have h0 : s' 0 = aI v := by rw [ho 0 rfl]; simp only [go_sem, ↓reduceIte, Nat.reduceEqDiff, Nat.reduceAdd, Nat.reduceMul, Nat.reduceBEq, Option.getD_none, Int.reduceToNat, Nat.reduceSub, Nat.reduceLT, Nat.reduceLeDiff, Int.reduceLE, Int.reduceLT, reduceCtorEq]
      have h18 : s' 18 = .dat none (intss l) := by rw [ho 18 rfl]; simp only [go_sem, ↓reduceIte, Nat.reduceEqDiff, Nat.reduceAdd, Nat.reduceMul, Nat.reduceBEq, Option.getD_none, Int.reduceToNat, Nat.reduceSub, Nat.reduceLT, Nat.reduceLeDiff, Int.reduceLE, Int.reduceLT, reduceCtorEq]
      have h19 : s' 19 = aI l.length := by rw [ho 19 rfl]; simp only [go_sem, ↓reduceIte, Nat.reduceEqDiff, Nat.reduceAdd, Nat.reduceMul, Nat.reduceBEq, Option.getD_none, Int.reduceToNat, Nat.reduceSub, Nat.reduceLT, Nat.reduceLeDiff, Int.reduceLE, Int.reduceLT, reduceCtorEq]
      clear ho
      unfold spec_l4Good.b0
      by_cases hlt : k < l.length
      · have hi' : (k : Int) < l.length := by omega
        have ga : l[k]? = some l[k] := List.getElem?_eq_getElem hlt
        have hw : IntKind.i64.wrap (k + 1) = ((k + 1 : Nat) : Int) := wrap_k hlt (by omega)
        simp only [go_sem, ↓reduceIte, Nat.reduceEqDiff, Nat.reduceAdd, Nat.reduceMul, Nat.reduceBEq, Option.getD_none, Int.reduceToNat, Nat.reduceSub, Nat.reduceLT, Nat.reduceLeDiff, Int.reduceLE, Int.reduceLT, reduceCtorEq, hi', ga, h0, h18, h19, h20]
        refine fcW_bool (spec_l4Clause.fc _ _ hv (hr _ (List.getElem_mem hlt))) ?_
        cases hc : clauseB v l[k] with
        | false => simp only [go_sem, ↓reduceIte, Nat.reduceEqDiff, Nat.reduceAdd, Nat.reduceMul, Nat.reduceBEq, Option.getD_none, Int.reduceToNat, Nat.reduceSub, Nat.reduceLT, Nat.reduceLeDiff, Int.reduceLE, Int.reduceLT, reduceCtorEq, not_all hlt hc, h0, h18, h19, h20]
        | true =>
          simp only [go_sem, ↓reduceIte, Nat.reduceEqDiff, Nat.reduceAdd, Nat.reduceMul, Nat.reduceBEq, Option.getD_none, Int.reduceToNat, Nat.reduceSub, Nat.reduceLT, Nat.reduceLeDiff, Int.reduceLE, Int.reduceLT, reduceCtorEq, hw, h0, h18, h19, h20]
          exact ⟨k + 1, by dsimp only; omega, by omega, by simp only [go_sem, ↓reduceIte, Nat.reduceEqDiff, Nat.reduceAdd, Nat.reduceMul, Nat.reduceBEq, Option.getD_none, Int.reduceToNat, Nat.reduceSub, Nat.reduceLT, Nat.reduceLeDiff, Int.reduceLE, Int.reduceLT, reduceCtorEq, h0, h18, h19, h20], all_take hlt hrr hc⟩
      · have hi' : ¬ (k : Int) < l.length := by omega
        rw [List.take_of_length_le (by omega)] at hrr
        simp only [go_sem, ↓reduceIte, Nat.reduceEqDiff, Nat.reduceAdd, Nat.reduceMul, Nat.reduceBEq, Option.getD_none, Int.reduceToNat, Nat.reduceSub, Nat.reduceLT, Nat.reduceLeDiff, Int.reduceLE, Int.reduceLT, reduceCtorEq, hi', hrr, h2', h0, h18, h19, h20]
theorem spec_GoodClauses.fc (v : Int) (l : List (List Int)) (hl : l.length ≤ 4294967296) (hr : ∀ c ∈ l, c.length ≤ 4294967296) : FCt prog F_spec_GoodClauses [.ro, .ro] [Ii v, intss l] (Bb (goodC v l)) [] := by
  refine fct_run spec_GoodClauses.ok rfl ?_
  have : goodC v l = (inB v 0 12 && decide ((l.length : Int) ≤ 60) && l.all (clauseB v)) := by
    unfold goodC
    rw [show decide (l.length ≤ 60) = decide ((l.length : Int) ≤ 60) from decide_eq_decide.2 (by omega)]
  simp only [go_sem, ↓reduceIte, Nat.reduceEqDiff, Nat.reduceAdd, Nat.reduceMul, Nat.reduceBEq, Option.getD_none, Int.reduceToNat, Nat.reduceSub, Nat.reduceLT, Nat.reduceLeDiff, Int.reduceLE, Int.reduceLT, reduceCtorEq]
  refine fcW_bool (spec_l4Good.fc _ _ _ hl hr) ?_
  simp only [go_sem, ↓reduceIte, Nat.reduceEqDiff, Nat.reduceAdd, Nat.reduceMul, Nat.reduceBEq, Option.getD_none, Int.reduceToNat, Nat.reduceSub, Nat.reduceLT, Nat.reduceLeDiff, Int.reduceLE, Int.reduceLT, reduceCtorEq, this]
end Go.Vm.Ytdebllkmblakkaa
/- Walks: rules as clauses. -/
namespace Go.Vm.Ytdebllkmblakkaa
open Go Go.Vm
set_option maxRecDepth 10000
set_option maxHeartbeats 4000000
set_option linter.unusedSimpArgs false
set_option linter.unusedVariables false

theorem slices_Index__sint_int.fc (l : List Int) (x : Int) (hl : l.length ≤ 4294967296) : FCt prog F_slices_Index__sint_int [.ro, .ro] [ints l, Ii x] (Ii (idxB (fun y => x == y) l)) [] := by
  refine fct_run slices_Index__sint_int.ok rfl ?_
  simp only [go_sem, ↓reduceIte, Nat.reduceEqDiff, Nat.reduceAdd, Nat.reduceMul, Nat.reduceBEq, Option.getD_none, Int.reduceToNat, Nat.reduceSub, Nat.reduceLT, Nat.reduceLeDiff, Int.reduceLE, Int.reduceLT, reduceCtorEq]
  refine R_loop (α := Nat) (fun k s' M' => k ≤ l.length ∧ s' 8 = aI k ∧ (l.take k).all (fun y => !(x == y)) = true) (fun k => l.length - k) 0 ⟨by omega, by simp only [go_sem, ↓reduceIte, Nat.reduceEqDiff, Nat.reduceAdd, Nat.reduceMul, Nat.reduceBEq, Option.getD_none, Int.reduceToNat, Nat.reduceSub, Nat.reduceLT, Nat.reduceLeDiff, Int.reduceLE, Int.reduceLT, reduceCtorEq]; rfl, by simp⟩ ?_
  rintro k s' M' ⟨hk, h8, hr⟩ ho
  unfold slices_Index__sint_int.b0
  have k0 : s' 0 = .dat none (ints l) := by rw [ho 0 rfl]; simp only [go_sem, ↓reduceIte, Nat.reduceEqDiff, Nat.reduceAdd, Nat.reduceMul, Nat.reduceBEq, Option.getD_none, Int.reduceToNat, Nat.reduceSub, Nat.reduceLT, Nat.reduceLeDiff, Int.reduceLE, Int.reduceLT, reduceCtorEq]
  have k1 : s' 1 = aI x := by rw [ho 1 rfl]; simp only [go_sem, ↓reduceIte, Nat.reduceEqDiff, Nat.reduceAdd, Nat.reduceMul, Nat.reduceBEq, Option.getD_none, Int.reduceToNat, Nat.reduceSub, Nat.reduceLT, Nat.reduceLeDiff, Int.reduceLE, Int.reduceLT, reduceCtorEq]
  have k7 : s' 7 = aI l.length := by rw [ho 7 rfl]; simp only [go_sem, ↓reduceIte, Nat.reduceEqDiff, Nat.reduceAdd, Nat.reduceMul, Nat.reduceBEq, Option.getD_none, Int.reduceToNat, Nat.reduceSub, Nat.reduceLT, Nat.reduceLeDiff, Int.reduceLE, Int.reduceLT, reduceCtorEq]
  clear ho
  by_cases hlt : k < l.length
  · have hi' : (k : Int) < l.length := by omega
    have ga : l[k]? = some l[k] := List.getElem?_eq_getElem hlt
    have hw : IntKind.i64.wrap (k + 1) = ((k + 1 : Nat) : Int) := wrap_k hlt (by omega)
    simp only [go_sem, ↓reduceIte, Nat.reduceEqDiff, Nat.reduceAdd, Nat.reduceMul, Nat.reduceBEq, Option.getD_none, Int.reduceToNat, Nat.reduceSub, Nat.reduceLT, Nat.reduceLeDiff, Int.reduceLE, Int.reduceLT, reduceCtorEq, hi', ga, k0, k1, k7, h8]
    cases hc : (x == l[k]) with
    | true => simp only [go_sem, ↓reduceIte, Nat.reduceEqDiff, Nat.reduceAdd, Nat.reduceMul, Nat.reduceBEq, Option.getD_none, Int.reduceToNat, Nat.reduceSub, Nat.reduceLT, Nat.reduceLeDiff, Int.reduceLE, Int.reduceLT, reduceCtorEq, idxB_some (p := fun y => x == y) hlt hr hc, k0, k1, k7, h8]
    | false =>
      simp only [go_sem, ↓reduceIte, Nat.reduceEqDiff, Nat.reduceAdd, Nat.reduceMul, Nat.reduceBEq, Option.getD_none, Int.reduceToNat, Nat.reduceSub, Nat.reduceLT, Nat.reduceLeDiff, Int.reduceLE, Int.reduceLT, reduceCtorEq, hw, k0, k1, k7, h8]
      exact ⟨k + 1, by dsimp only; omega, by omega, by simp only [go_sem, ↓reduceIte, Nat.reduceEqDiff, Nat.reduceAdd, Nat.reduceMul, Nat.reduceBEq, Option.getD_none, Int.reduceToNat, Nat.reduceSub, Nat.reduceLT, Nat.reduceLeDiff, Int.reduceLE, Int.reduceLT, reduceCtorEq, k0, k1, k7, h8], all_take hlt hr (by rw [hc]; rfl)⟩
  · have hi' : ¬ (k : Int) < l.length := by omega
    obtain rfl : k = l.length := by omega
    rw [List.take_length] at hr
    simp only [go_sem, ↓reduceIte, Nat.reduceEqDiff, Nat.reduceAdd, Nat.reduceMul, Nat.reduceBEq, Option.getD_none, Int.reduceToNat, Nat.reduceSub, Nat.reduceLT, Nat.reduceLeDiff, Int.reduceLE, Int.reduceLT, reduceCtorEq, hi', idxB_none hr, k0, k1, k7, h8]
theorem slices_Contains__sint_int.fc (l : List Int) (x : Int) (hl : l.length ≤ 4294967296) : FCt prog F_slices_Contains__sint_int [.ro, .ro] [ints l, Ii x] (Bb (l.any (· == x))) [] := by
  refine fct_run slices_Contains__sint_int.ok rfl ?_
  have e : l.any (fun y => x == y) = l.any (· == x) := by congr 1; funext y; rw [Bool.beq_comm]
  simp only [go_sem, ↓reduceIte, Nat.reduceEqDiff, Nat.reduceAdd, Nat.reduceMul, Nat.reduceBEq, Option.getD_none, Int.reduceToNat, Nat.reduceSub, Nat.reduceLT, Nat.reduceLeDiff, Int.reduceLE, Int.reduceLT, reduceCtorEq]
  refine fcW_int (slices_Index__sint_int.fc l x hl) ?_
  simp only [go_sem, ↓reduceIte, Nat.reduceEqDiff, Nat.reduceAdd, Nat.reduceMul, Nat.reduceBEq, Option.getD_none, Int.reduceToNat, Nat.reduceSub, Nat.reduceLT, Nat.reduceLeDiff, Int.reduceLE, Int.reduceLT, reduceCtorEq, ge_iff_le, idxB_any, e]

theorem filter_step {α : Type} {p : α → Bool} {l : List α} {k : Nat} (h : k < l.length) : (l.take (k + 1)).filter p = (l.take k).filter p ++ (if p l[k] then [l[k]] else []) := by
  rw [take_succ' h, List.filter_append]
  simp only [List.filter_cons, List.filter_nil]
theorem filter_few {α : Type} {p : α → Bool} {l : List α} {k : Nat} : ((l.take k).filter p).length ≤ k := Nat.le_trans (List.length_filter_le _ _) (by rw [List.length_take]; omega)
end Go.Vm.Ytdebllkmblakkaa
/- Walks: copies, and what is struck out of a row. -/
namespace Go.Vm.Ytdebllkmblakkaa
open Go Go.Vm
set_option maxRecDepth 10000
set_option maxHeartbeats 4000000
set_option linter.unusedSimpArgs false
set_option linter.unusedVariables false

theorem slices_DeleteFunc__sint_int.fc (l : List Int) (f : FuncId) (caps : List D) (p : Int → Bool) (hl : l.length ≤ 4294967296)
    (h : ∀ x ∈ l, FCt prog f (.ro :: caps.map fun _ => .ro) (Ii x :: caps) (Bb (p x)) []) : FCt prog F_slices_DeleteFunc__sint_int [.co, .ro] [ints l, .clo f caps] (ints (l.filter fun x => !p x)) [] := by
  refine fct_run slices_DeleteFunc__sint_int.ok rfl ?_
  simp only [go_sem, ↓reduceIte, Nat.reduceEqDiff, Nat.reduceAdd, Nat.reduceMul, Nat.reduceBEq, Option.getD_none, Int.reduceToNat, Nat.reduceSub, Nat.reduceLT, Nat.reduceLeDiff, Int.reduceLE, Int.reduceLT, reduceCtorEq, take_map_len]
  refine fcW_int (slices_IndexFunc__sint_int.fc l f caps p hl h) ?_
  cases hc : l.findIdx? p with
  | none =>
    have e : idxB p l = -1 := by unfold idxB; rw [hc]
    have hf : l.filter (fun x => !p x) = l := List.filter_eq_self.2 fun x hx => by simpa using List.findIdx?_eq_none_iff.1 hc x hx
    simp only [go_sem, ↓reduceIte, Nat.reduceEqDiff, Nat.reduceAdd, Nat.reduceMul, Nat.reduceBEq, Option.getD_none, Int.reduceToNat, Nat.reduceSub, Nat.reduceLT, Nat.reduceLeDiff, Int.reduceLE, Int.reduceLT, reduceCtorEq, e, take_map_len, hf]
  | some i0 =>
    have e : idxB p l = (i0 : Int) := by unfold idxB; rw [hc]
    rw [List.findIdx?_eq_some_iff_getElem] at hc
    obtain ⟨hi0, hp0, hlt0⟩ := hc
    have hne : ((i0 : Int) == -1) = false := by rw [beq_eq_false_iff_ne]; omega
    have hw0 : IntKind.i64.wrap ((i0 : Int) + 1) = ((i0 + 1 : Nat) : Int) := by rw [wrap_in (by omega) (by omega)]; omega
    have hf0 : (l.take (i0 + 1)).filter (fun x => !p x) = l.take i0 := by
      rw [take_succ' hi0, List.filter_append]
      have h1 : (l.take i0).filter (fun x => !p x) = l.take i0 := List.filter_eq_self.2 fun x hx => by
        rw [List.mem_take_iff_getElem] at hx
        obtain ⟨j, hj, rfl⟩ := hx
        simpa using hlt0 j (by omega)
      simp [h1, hp0]
    simp only [go_sem, ↓reduceIte, Nat.reduceEqDiff, Nat.reduceAdd, Nat.reduceMul, Nat.reduceBEq, Option.getD_none, Int.reduceToNat, Nat.reduceSub, Nat.reduceLT, Nat.reduceLeDiff, Int.reduceLE, Int.reduceLT, reduceCtorEq, e, hne, hw0]
    refine R_cut (fun ex s' M' => ex = .ex 0 ∧ ∃ cur : List Int, cur.length = l.length ∧ s' 5 = aI (l.filter fun x => !p x).length ∧ cur.take (l.filter fun x => !p x).length = (l.filter fun x => !p x) ∧ (l.filter fun x => !p x).length < l.length ∧ M'.m 0 = some (.arr 0 true 1 (cur.map Ii))) ?_ ?_
    · refine R_loop (α := Nat × List Int) (fun a s' M' => a.1 ≤ l.length ∧ s' 6 = aI a.1 ∧ s' 5 = aI ((l.take a.1).filter fun x => !p x).length ∧ ((l.take a.1).filter fun x => !p x).length < a.1 ∧ a.2.length = l.length ∧
          a.2.take ((l.take a.1).filter fun x => !p x).length = ((l.take a.1).filter fun x => !p x) ∧ a.2.drop a.1 = l.drop a.1 ∧ M'.m 0 = some (.arr 0 true 1 (a.2.map Ii))) (fun a => l.length - a.1) (i0 + 1, l)
        ⟨by dsimp only; omega, by simp only [go_sem, ↓reduceIte, Nat.reduceEqDiff, Nat.reduceAdd, Nat.reduceMul, Nat.reduceBEq, Option.getD_none, Int.reduceToNat, Nat.reduceSub, Nat.reduceLT, Nat.reduceLeDiff, Int.reduceLE, Int.reduceLT, reduceCtorEq], by dsimp only; rw [hf0, List.length_take, Nat.min_eq_left (by omega)]; simp only [go_sem, ↓reduceIte, Nat.reduceEqDiff, Nat.reduceAdd, Nat.reduceMul, Nat.reduceBEq, Option.getD_none, Int.reduceToNat, Nat.reduceSub, Nat.reduceLT, Nat.reduceLeDiff, Int.reduceLE, Int.reduceLT, reduceCtorEq], by dsimp only; rw [hf0, List.length_take]; omega, rfl, by dsimp only; rw [hf0, List.length_take, Nat.min_eq_left (by omega)], rfl, by simp only [go_sem, ↓reduceIte, Nat.reduceEqDiff, Nat.reduceAdd, Nat.reduceMul, Nat.reduceBEq, Option.getD_none, Int.reduceToNat, Nat.reduceSub, Nat.reduceLT, Nat.reduceLeDiff, Int.reduceLE, Int.reduceLT, reduceCtorEq]⟩ ?_
      rintro ⟨k, cur⟩ s' M' ⟨hk, h6, h5, hik, hcl, hct, hcd, hm⟩ ho
      dsimp only at hk h6 h5 hik hcl hct hcd hm
      unfold slices_DeleteFunc__sint_int.b0
      have k0 : s' 0 = .sl 0 0 0 l.length 1 := by rw [ho 0 rfl]; simp only [go_sem, ↓reduceIte, Nat.reduceEqDiff, Nat.reduceAdd, Nat.reduceMul, Nat.reduceBEq, Option.getD_none, Int.reduceToNat, Nat.reduceSub, Nat.reduceLT, Nat.reduceLeDiff, Int.reduceLE, Int.reduceLT, reduceCtorEq]
      have k1 : s' 1 = .clo f (caps.map bindC) := by rw [ho 1 rfl]; simp only [go_sem, ↓reduceIte, Nat.reduceEqDiff, Nat.reduceAdd, Nat.reduceMul, Nat.reduceBEq, Option.getD_none, Int.reduceToNat, Nat.reduceSub, Nat.reduceLT, Nat.reduceLeDiff, Int.reduceLE, Int.reduceLT, reduceCtorEq]
      clear ho
      by_cases hlt : k < l.length
      · have hi' : (k : Int) < l.length := by omega
        have ga : l[k]? = some l[k] := List.getElem?_eq_getElem hlt
        have hw : IntKind.i64.wrap (k + 1) = ((k + 1 : Nat) : Int) := wrap_k hlt (by omega)
        have gc : cur[k]? = some l[k] := by
          have := congrArg (fun z => z[0]?) hcd
          simp only [List.getElem?_drop, Nat.add_zero] at this
          rw [this, ga]
        have hst := filter_step (p := fun x => !p x) hlt
        simp only [go_sem, ↓reduceIte, Nat.reduceEqDiff, Nat.reduceAdd, Nat.reduceMul, Nat.reduceBEq, Option.getD_none, Int.reduceToNat, Nat.reduceSub, Nat.reduceLT, Nat.reduceLeDiff, Int.reduceLE, Int.reduceLT, reduceCtorEq, hi', gc, k0, k1, h6, h5, hm]
        refine ccl_ro (ds := [Ii l[k]]) (by simp only [go_sem, ↓reduceIte, Nat.reduceEqDiff, Nat.reduceAdd, Nat.reduceMul, Nat.reduceBEq, Option.getD_none, Int.reduceToNat, Nat.reduceSub, Nat.reduceLT, Nat.reduceLeDiff, Int.reduceLE, Int.reduceLT, reduceCtorEq, k0, k1, h6, h5, hm]) ?_
        refine fcW_bool (h _ (List.getElem_mem hlt)) ?_
        cases hp : p l[k] with
        | true =>
          rw [hp] at hst
          simp only [Bool.not_true, Bool.false_eq_true, if_false, List.append_nil] at hst
          simp only [go_sem, ↓reduceIte, Nat.reduceEqDiff, Nat.reduceAdd, Nat.reduceMul, Nat.reduceBEq, Option.getD_none, Int.reduceToNat, Nat.reduceSub, Nat.reduceLT, Nat.reduceLeDiff, Int.reduceLE, Int.reduceLT, reduceCtorEq, hw, k0, k1, h6, h5, hm]
          exact ⟨(k + 1, cur), by dsimp only; omega, by dsimp only; omega, by simp only [go_sem, ↓reduceIte, Nat.reduceEqDiff, Nat.reduceAdd, Nat.reduceMul, Nat.reduceBEq, Option.getD_none, Int.reduceToNat, Nat.reduceSub, Nat.reduceLT, Nat.reduceLeDiff, Int.reduceLE, Int.reduceLT, reduceCtorEq, k0, k1, h6, h5, hm], by dsimp only; rw [hst]; simp only [go_sem, ↓reduceIte, Nat.reduceEqDiff, Nat.reduceAdd, Nat.reduceMul, Nat.reduceBEq, Option.getD_none, Int.reduceToNat, Nat.reduceSub, Nat.reduceLT, Nat.reduceLeDiff, Int.reduceLE, Int.reduceLT, reduceCtorEq, k0, k1, h6, h5, hm], by dsimp only; rw [hst]; omega, hcl, by dsimp only; rw [hst]; exact hct, by dsimp only; rw [← List.drop_drop, hcd, List.drop_drop], by simp only [go_sem, ↓reduceIte, Nat.reduceEqDiff, Nat.reduceAdd, Nat.reduceMul, Nat.reduceBEq, Option.getD_none, Int.reduceToNat, Nat.reduceSub, Nat.reduceLT, Nat.reduceLeDiff, Int.reduceLE, Int.reduceLT, reduceCtorEq, k0, k1, h6, h5, hm]⟩
        | false =>
          rw [hp] at hst
          simp only [Bool.not_false, if_true] at hst
          have hil : (((l.take k).filter fun x => !p x).length : Int) < l.length := by omega
          have hlc : ((l.take k).filter fun x => !p x).length < cur.length := by omega
          have gi : cur[((l.take k).filter fun x => !p x).length]? = some cur[((l.take k).filter fun x => !p x).length] := List.getElem?_eq_getElem hlc
          have hwi : IntKind.i64.wrap (((l.take k).filter fun x => !p x).length + 1) = ((((l.take k).filter fun x => !p x).length + 1 : Nat) : Int) := by rw [wrap_in (by omega) (by omega)]; omega
          have hms : ∀ j, (cur.map Ii).set j (Ii l[k]) = (cur.set j l[k]).map Ii := fun j => by rw [List.map_set]
          simp only [go_sem, ↓reduceIte, Nat.reduceEqDiff, Nat.reduceAdd, Nat.reduceMul, Nat.reduceBEq, Option.getD_none, Int.reduceToNat, Nat.reduceSub, Nat.reduceLT, Nat.reduceLeDiff, Int.reduceLE, Int.reduceLT, reduceCtorEq, hil, gi, hw, hwi, hms, k0, k1, h6, h5, hm]
          refine ⟨(k + 1, cur.set ((l.take k).filter fun x => !p x).length l[k]), by dsimp only; omega, by dsimp only; omega, by simp only [go_sem, ↓reduceIte, Nat.reduceEqDiff, Nat.reduceAdd, Nat.reduceMul, Nat.reduceBEq, Option.getD_none, Int.reduceToNat, Nat.reduceSub, Nat.reduceLT, Nat.reduceLeDiff, Int.reduceLE, Int.reduceLT, reduceCtorEq, k0, k1, h6, h5, hm], by dsimp only; rw [hst]; simp only [go_sem, ↓reduceIte, Nat.reduceEqDiff, Nat.reduceAdd, Nat.reduceMul, Nat.reduceBEq, Option.getD_none, Int.reduceToNat, Nat.reduceSub, Nat.reduceLT, Nat.reduceLeDiff, Int.reduceLE, Int.reduceLT, reduceCtorEq, List.length_append, k0, k1, h6, h5, hm], by dsimp only; rw [hst, List.length_append]; simp; omega, by simpa using hcl, ?_, ?_, by simp only [go_sem, ↓reduceIte, Nat.reduceEqDiff, Nat.reduceAdd, Nat.reduceMul, Nat.reduceBEq, Option.getD_none, Int.reduceToNat, Nat.reduceSub, Nat.reduceLT, Nat.reduceLeDiff, Int.reduceLE, Int.reduceLT, reduceCtorEq, hms, k0, k1, h6, h5, hm]⟩
          · dsimp only
            rw [hst, List.length_append]
            simp only [List.length_cons, List.length_nil, Nat.zero_add]
            rw [List.take_succ_eq_append_getElem (by simpa using hlc), List.take_set_of_le (Nat.le_refl _), hct]
            simp
          · dsimp only
            rw [List.drop_set, if_pos (by omega), ← List.drop_drop, hcd, List.drop_drop]
      · have hi' : ¬ (k : Int) < l.length := by omega
        obtain rfl : k = l.length := by omega
        rw [List.take_length] at h5 hik hct
        simp only [go_sem, ↓reduceIte, Nat.reduceEqDiff, Nat.reduceAdd, Nat.reduceMul, Nat.reduceBEq, Option.getD_none, Int.reduceToNat, Nat.reduceSub, Nat.reduceLT, Nat.reduceLeDiff, Int.reduceLE, Int.reduceLT, reduceCtorEq, hi', h5, k0, k1, h6, h5, hm]
        exact ⟨cur, hcl, hct, hik, rfl⟩
    · rintro ex s' M' ⟨rfl, cur, hcl, h5, hct, hlt, hm⟩ ho
      have k0 : s' 0 = .sl 0 0 0 l.length 1 := by rw [ho 0 rfl]; simp only [go_sem, ↓reduceIte, Nat.reduceEqDiff, Nat.reduceAdd, Nat.reduceMul, Nat.reduceBEq, Option.getD_none, Int.reduceToNat, Nat.reduceSub, Nat.reduceLT, Nat.reduceLeDiff, Int.reduceLE, Int.reduceLT, reduceCtorEq]
      have k1 : s' 1 = .clo f (caps.map bindC) := by rw [ho 1 rfl]; simp only [go_sem, ↓reduceIte, Nat.reduceEqDiff, Nat.reduceAdd, Nat.reduceMul, Nat.reduceBEq, Option.getD_none, Int.reduceToNat, Nat.reduceSub, Nat.reduceLT, Nat.reduceLeDiff, Int.reduceLE, Int.reduceLT, reduceCtorEq]
      clear ho
      generalize hF : l.filter (fun x => !p x) = F at *
      have hle : (F.length : Int) ≤ l.length := by omega
      have hle' : F.length ≤ l.length := by omega
      have hsub : ((l.length : Int) - (F.length : Int)).toNat = l.length - F.length := by omega
      have hz : ¬ l.length - F.length = 0 := by omega
      have hsum : F.length + (l.length - F.length) ≤ l.length := by omega
      have hsc : (((cur.map Ii).drop F.length).take (l.length - F.length)).all isSc = true := List.all_eq_true.2 fun d hd => by
        obtain ⟨x, _, rfl⟩ := List.mem_map.1 (List.mem_of_mem_drop (List.mem_of_mem_take hd)); rfl
      have hln : ((cur.map Ii).take F.length ++ List.replicate (l.length - F.length) (D.int .i64 0) ++ (cur.map Ii).drop (F.length + (l.length - F.length))).length = l.length := by simp; omega
      have htk : ((cur.map Ii).take F.length ++ List.replicate (l.length - F.length) (D.int .i64 0) ++ (cur.map Ii).drop (F.length + (l.length - F.length))).take F.length = F.map Ii := by
        rw [List.append_assoc, List.take_append_of_le_length (by simp; omega), List.take_take, Nat.min_self, ← List.map_take, hct]
      simp only [go_sem, ↓reduceIte, Nat.reduceEqDiff, Nat.reduceAdd, Nat.reduceMul, Nat.reduceBEq, Option.getD_none, Int.reduceToNat, Nat.reduceSub, Nat.reduceLT, Nat.reduceLeDiff, Int.reduceLE, Int.reduceLT, reduceCtorEq, k0, k1, h5, hm, hcl, hle, hle', hsub, hz, hsum, hsc, hln, htk, Int.le_refl, Nat.zero_add, List.length_replicate, Nat.zero_le]

end Go.Vm.Ytdebllkmblakkaa
/- Walks: what two sets of facts share; Horn clauses. -/
namespace Go.Vm.Ytdebllkmblakkaa
open Go Go.Vm
set_option maxRecDepth 10000
set_option maxHeartbeats 4000000
set_option linter.unusedSimpArgs false
set_option linter.unusedVariables false

theorem goodC_lit {v : Int} {l : List (List Int)} (h : goodC v l = true) : ∀ c ∈ l, ∀ x ∈ c, litB x v = true := by
  simp only [goodC, Bool.and_eq_true, List.all_eq_true] at h
  intro c hc x hx
  have := h.2 c hc
  simp only [clauseB, Bool.and_eq_true] at this
  exact cl_lit (Nat.le_refl c.length) this.1 x (by rw [List.take_length]; exact hx)
end Go.Vm.Ytdebllkmblakkaa
/- Walks: the laws' own helpers for what may be. -/
namespace Go.Vm.Ytdebllkmblakkaa
open Go Go.Vm
set_option maxRecDepth 10000
set_option maxHeartbeats 4000000
set_option linter.unusedSimpArgs false
set_option linter.unusedVariables false

abbrev strD (x : (Int × Int)) : D := .agg [Ii x.1, Ii x.2]
abbrev knownD (x : (Int × Int)) : D := .agg [Ii x.1, Ii x.2]
abbrev strs (l : List (Int × Int)) : D := .sl 2 (l.map strD)
abbrev knowns (l : List (Int × Int)) : D := .sl 2 (l.map knownD)
structure MayD where
  reg : List (Int × Int)
  bits : List (Int × Int)
  cell : List (Int × Int)
  isset : List Bool
  deriving DecidableEq
abbrev MayD.d (x : MayD) : D := .agg [strs x.reg, knowns x.bits, strs x.cell, bools x.isset]
end Go.Vm.Ytdebllkmblakkaa
/- Walks: good may-states. -/
namespace Go.Vm.Ytdebllkmblakkaa
open Go Go.Vm
set_option maxRecDepth 10000
set_option maxHeartbeats 4000000
set_option linter.unusedSimpArgs false
set_option linter.unusedVariables false

def gS (x : Int × Int) : Bool := goodS x.1 x.2
def gK (x : Int × Int) : Bool := goodK x.1 x.2
structure MayOk (m : MayD) : Prop where
  reg : m.reg.length = 6
  bits : m.bits.length = 6
  cell : m.cell.length = 16
  isset : m.isset.length = 16
  gr : ∀ x ∈ m.reg, gS x = true
  gb : ∀ x ∈ m.bits, gK x = true
  gc : ∀ x ∈ m.cell, gS x = true
end Go.Vm.Ytdebllkmblakkaa
/- Walks: the may-state at the start. -/
namespace Go.Vm.Ytdebllkmblakkaa
open Go Go.Vm
set_option maxRecDepth 10000
set_option maxHeartbeats 4000000
set_option linter.unusedSimpArgs false
set_option linter.unusedVariables false

end Go.Vm.Ytdebllkmblakkaa
/- Walks: machines; is a machine among those that may be? -/
namespace Go.Vm.Ytdebllkmblakkaa
open Go Go.Vm
set_option maxRecDepth 10000
set_option maxHeartbeats 4000000
set_option linter.unusedSimpArgs false
set_option linter.unusedVariables false

structure MachD where
  pc : Int
  regs : List Int
  cells : List Int
  isset : List Bool
  deriving DecidableEq
abbrev MachD.d (x : MachD) : D := .agg [Ii x.pc, ints x.regs, ints x.cells, bools x.isset]
structure MachOk (m : MachD) : Prop where
  pc : 0 ≤ m.pc ∧ m.pc ≤ 19
  regs : m.regs.length = 6
  cells : m.cells.length = 16
  isset : m.isset.length = 16
  wr : ∀ x ∈ m.regs, 0 ≤ x ∧ x ≤ 65535
  wc : ∀ x ∈ m.cells, 0 ≤ x ∧ x ≤ 65535
end Go.Vm.Ytdebllkmblakkaa
/- Walks: is a machine among those that may be (the reference). -/
namespace Go.Vm.Ytdebllkmblakkaa
open Go Go.Vm
set_option maxRecDepth 10000
set_option maxHeartbeats 4000000
set_option linter.unusedSimpArgs false
set_option linter.unusedVariables false

end Go.Vm.Ytdebllkmblakkaa
/- Bits of whole numbers: plain laws. -/
namespace Go.Vm.Ytdebllkmblakkaa
open Go Go.Vm
set_option maxRecDepth 10000
set_option maxHeartbeats 4000000
set_option linter.unusedSimpArgs false
set_option linter.unusedVariables false

/-- a word -/
def wd (a : Int) : Prop := 0 ≤ a ∧ a ≤ 65535
theorem wd.lt {a : Int} (h : wd a) : a.toNat < 2 ^ 16 := by obtain ⟨h1, h2⟩ := h; omega
/-! ### as rows of 64 bits -/
end Go.Vm.Ytdebllkmblakkaa
/- Walks: operations on words. -/
namespace Go.Vm.Ytdebllkmblakkaa
open Go Go.Vm
set_option maxRecDepth 10000
set_option maxHeartbeats 4000000
set_option linter.unusedSimpArgs false
set_option linter.unusedVariables false

end Go.Vm.Ytdebllkmblakkaa
/- Walks: intervals. -/
namespace Go.Vm.Ytdebllkmblakkaa
open Go Go.Vm
set_option maxRecDepth 10000
set_option maxHeartbeats 4000000
set_option linter.unusedSimpArgs false
set_option linter.unusedVariables false

end Go.Vm.Ytdebllkmblakkaa
/- Walks: operations on intervals. -/
namespace Go.Vm.Ytdebllkmblakkaa
open Go Go.Vm
set_option maxRecDepth 10000
set_option maxHeartbeats 8000000
set_option linter.unusedSimpArgs false
set_option linter.unusedVariables false

end Go.Vm.Ytdebllkmblakkaa
/- Walks: known bits. -/
namespace Go.Vm.Ytdebllkmblakkaa
open Go Go.Vm
set_option maxRecDepth 10000
set_option maxHeartbeats 8000000
set_option linter.unusedSimpArgs false
set_option linter.unusedVariables false

end Go.Vm.Ytdebllkmblakkaa
/- Walks: operations on known bits. -/
namespace Go.Vm.Ytdebllkmblakkaa
open Go Go.Vm
set_option maxRecDepth 10000
set_option maxHeartbeats 8000000
set_option linter.unusedSimpArgs false
set_option linter.unusedVariables false

end Go.Vm.Ytdebllkmblakkaa
/- Walks: states are copied and joined. -/
namespace Go.Vm.Ytdebllkmblakkaa
open Go Go.Vm
set_option maxRecDepth 10000
set_option maxHeartbeats 8000000
set_option linter.unusedSimpArgs false
set_option linter.unusedVariables false

structure MLen (m : MayD) : Prop where
  reg : m.reg.length = 6
  bits : m.bits.length = 6
  cell : m.cell.length = 16
  isset : m.isset.length = 16
theorem MayOk.len {m : MayD} (h : MayOk m) : MLen m := ⟨h.reg, h.bits, h.cell, h.isset⟩
section
variable {α : Type} {A B : List α} {k : Nat} {f : α → D}
end
end Go.Vm.Ytdebllkmblakkaa
/- Walks: states are joined, if they are valid. -/
namespace Go.Vm.Ytdebllkmblakkaa
open Go Go.Vm
set_option maxRecDepth 10000
set_option maxHeartbeats 8000000
set_option linter.unusedSimpArgs false
set_option linter.unusedVariables false

end Go.Vm.Ytdebllkmblakkaa
/- Walks: steps. -/
namespace Go.Vm.Ytdebllkmblakkaa
open Go Go.Vm
set_option maxRecDepth 10000
set_option maxHeartbeats 8000000
set_option linter.unusedSimpArgs false
set_option linter.unusedVariables false

structure StepD where
  kind : Int
  op : Int
  dst : Int
  src : Int
  imm : Int
  to : Int
  deriving DecidableEq
abbrev StepD.d (x : StepD) : D := .agg [Ii x.kind, Ii x.op, Ii x.dst, Ii x.src, Ii x.imm, Ii x.to]
abbrev steps (l : List StepD) : D := .sl 6 (l.map StepD.d)
end Go.Vm.Ytdebllkmblakkaa
/- Walks: valid steps. -/
namespace Go.Vm.Ytdebllkmblakkaa
open Go Go.Vm
set_option maxRecDepth 10000
set_option maxHeartbeats 8000000
set_option linter.unusedSimpArgs false
set_option linter.unusedVariables false

end Go.Vm.Ytdebllkmblakkaa
/- Walks: valid programs. -/
namespace Go.Vm.Ytdebllkmblakkaa
open Go Go.Vm
set_option maxRecDepth 10000
set_option maxHeartbeats 8000000
set_option linter.unusedSimpArgs false
set_option linter.unusedVariables false

end Go.Vm.Ytdebllkmblakkaa
/- Walks: contexts; a machine's step. -/
namespace Go.Vm.Ytdebllkmblakkaa
open Go Go.Vm
set_option maxRecDepth 10000
set_option maxHeartbeats 16000000
set_option linter.unusedSimpArgs false
set_option linter.unusedVariables false

structure MachLen (m : MachD) : Prop where
  regs : m.regs.length = 6
  cells : m.cells.length = 16
  isset : m.isset.length = 16
theorem MachOk.len {m : MachD} (h : MachOk m) : MachLen m := ⟨h.regs, h.cells, h.isset⟩
end Go.Vm.Ytdebllkmblakkaa
/- Walks: a machine's step, by the reference. -/
namespace Go.Vm.Ytdebllkmblakkaa
open Go Go.Vm
set_option maxRecDepth 10000
set_option maxHeartbeats 16000000
set_option linter.unusedSimpArgs false
set_option linter.unusedVariables false

end Go.Vm.Ytdebllkmblakkaa
/- Walks: one step of a machine, if all is valid. -/
namespace Go.Vm.Ytdebllkmblakkaa
open Go Go.Vm
set_option maxRecDepth 10000
set_option maxHeartbeats 16000000
set_option linter.unusedSimpArgs false
set_option linter.unusedVariables false

end Go.Vm.Ytdebllkmblakkaa
/- Walks: the contexts that are tried. -/
namespace Go.Vm.Ytdebllkmblakkaa
open Go Go.Vm
set_option maxRecDepth 10000
set_option maxHeartbeats 16000000
set_option linter.unusedSimpArgs false
set_option linter.unusedVariables false

theorem map_snoc {α : Type} {f : α → D} {l : List α} {x : α} : l.map f ++ [f x] = (l ++ [x]).map f := by rw [List.map_append]; rfl
end Go.Vm.Ytdebllkmblakkaa
/- Walks: the contexts that are tried, by the reference. -/
namespace Go.Vm.Ytdebllkmblakkaa
open Go Go.Vm
set_option maxRecDepth 10000
set_option maxHeartbeats 16000000
set_option linter.unusedSimpArgs false
set_option linter.unusedVariables false

end Go.Vm.Ytdebllkmblakkaa
/- slices.Sort, by the kit's contract: rows of whole numbers are put in order. -/
namespace Go.Vm.Ytdebllkmblakkaa
open Go Go.Vm
set_option maxRecDepth 10000
set_option maxHeartbeats 4000000
set_option linter.unusedSimpArgs false
set_option linter.unusedVariables false

def sortI (l : List Int) : List Int := l.mergeSort fun x y => decide (x ≤ y)
theorem TE_int {X : Nat → Prop} {o : Bool} {w : World} : ∀ {l : List Int} {vs : List Value} {F : List Nat}, TE X o w 1 (l.map Ii) vs F ↔ vs = l.map (Value.int .i64) ∧ F = []
  | [], vs, F => by simp only [List.map_nil, TE]
  | n :: l, vs, F => by
    rw [List.map_cons, TE_cons]
    constructor
    · rintro ⟨us, r, F1, F2, rfl, _, rfl, h1, h2⟩
      obtain ⟨u, rfl, h1⟩ := h1
      simp only [TV] at h1
      obtain ⟨rfl, rfl⟩ := h1
      obtain ⟨rfl, rfl⟩ := TE_int.1 h2
      exact ⟨rfl, rfl⟩
    · rintro ⟨rfl, rfl⟩
      exact ⟨[.int .i64 n], _, [], [], rfl, ⟨rfl, by intro u hu; rw [List.mem_singleton] at hu; subst hu; rfl⟩, rfl, ⟨_, rfl, by simp [TV]⟩, TE_int.2 ⟨rfl, rfl⟩⟩
theorem add_none {b off j : Nat} : (⟨b, off, none⟩ : Addr).add j = ⟨b, off + j, none⟩ := by
  unfold Addr.add
  split
  · rename_i h; simp_all
  · rfl
theorem slices_Sort__sint_int.fc (l : List Int) (hl : l.length ≤ 4294967296) : FCt prog F_slices_Sort__sint_int [.io] [ints l] (.tup []) [ints (sortI l)] := by
  refine ⟨by kernel_rfl, ?_⟩
  intro Y w args F hY hF hFY har
  simp only [AR] at har
  obtain ⟨d, ds', v, vs', F1, F2, hd, rfl, rfl, hv, hds, rfl, rfl⟩ := har
  cases hd
  simp only [List.append_nil] at hv hF hFY hY ⊢
  simp only [TV, Md.own] at hv
  have hls : (sortI l).length = l.length := List.length_mergeSort l
  rcases hv with ⟨hx, hn, rfl⟩ | ⟨a, c, vs, rfl, hsp, hlc, hb, hcl, hown⟩
  · obtain rfl : l = [] := by cases l with | nil => rfl | cons a l => cases hx
    have := hn.own
    subst this
    refine Calls.mono (Go.Proofs.Any.slices_Sort_int_none Go.Proofs.Try.laysSort none 0 w) ?_
    rintro e w' ⟨rfl, rfl⟩
    refine ⟨Nat.le_refl _, IOk.refl, fun _ _ _ => rfl, [], [], by simp, by simp, ?_, ?_⟩
    · simp [TV, TL]
    · simp only [AO, if_true]
      refine ⟨_, [], rfl, _, [], [], [], rfl, rfl, ?_, rfl⟩
      simp only [TV]
      exact .inl ⟨by simp [sortI], hn, trivial⟩
  · rcases hown with ⟨_, F', rfl, hrm, hte⟩ | ⟨ho, _⟩
    case inr => simp at ho
    obtain ⟨rfl, rfl⟩ := TE_int.1 hte
    obtain ⟨cs, E, hblk, hsz⟩ := hrm
    obtain ⟨b, off, sp⟩ := a
    dsimp only at hsp hb hblk hsz hcl
    subst hsp
    rw [List.length_map] at *
    have hH : Go.Sort.Holds (Value.int .i64) w b off l.toArray := by
      intro j hj
      have hj' : j < l.length := by simpa using hj
      refine ⟨?_, by simp [World.frozen?, hblk]⟩
      have := hcl j (.int .i64 l[j]) (by simp [hj'])
      rw [add_none] at this
      rw [this]
      simp [hj']
    refine Calls.mono (Go.Proofs.Any.slices_Sort_int Go.Proofs.Try.laysSort b off c l w hH hb (by omega)) ?_
    rintro e w' ⟨rfl, n, os, hw0⟩
    have hw' : Go.Sort.grow (Go.Sort.putRow (Value.int .i64) (Go.Sort.ahead w n) b off (sortI l).toArray) os = w' := hw0.symm
    clear hw0
    have hz : (sortI l).toArray.size = l.toArray.size := by simp [hls]
    have hheap : ∀ i, i < w.heap.size → (Go.Sort.grow (Go.Sort.putRow (Value.int .i64) (Go.Sort.ahead w n) b off (sortI l).toArray) os).heap[i]? = (w.heap.modify b (Go.Sort.onCells (Go.Sort.putCells (Value.int .i64) off (sortI l).toArray)))[i]? := by
      intro i hi
      show ((w.heap.modify b _) ++ os)[i]? = _
      rw [Array.getElem?_append_left (by simpa using hi)]
    have hother : ∀ i, i < w.heap.size → i ≠ b → (Go.Sort.grow (Go.Sort.putRow (Value.int .i64) (Go.Sort.ahead w n) b off (sortI l).toArray) os).heap[i]? = w.heap[i]? := by
      intro i hi hne
      rw [hheap i hi, Array.getElem?_modify, if_neg (fun h => hne h.symm)]
    have hsame : (Go.Sort.grow (Go.Sort.putRow (Value.int .i64) (Go.Sort.ahead w n) b off (sortI l).toArray) os).heap[b]? = some (.cells (Go.Sort.putCells (Value.int .i64) off (sortI l).toArray cs) E (0, 0)) := by
      rw [hheap b hb, Array.getElem?_modify, if_pos rfl, hblk]; rfl
    have hsize : w.heap.size ≤ (Go.Sort.grow (Go.Sort.putRow (Value.int .i64) (Go.Sort.ahead w n) b off (sortI l).toArray) os).heap.size := by
      show _ ≤ ((w.heap.modify b _) ++ os).size
      simp
    have hcs : (Go.Sort.putCells (Value.int .i64) off (sortI l).toArray cs).size = cs.size := by simp [Go.Sort.putCells]
    rw [hw'] at hother hsame hsize
    have hio : IOk w w' := by
      subst hw'
      refine ⟨rfl, rfl, rfl, fun i cs' E' fr hk => ?_⟩
      have hi : i < w.heap.size := (Array.getElem?_eq_some_iff.1 hk).1
      by_cases hib : i = b
      · subst hib
        rw [hblk] at hk
        cases hk
        exact ⟨_, _, hsame, hcs⟩
      · exact ⟨cs', E', by rw [hother i hi hib]; exact hk, rfl⟩
    refine ⟨hsize, hio, fun i hi hne => hother i hi (fun h => hne (by simp [h])), [], [b], by simp, by simp, ?_, ?_⟩
    · simp [TV, TL]
    · simp only [AO, if_true]
      refine ⟨_, [], rfl, _, [], [b], [], rfl, rfl, ?_, rfl⟩
      simp only [TV]
      refine .inr ⟨⟨b, off, none⟩, c, (sortI l).map (Value.int .i64), by rw [List.length_map, hls], rfl, by rw [List.length_map, hls]; exact hlc, by show b < _; omega, ?_, .inl ⟨trivial, [], rfl, ⟨_, E, hsame, by rw [hcs]; exact hsz⟩, TE_int.2 ⟨rfl, rfl⟩⟩⟩
      intro k v hk
      rw [add_none]
      obtain ⟨hkl, rfl⟩ := List.getElem?_eq_some_iff.1 hk
      rw [List.length_map] at hkl
      have hoff : off + k < cs.size := by
        rcases hsz with h | h
        · omega
        · have : l.length ≤ c := by simpa using hlc
          omega
      simp only [World.cell?, hsame]
      simp [Go.Sort.putCells, hoff, hkl]
end Go.Vm.Ytdebllkmblakkaa
/- Plain laws: literals that one leads to. -/
namespace Go.Vm.Ytdebllkmblakkaa
open Go Go.Vm
set_option maxRecDepth 10000
set_option maxHeartbeats 4000000
set_option linter.unusedSimpArgs false
set_option linter.unusedVariables false

/-- an arc of the clauses -/
def Arc (l : List (List Int)) (a b : Int) : Prop := ∃ c ∈ l, ∃ k, k < c.length ∧ c[k]? = some (-a) ∧ c[c.length - 1 - k]? = some b
inductive Reach (l : List (List Int)) (x : Int) : Int → Prop
  | refl : Reach l x x
  | step {y z : Int} : Reach l x y → Arc l y z → Reach l x z
def Lit (v : Nat) (x : Int) : Prop := x ≠ 0 ∧ -(v : Int) ≤ x ∧ x ≤ v
/-- strictly increasing -/
def Inc (l : List Int) : Prop := l.Pairwise (· < ·)
theorem inc_ext : ∀ {a b : List Int}, Inc a → Inc b → (∀ x, x ∈ a ↔ x ∈ b) → a = b
  | [], [], _, _, _ => rfl
  | [], y :: b, _, _, h => by have := (h y).2 List.mem_cons_self; cases this
  | x :: a, [], _, _, h => by have := (h x).1 List.mem_cons_self; cases this
  | x :: a, y :: b, ha, hb, h => by
    obtain ⟨ha1, ha2⟩ := List.pairwise_cons.1 ha
    obtain ⟨hb1, hb2⟩ := List.pairwise_cons.1 hb
    have hxy : x = y := by
      rcases List.mem_cons.1 ((h x).1 List.mem_cons_self) with e | e
      · exact e
      · rcases List.mem_cons.1 ((h y).2 List.mem_cons_self) with e2 | e2
        · exact e2.symm
        · have := hb1 x e; have := ha1 y e2; omega
    subst hxy
    refine congrArg _ (inc_ext ha2 hb2 fun z => ?_)
    constructor
    · intro hz
      rcases List.mem_cons.1 ((h z).1 (List.mem_cons_of_mem _ hz)) with e | e
      · have := ha1 z hz; omega
      · exact e
    · intro hz
      rcases List.mem_cons.1 ((h z).2 (List.mem_cons_of_mem _ hz)) with e | e
      · have := hb1 z hz; omega
      · exact e
theorem sortI_mem {l : List Int} {x : Int} : x ∈ sortI l ↔ x ∈ l := List.mem_mergeSort
theorem sortI_inc {l : List Int} (h : l.Nodup) : Inc (sortI l) := by
  have hs : (sortI l).Pairwise (fun a b => decide (a ≤ b) = true) := List.pairwise_mergeSort (fun a b c h1 h2 => by simp at *; omega) (fun a b => by simp; omega) l
  have hn : (sortI l).Nodup := (List.mergeSort_perm l _).nodup_iff.2 h
  have := hs.and hn
  exact this.imp fun ⟨h1, h2⟩ => by simp at h1; omega
/-- the literals of v variables, in order -/
def litsL (v : Nat) : List Int := (List.range (2 * v + 1)).map fun i : Nat => (i : Int) - (v : Int)
theorem litsL_inc (v : Nat) : Inc (litsL v) := by
  unfold litsL Inc
  rw [List.pairwise_map]
  exact List.pairwise_lt_range.imp fun h => by omega
theorem litsL_mem {v : Nat} {x : Int} : x ∈ litsL v ↔ -(v : Int) ≤ x ∧ x ≤ v := by
  unfold litsL
  rw [List.mem_map]
  constructor
  · rintro ⟨i, hi, rfl⟩; rw [List.mem_range] at hi; omega
  · intro h; exact ⟨(x + (v : Int)).toNat, by rw [List.mem_range]; omega, by omega⟩
/-- what x leads to, in order -/
noncomputable def reachL (v : Nat) (l : List (List Int)) (x : Int) : List Int := (litsL v).filter fun y => @decide (Reach l x y) (Classical.propDecidable _)
theorem reachL_inc (v : Nat) (l : List (List Int)) (x : Int) : Inc (reachL v l x) := (litsL_inc v).filter _
theorem reachL_mem {v : Nat} {l : List (List Int)} {x y : Int} (h : ∀ y, Reach l x y → Lit v y) : y ∈ reachL v l x ↔ Reach l x y := by
  unfold reachL
  rw [List.mem_filter, litsL_mem]
  exact ⟨fun h => @of_decide_eq_true _ (Classical.propDecidable _) h.2, fun h2 => ⟨(h y h2).2, @decide_eq_true _ (Classical.propDecidable _) h2⟩⟩
/-- clauses of literals -/
def LitsOk (v : Nat) (l : List (List Int)) : Prop := ∀ c ∈ l, ∀ n ∈ c, Lit v n
theorem arc_lit {v : Nat} {l : List (List Int)} {a b : Int} (hl : LitsOk v l) (h : Arc l a b) : Lit v b := by
  obtain ⟨c, hc, k, _, _, hb⟩ := h
  exact hl c hc b (List.mem_of_getElem? hb)
theorem reach_lit {v : Nat} {l : List (List Int)} {x y : Int} (hl : LitsOk v l) (hx : Lit v x) (h : Reach l x y) : Lit v y := by
  cases h with
  | refl => exact hx
  | step _ h => exact arc_lit hl h
theorem nodup_few {v : Nat} {l : List Int} (hn : l.Nodup) (h : ∀ y ∈ l, Lit v y) : l.length ≤ 2 * v + 1 := by
  have h1 : (l.map fun y => (y + (v : Int)).toNat).Nodup := by
    refine List.pairwise_map.2 (List.Pairwise.imp_of_mem (fun {x y} hx hy hne e => ?_) hn)
    have := h x hx; have := h y hy
    unfold Lit at *
    omega
  have := len_le_of_lt (2 * v + 1) _ h1 (by
    intro z hz
    obtain ⟨y, hy, rfl⟩ := List.mem_map.1 hz
    have := h y hy
    unfold Lit at this
    omega)
  simpa using this
/-- closed sets are what is reached -/
theorem closed_reach {l : List (List Int)} {x : Int} {out : List Int} (hx : x ∈ out) (hc : ∀ a ∈ out, ∀ b, Arc l a b → b ∈ out) : ∀ y, Reach l x y → y ∈ out := by
  intro y h
  induction h with
  | refl => exact hx
  | step _ ha ih => exact hc _ ih _ ha
theorem reach_sort {v : Nat} {l : List (List Int)} {x : Int} {out : List Int} (hl : LitsOk v l) (hxl : Lit v x) (hn : out.Nodup) (hx : x ∈ out) (hr : ∀ y ∈ out, Reach l x y) (hc : ∀ a ∈ out, ∀ b, Arc l a b → b ∈ out) :
    sortI out = reachL v l x :=
  inc_ext (sortI_inc hn) (reachL_inc v l x) fun y => by
    rw [sortI_mem, reachL_mem (fun y => reach_lit hl hxl)]
    exact ⟨hr y, closed_reach hx hc y⟩
theorem reach_inc {v : Nat} {l : List (List Int)} {x : Int} {out : List Int} (hl : LitsOk v l) (hxl : Lit v x) (hn : Inc out) (hx : x ∈ out) (hr : ∀ y ∈ out, Reach l x y) (hc : ∀ a ∈ out, ∀ b, Arc l a b → b ∈ out) :
    out = reachL v l x :=
  inc_ext hn (reachL_inc v l x) fun y => by
    rw [reachL_mem (fun y => reach_lit hl hxl)]
    exact ⟨hr y, closed_reach hx hc y⟩
theorem reachL_len (v : Nat) (l : List (List Int)) (x : Int) : (reachL v l x).length ≤ 2 * v + 1 := by
  have := List.length_filter_le (fun y => @decide (Reach l x y) (Classical.propDecidable _)) (litsL v)
  unfold reachL
  have e : (litsL v).length = 2 * v + 1 := by unfold litsL; simp
  omega
end Go.Vm.Ytdebllkmblakkaa
/- Walks: what a literal leads to. -/
namespace Go.Vm.Ytdebllkmblakkaa
open Go Go.Vm
set_option maxRecDepth 10000
set_option maxHeartbeats 16000000
set_option linter.unusedSimpArgs false
set_option linter.unusedVariables false

/-- rows that are gone through: no literal twice, all reached -/
structure Gone (v : Nat) (l : List (List Int)) (x : Int) (out : List Int) : Prop where
  nd : out.Nodup
  hd : out[0]? = some x
  rc : ∀ y ∈ out, Reach l x y
/-- all arcs of the first i are in the row -/
def Cl (l : List (List Int)) (out : List Int) (i : Nat) : Prop := ∀ (m : Nat) (a b : Int), m < i → out[m]? = some a → Arc l a b → b ∈ out
/-- all arcs of y in the first j clauses, and in the first k places of the next -/
def ClJ (l : List (List Int)) (y : Int) (out : List Int) (j k : Nat) : Prop :=
  ∀ (jj kk : Nat) (c : List Int) (b : Int), (jj < j ∨ (jj = j ∧ kk < k)) → l[jj]? = some c → kk < c.length → c[kk]? = some (-y) → c[c.length - 1 - kk]? = some b → b ∈ out
theorem Gone.len {v : Nat} {l : List (List Int)} {x : Int} {out : List Int} (h : Gone v l x out) (hl : LitsOk v l) (hx : Lit v x) : out.length ≤ 2 * v + 1 := nodup_few h.nd fun y hy => reach_lit hl hx (h.rc y hy)
theorem Gone.snoc {v : Nat} {l : List (List Int)} {x z : Int} {out : List Int} (h : Gone v l x out) (hz : z ∉ out) (hr : Reach l x z) : Gone v l x (out ++ [z]) := by
  refine ⟨?_, ?_, ?_⟩
  · rw [List.nodup_append]
    exact ⟨h.nd, by simp, fun a ha b hb e => by rw [List.mem_singleton] at hb; subst hb; subst e; exact hz ha⟩
  · have := h.hd
    cases out with
    | nil => cases this
    | cons a o => exact this
  · intro y hy
    rcases List.mem_append.1 hy with hy | hy
    · exact h.rc y hy
    · rw [List.mem_singleton] at hy; subst hy; exact hr
theorem Cl.snoc {l : List (List Int)} {out : List Int} {i : Nat} {z : Int} (h : Cl l out i) (hi : i ≤ out.length) : Cl l (out ++ [z]) i := by
  intro m a b hm ha hab
  rw [List.getElem?_append_left (by omega)] at ha
  exact List.mem_append_left _ (h m a b hm ha hab)
theorem ClJ.snoc {l : List (List Int)} {out : List Int} {y z : Int} {j k : Nat} (h : ClJ l y out j k) : ClJ l y (out ++ [z]) j k :=
  fun jj kk c b h1 h2 h3 h4 h5 => List.mem_append_left _ (h jj kk c b h1 h2 h3 h4 h5)
theorem impl_leadsTo.fc (v : Nat) (l : List (List Int)) (x : Int) (hv : v ≤ 12) (hl : LitsOk v l) (hx : Lit v x) (hll : l.length ≤ 60) (hcl : ∀ c ∈ l, c.length ≤ 12) :
    FCt prog F_impl_leadsTo [.ro, .ro] [intss l, Ii x] (ints (reachL v l x)) [] := by
  refine fct_run impl_leadsTo.ok rfl ?_
  simp only [go_sem, ↓reduceIte, Nat.reduceEqDiff, Nat.reduceAdd, Nat.reduceMul, Nat.reduceBEq, Option.getD_none, Int.reduceToNat, Nat.reduceSub, Nat.reduceLT, Nat.reduceLeDiff, Int.reduceLE, Int.reduceLT, reduceCtorEq]
  refine R_loop (α := Nat × List Int) (fun a s' M' => a.1 ≤ a.2.length ∧ s' 6 = aI a.1 ∧ Gone v l x a.2 ∧ Cl l a.2 a.1 ∧ ∃ w, s' 5 = .sl 192 w 0 a.2.length 1 ∧ M'.m 192 = some (.arr w true 1 (a.2.map Ii))) (fun a => 30 - a.1) (0, [x])
    ⟨by simp, by simp only [go_sem, ↓reduceIte, Nat.reduceEqDiff, Nat.reduceAdd, Nat.reduceMul, Nat.reduceBEq, Option.getD_none, Int.reduceToNat, Nat.reduceSub, Nat.reduceLT, Nat.reduceLeDiff, Int.reduceLE, Int.reduceLT, reduceCtorEq]; rfl, ⟨by simp, rfl, fun y hy => by rw [List.mem_singleton] at hy; subst hy; exact .refl⟩, fun m a b hm => absurd hm (Nat.not_lt_zero _), _, by simp only [go_sem, ↓reduceIte, Nat.reduceEqDiff, Nat.reduceAdd, Nat.reduceMul, Nat.reduceBEq, Option.getD_none, Int.reduceToNat, Nat.reduceSub, Nat.reduceLT, Nat.reduceLeDiff, Int.reduceLE, Int.reduceLT, reduceCtorEq]; rfl, by simp only [go_sem, ↓reduceIte, Nat.reduceEqDiff, Nat.reduceAdd, Nat.reduceMul, Nat.reduceBEq, Option.getD_none, Int.reduceToNat, Nat.reduceSub, Nat.reduceLT, Nat.reduceLeDiff, Int.reduceLE, Int.reduceLT, reduceCtorEq]⟩ ?_
  rintro ⟨i, out⟩ s' M' ⟨hi, h6, hg, hc, w, h5, hm⟩ ho
  dsimp only at hi h6 hg hc h5 hm
  have holen := hg.len hl hx
  unfold impl_leadsTo.b2
  have q0 : s' 0 = .dat none (intss l) := by rw [ho 0 rfl]; simp only [go_sem, ↓reduceIte, Nat.reduceEqDiff, Nat.reduceAdd, Nat.reduceMul, Nat.reduceBEq, Option.getD_none, Int.reduceToNat, Nat.reduceSub, Nat.reduceLT, Nat.reduceLeDiff, Int.reduceLE, Int.reduceLT, reduceCtorEq]
  clear ho
  by_cases hlt : i < out.length
  · have hi' : (i : Int) < out.length := by omega
    have hwi : IntKind.i64.wrap ((i : Int) + 1) = ((i + 1 : Nat) : Int) := by rw [wrap_in (by omega) (by omega)]; omega
    simp only [go_sem, ↓reduceIte, Nat.reduceEqDiff, Nat.reduceAdd, Nat.reduceMul, Nat.reduceBEq, Option.getD_none, Int.reduceToNat, Nat.reduceSub, Nat.reduceLT, Nat.reduceLeDiff, Int.reduceLE, Int.reduceLT, reduceCtorEq, hi', q0, h6, h5, hm]
    have gy : out[i]? = some out[i] := List.getElem?_eq_getElem hlt
    generalize out[i] = y at gy
    refine R_loop (α := Nat × List Int) (fun a s' M' => a.1 ≤ l.length ∧ s' 22 = aI a.1 ∧ Gone v l x a.2 ∧ Cl l a.2 i ∧ ClJ l y a.2 a.1 0 ∧ a.2[i]? = some y ∧ ∃ w, s' 5 = .sl 192 w 0 a.2.length 1 ∧ M'.m 192 = some (.arr w true 1 (a.2.map Ii))) (fun a => l.length - a.1) (0, out)
      ⟨by simp, by simp only [go_sem, ↓reduceIte, Nat.reduceEqDiff, Nat.reduceAdd, Nat.reduceMul, Nat.reduceBEq, Option.getD_none, Int.reduceToNat, Nat.reduceSub, Nat.reduceLT, Nat.reduceLeDiff, Int.reduceLE, Int.reduceLT, reduceCtorEq, q0, h6, h5, hm]; rfl, hg, hc, fun jj kk c b h => by omega, gy, w, by simp only [go_sem, ↓reduceIte, Nat.reduceEqDiff, Nat.reduceAdd, Nat.reduceMul, Nat.reduceBEq, Option.getD_none, Int.reduceToNat, Nat.reduceSub, Nat.reduceLT, Nat.reduceLeDiff, Int.reduceLE, Int.reduceLT, reduceCtorEq, q0, h6, h5, hm], by simp only [go_sem, ↓reduceIte, Nat.reduceEqDiff, Nat.reduceAdd, Nat.reduceMul, Nat.reduceBEq, Option.getD_none, Int.reduceToNat, Nat.reduceSub, Nat.reduceLT, Nat.reduceLeDiff, Int.reduceLE, Int.reduceLT, reduceCtorEq, q0, h6, h5, hm]⟩ ?_
    rintro ⟨j, out⟩ s2 M2 ⟨hj, h22, hg, hc, hcj, gy, w, h5, hm⟩ ho
    dsimp only at hj h22 hg hc hcj gy h5 hm
    unfold impl_leadsTo.b1
    have q6 : s2 6 = aI i := by rw [ho 6 rfl]; simp only [go_sem, ↓reduceIte, Nat.reduceEqDiff, Nat.reduceAdd, Nat.reduceMul, Nat.reduceBEq, Option.getD_none, Int.reduceToNat, Nat.reduceSub, Nat.reduceLT, Nat.reduceLeDiff, Int.reduceLE, Int.reduceLT, reduceCtorEq, q0, h6, h5, hm]
    have q20 : s2 20 = .dat none (intss l) := by rw [ho 20 rfl]; simp only [go_sem, ↓reduceIte, Nat.reduceEqDiff, Nat.reduceAdd, Nat.reduceMul, Nat.reduceBEq, Option.getD_none, Int.reduceToNat, Nat.reduceSub, Nat.reduceLT, Nat.reduceLeDiff, Int.reduceLE, Int.reduceLT, reduceCtorEq, q0, h6, h5, hm]
    have q21 : s2 21 = aI l.length := by rw [ho 21 rfl]; simp only [go_sem, ↓reduceIte, Nat.reduceEqDiff, Nat.reduceAdd, Nat.reduceMul, Nat.reduceBEq, Option.getD_none, Int.reduceToNat, Nat.reduceSub, Nat.reduceLT, Nat.reduceLeDiff, Int.reduceLE, Int.reduceLT, reduceCtorEq, q0, h6, h5, hm]
    clear ho
    have hil : i < out.length := (List.getElem?_eq_some_iff.1 gy).1
    by_cases hlt : j < l.length
    · have hi' : (j : Int) < l.length := by omega
      have ga : l[j]? = some l[j] := List.getElem?_eq_getElem hlt
      have hw : IntKind.i64.wrap (j + 1) = ((j + 1 : Nat) : Int) := wrap_k hlt (by omega)
      have hcm := List.getElem_mem hlt
      have hc12 := hcl _ hcm
      generalize hcq : l[j] = c at ga hc12 hcm
      simp only [go_sem, ↓reduceIte, Nat.reduceEqDiff, Nat.reduceAdd, Nat.reduceMul, Nat.reduceBEq, Option.getD_none, Int.reduceToNat, Nat.reduceSub, Nat.reduceLT, Nat.reduceLeDiff, Int.reduceLE, Int.reduceLT, reduceCtorEq, hi', ga, q0, h6, h5, hm, q6, q20, q21, h22, h5, hm]
      refine R_loop (α := Nat × List Int) (fun a s' M' => a.1 ≤ c.length ∧ s' 28 = aI a.1 ∧ Gone v l x a.2 ∧ Cl l a.2 i ∧ ClJ l y a.2 j a.1 ∧ a.2[i]? = some y ∧ ∃ w, s' 5 = .sl 192 w 0 a.2.length 1 ∧ M'.m 192 = some (.arr w true 1 (a.2.map Ii))) (fun a => c.length - a.1) (0, out)
        ⟨by simp, by simp only [go_sem, ↓reduceIte, Nat.reduceEqDiff, Nat.reduceAdd, Nat.reduceMul, Nat.reduceBEq, Option.getD_none, Int.reduceToNat, Nat.reduceSub, Nat.reduceLT, Nat.reduceLeDiff, Int.reduceLE, Int.reduceLT, reduceCtorEq, q0, h6, h5, hm, q6, q20, q21, h22, h5, hm]; rfl, hg, hc, hcj, gy, w, by simp only [go_sem, ↓reduceIte, Nat.reduceEqDiff, Nat.reduceAdd, Nat.reduceMul, Nat.reduceBEq, Option.getD_none, Int.reduceToNat, Nat.reduceSub, Nat.reduceLT, Nat.reduceLeDiff, Int.reduceLE, Int.reduceLT, reduceCtorEq, q0, h6, h5, hm, q6, q20, q21, h22, h5, hm], by simp only [go_sem, ↓reduceIte, Nat.reduceEqDiff, Nat.reduceAdd, Nat.reduceMul, Nat.reduceBEq, Option.getD_none, Int.reduceToNat, Nat.reduceSub, Nat.reduceLT, Nat.reduceLeDiff, Int.reduceLE, Int.reduceLT, reduceCtorEq, q0, h6, h5, hm, q6, q20, q21, h22, h5, hm]⟩ ?_
      rintro ⟨k, out⟩ s3 M3 ⟨hk, h28, hg, hc, hcj, gy, w, h5, hm⟩ ho
      dsimp only at hk h28 hg hc hcj gy h5 hm
      unfold impl_leadsTo.b0
      have q6 : s3 6 = aI i := by rw [ho 6 rfl]; simp only [go_sem, ↓reduceIte, Nat.reduceEqDiff, Nat.reduceAdd, Nat.reduceMul, Nat.reduceBEq, Option.getD_none, Int.reduceToNat, Nat.reduceSub, Nat.reduceLT, Nat.reduceLeDiff, Int.reduceLE, Int.reduceLT, reduceCtorEq, q0, h6, h5, hm, q6, q20, q21, h22, h5, hm]
      have q22 : s3 22 = aI j := by rw [ho 22 rfl]; simp only [go_sem, ↓reduceIte, Nat.reduceEqDiff, Nat.reduceAdd, Nat.reduceMul, Nat.reduceBEq, Option.getD_none, Int.reduceToNat, Nat.reduceSub, Nat.reduceLT, Nat.reduceLeDiff, Int.reduceLE, Int.reduceLT, reduceCtorEq, q0, h6, h5, hm, q6, q20, q21, h22, h5, hm]
      have q8 : s3 8 = .dat none (ints c) := by rw [ho 8 rfl]; simp only [go_sem, ↓reduceIte, Nat.reduceEqDiff, Nat.reduceAdd, Nat.reduceMul, Nat.reduceBEq, Option.getD_none, Int.reduceToNat, Nat.reduceSub, Nat.reduceLT, Nat.reduceLeDiff, Int.reduceLE, Int.reduceLT, reduceCtorEq, q0, h6, h5, hm, q6, q20, q21, h22, h5, hm]
      have q26 : s3 26 = .dat none (ints c) := by rw [ho 26 rfl]; simp only [go_sem, ↓reduceIte, Nat.reduceEqDiff, Nat.reduceAdd, Nat.reduceMul, Nat.reduceBEq, Option.getD_none, Int.reduceToNat, Nat.reduceSub, Nat.reduceLT, Nat.reduceLeDiff, Int.reduceLE, Int.reduceLT, reduceCtorEq, q0, h6, h5, hm, q6, q20, q21, h22, h5, hm]
      have q27 : s3 27 = aI c.length := by rw [ho 27 rfl]; simp only [go_sem, ↓reduceIte, Nat.reduceEqDiff, Nat.reduceAdd, Nat.reduceMul, Nat.reduceBEq, Option.getD_none, Int.reduceToNat, Nat.reduceSub, Nat.reduceLT, Nat.reduceLeDiff, Int.reduceLE, Int.reduceLT, reduceCtorEq, q0, h6, h5, hm, q6, q20, q21, h22, h5, hm]
      clear ho
      have hil : i < out.length := (List.getElem?_eq_some_iff.1 gy).1
      have holen := hg.len hl hx
      by_cases hlk : k < c.length
      · have hik : (k : Int) < c.length := by omega
        have hwk : IntKind.i64.wrap ((k : Int) + 1) = ((k + 1 : Nat) : Int) := by rw [wrap_in (by omega) (by omega)]; omega
        have gk : c[k]? = some c[k] := List.getElem?_eq_getElem hlk
        have go : c[c.length - 1 - k]? = some (c[c.length - 1 - k]'(by omega)) := List.getElem?_eq_getElem (by omega)
        have w1 : IntKind.i64.wrap ((c.length : Int) - 1) = (c.length : Int) - 1 := wrap_in (by omega) (by omega)
        have w2 : IntKind.i64.wrap ((c.length : Int) - 1 - k) = ((c.length - 1 - k : Nat) : Int) := by rw [wrap_in (by omega) (by omega)]; omega
        have io : ((c.length - 1 - k : Nat) : Int) < c.length := by omega
        have ii : (i : Int) < out.length := by omega
        have hnl := hl c hcm _ (List.getElem_mem hlk)
        have hneg := neg_in (n := c[k]) (by unfold Lit at hnl; omega)
        have hgk : c[k]? = some c[k] := gk
        generalize c[k] = n at gk hnl hneg hgk
        generalize (c[c.length - 1 - k]'(by omega)) = o at go
        have next : ∀ out', (∀ z ∈ out, z ∈ out') → (n = -y → o ∈ out') → ClJ l y out j k → ClJ l y out' j (k + 1) := by
          intro out' h1 h2 h3 jj kk c' b hh g1 g2 g3 g4
          by_cases hkk : jj = j ∧ kk = k
          · obtain ⟨rfl, rfl⟩ := hkk
            rw [ga] at g1; cases g1
            rw [gk] at g3; cases g3
            rw [go] at g4; cases g4
            exact h2 rfl
          · exact h1 _ (h3 jj kk c' b (by omega) g1 g2 g3 g4)
        simp only [go_sem, ↓reduceIte, Nat.reduceEqDiff, Nat.reduceAdd, Nat.reduceMul, Nat.reduceBEq, Option.getD_none, Int.reduceToNat, Nat.reduceSub, Nat.reduceLT, Nat.reduceLeDiff, Int.reduceLE, Int.reduceLT, reduceCtorEq, hik, gk, w1, w2, io, go, hneg, ii, gy, q0, h6, h5, hm, q6, q20, q21, h22, h5, hm, q6, q22, q8, q26, q27, h28, h5, hm]
        cases hq : (-n == y) with
        | false =>
          simp only [go_sem, ↓reduceIte, Nat.reduceEqDiff, Nat.reduceAdd, Nat.reduceMul, Nat.reduceBEq, Option.getD_none, Int.reduceToNat, Nat.reduceSub, Nat.reduceLT, Nat.reduceLeDiff, Int.reduceLE, Int.reduceLT, reduceCtorEq, hwk, q0, h6, h5, hm, q6, q20, q21, h22, h5, hm, q6, q22, q8, q26, q27, h28, h5, hm]
          exact ⟨(k + 1, out), by dsimp only; omega, by dsimp only; omega, by simp only [go_sem, ↓reduceIte, Nat.reduceEqDiff, Nat.reduceAdd, Nat.reduceMul, Nat.reduceBEq, Option.getD_none, Int.reduceToNat, Nat.reduceSub, Nat.reduceLT, Nat.reduceLeDiff, Int.reduceLE, Int.reduceLT, reduceCtorEq, q0, h6, h5, hm, q6, q20, q21, h22, h5, hm, q6, q22, q8, q26, q27, h28, h5, hm], hg, hc, next out (fun z h => h) (fun h => by subst h; simp at hq) hcj, gy, w, by simp only [go_sem, ↓reduceIte, Nat.reduceEqDiff, Nat.reduceAdd, Nat.reduceMul, Nat.reduceBEq, Option.getD_none, Int.reduceToNat, Nat.reduceSub, Nat.reduceLT, Nat.reduceLeDiff, Int.reduceLE, Int.reduceLT, reduceCtorEq, q0, h6, h5, hm, q6, q20, q21, h22, h5, hm, q6, q22, q8, q26, q27, h28, h5, hm], by simp only [go_sem, ↓reduceIte, Nat.reduceEqDiff, Nat.reduceAdd, Nat.reduceMul, Nat.reduceBEq, Option.getD_none, Int.reduceToNat, Nat.reduceSub, Nat.reduceLT, Nat.reduceLeDiff, Int.reduceLE, Int.reduceLT, reduceCtorEq, q0, h6, h5, hm, q6, q20, q21, h22, h5, hm, q6, q22, q8, q26, q27, h28, h5, hm]⟩
        | true =>
          have hny : n = -y := by have : -n = y := (by simpa using hq); omega
          simp only [go_sem, ↓reduceIte, Nat.reduceEqDiff, Nat.reduceAdd, Nat.reduceMul, Nat.reduceBEq, Option.getD_none, Int.reduceToNat, Nat.reduceSub, Nat.reduceLT, Nat.reduceLeDiff, Int.reduceLE, Int.reduceLT, reduceCtorEq, take_map_len, q0, h6, h5, hm, q6, q20, q21, h22, h5, hm, q6, q22, q8, q26, q27, h28, h5, hm]
          refine fcW_bool (slices_Contains__sint_int.fc out o (by omega)) ?_
          cases hh : out.any (· == o) with
          | true =>
            have hin : o ∈ out := by obtain ⟨z, hz, e⟩ := List.any_eq_true.1 hh; have : z = o := (by simpa using e); subst this; exact hz
            simp only [go_sem, ↓reduceIte, Nat.reduceEqDiff, Nat.reduceAdd, Nat.reduceMul, Nat.reduceBEq, Option.getD_none, Int.reduceToNat, Nat.reduceSub, Nat.reduceLT, Nat.reduceLeDiff, Int.reduceLE, Int.reduceLT, reduceCtorEq, hwk, q0, h6, h5, hm, q6, q20, q21, h22, h5, hm, q6, q22, q8, q26, q27, h28, h5, hm]
            exact ⟨(k + 1, out), by dsimp only; omega, by dsimp only; omega, by simp only [go_sem, ↓reduceIte, Nat.reduceEqDiff, Nat.reduceAdd, Nat.reduceMul, Nat.reduceBEq, Option.getD_none, Int.reduceToNat, Nat.reduceSub, Nat.reduceLT, Nat.reduceLeDiff, Int.reduceLE, Int.reduceLT, reduceCtorEq, q0, h6, h5, hm, q6, q20, q21, h22, h5, hm, q6, q22, q8, q26, q27, h28, h5, hm], hg, hc, next out (fun z h => h) (fun _ => hin) hcj, gy, w, by simp only [go_sem, ↓reduceIte, Nat.reduceEqDiff, Nat.reduceAdd, Nat.reduceMul, Nat.reduceBEq, Option.getD_none, Int.reduceToNat, Nat.reduceSub, Nat.reduceLT, Nat.reduceLeDiff, Int.reduceLE, Int.reduceLT, reduceCtorEq, q0, h6, h5, hm, q6, q20, q21, h22, h5, hm, q6, q22, q8, q26, q27, h28, h5, hm], by simp only [go_sem, ↓reduceIte, Nat.reduceEqDiff, Nat.reduceAdd, Nat.reduceMul, Nat.reduceBEq, Option.getD_none, Int.reduceToNat, Nat.reduceSub, Nat.reduceLT, Nat.reduceLeDiff, Int.reduceLE, Int.reduceLT, reduceCtorEq, q0, h6, h5, hm, q6, q20, q21, h22, h5, hm, q6, q22, q8, q26, q27, h28, h5, hm]⟩
          | false =>
            have hni : o ∉ out := fun hin => by
              have : out.any (· == o) = true := List.any_eq_true.2 ⟨o, hin, by simp⟩
              rw [hh] at this; cases this
            have hry : Reach l x y := hg.rc y (List.mem_of_getElem? gy)
            have hro : Reach l x o := .step hry ⟨c, hcm, k, hlk, by rw [gk, hny], go⟩
            have hb1 : (out.length + 1) * 8 ≤ 70368744177664 := by omega
            have ap : out.map Ii ++ [Ii o] = (out ++ [o]).map Ii := map_snoc
            have tk : (out.map Ii).take out.length = out.map Ii := take_map_len
            have el : (out ++ [o]).length = out.length + 1 := by simp
            simp only [go_sem, ↓reduceIte, Nat.reduceEqDiff, Nat.reduceAdd, Nat.reduceMul, Nat.reduceBEq, Option.getD_none, Int.reduceToNat, Nat.reduceSub, Nat.reduceLT, Nat.reduceLeDiff, Int.reduceLE, Int.reduceLT, reduceCtorEq, hwk, hb1, ap, tk, q0, h6, h5, hm, q6, q20, q21, h22, h5, hm, q6, q22, q8, q26, q27, h28, h5, hm]
            exact ⟨(k + 1, out ++ [o]), by dsimp only; omega, by dsimp only; omega, by simp only [go_sem, ↓reduceIte, Nat.reduceEqDiff, Nat.reduceAdd, Nat.reduceMul, Nat.reduceBEq, Option.getD_none, Int.reduceToNat, Nat.reduceSub, Nat.reduceLT, Nat.reduceLeDiff, Int.reduceLE, Int.reduceLT, reduceCtorEq, q0, h6, h5, hm, q6, q20, q21, h22, h5, hm, q6, q22, q8, q26, q27, h28, h5, hm], hg.snoc hni hro, hc.snoc (by omega), next (out ++ [o]) (fun z h => List.mem_append_left _ h) (fun _ => by simp) hcj, by rw [List.getElem?_append_left hil]; exact gy, _, by rw [el]; simp only [go_sem, ↓reduceIte, Nat.reduceEqDiff, Nat.reduceAdd, Nat.reduceMul, Nat.reduceBEq, Option.getD_none, Int.reduceToNat, Nat.reduceSub, Nat.reduceLT, Nat.reduceLeDiff, Int.reduceLE, Int.reduceLT, reduceCtorEq, q0, h6, h5, hm, q6, q20, q21, h22, h5, hm, q6, q22, q8, q26, q27, h28, h5, hm]; rfl, by simp only [go_sem, ↓reduceIte, Nat.reduceEqDiff, Nat.reduceAdd, Nat.reduceMul, Nat.reduceBEq, Option.getD_none, Int.reduceToNat, Nat.reduceSub, Nat.reduceLT, Nat.reduceLeDiff, Int.reduceLE, Int.reduceLT, reduceCtorEq, q0, h6, h5, hm, q6, q20, q21, h22, h5, hm, q6, q22, q8, q26, q27, h28, h5, hm]⟩
      · have hi' : ¬ (k : Int) < c.length := by omega
        obtain rfl : k = c.length := by omega
        simp only [go_sem, ↓reduceIte, Nat.reduceEqDiff, Nat.reduceAdd, Nat.reduceMul, Nat.reduceBEq, Option.getD_none, Int.reduceToNat, Nat.reduceSub, Nat.reduceLT, Nat.reduceLeDiff, Int.reduceLE, Int.reduceLT, reduceCtorEq, Int.lt_irrefl, hw, q0, h6, h5, hm, q6, q20, q21, h22, h5, hm, q6, q22, q8, q26, q27, h28, h5, hm]
        exact ⟨(j + 1, out), by dsimp only; omega, by dsimp only; omega, by simp only [go_sem, ↓reduceIte, Nat.reduceEqDiff, Nat.reduceAdd, Nat.reduceMul, Nat.reduceBEq, Option.getD_none, Int.reduceToNat, Nat.reduceSub, Nat.reduceLT, Nat.reduceLeDiff, Int.reduceLE, Int.reduceLT, reduceCtorEq, q0, h6, h5, hm, q6, q20, q21, h22, h5, hm, q6, q22, q8, q26, q27, h28, h5, hm], hg, hc, fun jj kk c' b hh g1 g2 g3 g4 => by
          refine hcj jj kk c' b ?_ g1 g2 g3 g4
          by_cases hjj : jj = j
          · subst hjj; rw [ga] at g1; cases g1; omega
          · omega, gy, w, by simp only [go_sem, ↓reduceIte, Nat.reduceEqDiff, Nat.reduceAdd, Nat.reduceMul, Nat.reduceBEq, Option.getD_none, Int.reduceToNat, Nat.reduceSub, Nat.reduceLT, Nat.reduceLeDiff, Int.reduceLE, Int.reduceLT, reduceCtorEq, q0, h6, h5, hm, q6, q20, q21, h22, h5, hm, q6, q22, q8, q26, q27, h28, h5, hm], by simp only [go_sem, ↓reduceIte, Nat.reduceEqDiff, Nat.reduceAdd, Nat.reduceMul, Nat.reduceBEq, Option.getD_none, Int.reduceToNat, Nat.reduceSub, Nat.reduceLT, Nat.reduceLeDiff, Int.reduceLE, Int.reduceLT, reduceCtorEq, q0, h6, h5, hm, q6, q20, q21, h22, h5, hm, q6, q22, q8, q26, q27, h28, h5, hm]⟩
    · have hi' : ¬ (j : Int) < l.length := by omega
      obtain rfl : j = l.length := by omega
      simp only [go_sem, ↓reduceIte, Nat.reduceEqDiff, Nat.reduceAdd, Nat.reduceMul, Nat.reduceBEq, Option.getD_none, Int.reduceToNat, Nat.reduceSub, Nat.reduceLT, Nat.reduceLeDiff, Int.reduceLE, Int.reduceLT, reduceCtorEq, Int.lt_irrefl, hwi, q0, h6, h5, hm, q6, q20, q21, h22, h5, hm]
      refine ⟨(i + 1, out), by dsimp only; omega, by dsimp only; omega, by simp only [go_sem, ↓reduceIte, Nat.reduceEqDiff, Nat.reduceAdd, Nat.reduceMul, Nat.reduceBEq, Option.getD_none, Int.reduceToNat, Nat.reduceSub, Nat.reduceLT, Nat.reduceLeDiff, Int.reduceLE, Int.reduceLT, reduceCtorEq, q0, h6, h5, hm, q6, q20, q21, h22, h5, hm], hg, fun m a b hm2 ha hab => ?_, w, by simp only [go_sem, ↓reduceIte, Nat.reduceEqDiff, Nat.reduceAdd, Nat.reduceMul, Nat.reduceBEq, Option.getD_none, Int.reduceToNat, Nat.reduceSub, Nat.reduceLT, Nat.reduceLeDiff, Int.reduceLE, Int.reduceLT, reduceCtorEq, q0, h6, h5, hm, q6, q20, q21, h22, h5, hm], by simp only [go_sem, ↓reduceIte, Nat.reduceEqDiff, Nat.reduceAdd, Nat.reduceMul, Nat.reduceBEq, Option.getD_none, Int.reduceToNat, Nat.reduceSub, Nat.reduceLT, Nat.reduceLeDiff, Int.reduceLE, Int.reduceLT, reduceCtorEq, q0, h6, h5, hm, q6, q20, q21, h22, h5, hm]⟩
      by_cases hmi : m = i
      · subst hmi
        rw [gy] at ha; cases ha
        obtain ⟨c, hcm, k, hk, g1, g2⟩ := hab
        obtain ⟨jj, hjj, rfl⟩ := List.getElem_of_mem hcm
        exact hcj jj k _ b (.inl hjj) (List.getElem?_eq_getElem hjj) hk g1 g2
      · exact hc m a b (by omega) ha hab
  · have hi' : ¬ (i : Int) < out.length := by omega
    obtain rfl : i = out.length := by omega
    have hx0 : x ∈ out := List.mem_of_getElem? hg.hd
    have hfin := reach_sort hl hx hg.nd hx0 hg.rc fun a ha b hab => by
      obtain ⟨m, hm2, rfl⟩ := List.getElem_of_mem ha
      exact hc m _ b hm2 (List.getElem?_eq_getElem hm2) hab
    simp only [go_sem, ↓reduceIte, Nat.reduceEqDiff, Nat.reduceAdd, Nat.reduceMul, Nat.reduceBEq, Option.getD_none, Int.reduceToNat, Nat.reduceSub, Nat.reduceLT, Nat.reduceLeDiff, Int.reduceLE, Int.reduceLT, reduceCtorEq, Int.lt_irrefl, take_map_len, q0, h6, h5, hm]
    refine coW_of (slices_Sort__sint_int.fc out (by omega)) rfl (by simp only [noRsL, Bool.and_true]; exact noRs_ints) ?_
    rw [hfin]
    have hrl : (reachL v l x).length = out.length := by rw [← hfin]; exact List.length_mergeSort out
    have tk2 : ((reachL v l x).map Ii).take out.length = (reachL v l x).map Ii := List.take_of_length_le (by simp [hrl])
    simp only [go_sem, ↓reduceIte, Nat.reduceEqDiff, Nat.reduceAdd, Nat.reduceMul, Nat.reduceBEq, Option.getD_none, Int.reduceToNat, Nat.reduceSub, Nat.reduceLT, Nat.reduceLeDiff, Int.reduceLE, Int.reduceLT, reduceCtorEq, hrl, tk2, q0, h6, h5, hm]
end Go.Vm.Ytdebllkmblakkaa
/- Walks: what a literal leads to, by the reference. -/
namespace Go.Vm.Ytdebllkmblakkaa
open Go Go.Vm
set_option maxRecDepth 10000
set_option maxHeartbeats 16000000
set_option linter.unusedSimpArgs false
set_option linter.unusedVariables false

theorem putI_mem {l : List Int} {x y : Int} : y ∈ putI l x ↔ y = x ∨ y ∈ l := by
  unfold putI
  split
  · rename_i h
    have := List.mem_of_getElem? h
    constructor
    · exact .inr
    · rintro (rfl | h)
      · exact this
      · exact h
  · conv => rhs; rw [← List.take_append_drop (putK l x) l]
    rw [List.mem_append, List.mem_cons, List.mem_append]
    constructor
    · rintro (h | h | h)
      · exact .inr (.inl h)
      · exact .inl h
      · exact .inr (.inr h)
    · rintro (h | h | h)
      · exact .inr (.inl h)
      · exact .inl h
      · exact .inr (.inr h)
theorem putK_lt {l : List Int} {x : Int} {i : Nat} (hi : i < putK l x) (hl : i < l.length) : l[i] < x := by
  have := List.not_of_lt_findIdx (p := fun y => !decide (y < x)) (xs := l) hi
  simpa using this
theorem putI_inc {l : List Int} {x : Int} (h : Inc l) : Inc (putI l x) := by
  unfold putI
  split
  · exact h
  · rename_i hn
    have hsp := h
    unfold Inc at hsp
    rw [← List.take_append_drop (putK l x) l, List.pairwise_append] at hsp
    obtain ⟨h1, h2, h3⟩ := hsp
    unfold Inc
    rw [List.pairwise_append, List.pairwise_cons]
    have hlo : ∀ a ∈ l.take (putK l x), a < x := by
      intro a ha
      rw [List.mem_take_iff_getElem] at ha
      obtain ⟨i, hi, rfl⟩ := ha
      exact putK_lt (by omega) (by omega)
    have hhi : ∀ b ∈ l.drop (putK l x), x < b := by
      intro b hb
      by_cases hk : putK l x < l.length
      · have hge : ¬ l[putK l x] < x := by
          intro hlt
          have q := (List.findIdx_eq (p := fun y => !decide (y < x)) hk).1 rfl
          have q1 := q.1
          simp [hlt] at q1
        have hne : l[putK l x] ≠ x := fun e => hn (by rw [List.getElem?_eq_getElem hk, e])
        rw [List.drop_eq_getElem_cons hk] at hb h2
        obtain ⟨h4, _⟩ := List.pairwise_cons.1 h2
        rcases List.mem_cons.1 hb with rfl | hb
        · omega
        · have := h4 b hb; omega
      · rw [List.drop_eq_nil_iff.2 (by omega)] at hb; cases hb
    refine ⟨h1, ⟨hhi, h2⟩, fun a ha b hb => ?_⟩
    rcases List.mem_cons.1 hb with rfl | hb
    · exact hlo a ha
    · exact h3 a ha b hb
theorem inc_nodup {l : List Int} (h : Inc l) : l.Nodup := h.imp fun h e => by omega
/-- a row at one of some names, or none -/
def RowX (x : AV) (M : Mem) (nms : List Nat) (ds : List D) : Prop := (ds = [] ∧ x = .nil 1) ∨ ∃ nm ∈ nms, ∃ v, x = .sl nm v 0 ds.length 1 ∧ M.m nm = some (.arr v true 1 ds)
/-- the arcs of x, in order -/
noncomputable def arcL (v : Nat) (l : List (List Int)) (x : Int) : List Int := (litsL v).filter fun y => @decide (Arc l x y) (Classical.propDecidable _)
theorem arcL_inc (v : Nat) (l : List (List Int)) (x : Int) : Inc (arcL v l x) := (litsL_inc v).filter _
theorem arcL_mem {v : Nat} {l : List (List Int)} {x y : Int} (hl : LitsOk v l) : y ∈ arcL v l x ↔ Arc l x y := by
  unfold arcL
  rw [List.mem_filter, litsL_mem]
  exact ⟨fun h => @of_decide_eq_true _ (Classical.propDecidable _) h.2, fun h2 => ⟨(arc_lit hl h2).2, @decide_eq_true _ (Classical.propDecidable _) h2⟩⟩
theorem arc_snoc {l : List (List Int)} {c : List Int} {a b : Int} : Arc (l ++ [c]) a b ↔ Arc l a b ∨ Arc [c] a b := by
  constructor
  · rintro ⟨d, hd, h⟩
    rcases List.mem_append.1 hd with hd | hd
    · exact .inl ⟨d, hd, h⟩
    · exact .inr ⟨d, hd, h⟩
  · rintro (⟨d, hd, h⟩ | ⟨d, hd, h⟩)
    · exact ⟨d, List.mem_append_left _ hd, h⟩
    · exact ⟨d, List.mem_append_right _ hd, h⟩
theorem arc_one {n a b : Int} : Arc [[n]] a b ↔ n = -a ∧ b = n := by
  constructor
  · rintro ⟨d, hd, k, hk, h1, h2⟩
    rw [List.mem_singleton] at hd; subst hd
    have : k = 0 := by simp at hk; omega
    subst this
    simp at h1 h2
    exact ⟨h1, h2.symm⟩
  · rintro ⟨rfl, rfl⟩
    exact ⟨_, List.mem_singleton.2 rfl, 0, by simp, rfl, rfl⟩
theorem arc_two {n o a b : Int} : Arc [[n, o]] a b ↔ (n = -a ∧ b = o) ∨ (o = -a ∧ b = n) := by
  constructor
  · rintro ⟨d, hd, k, hk, h1, h2⟩
    rw [List.mem_singleton] at hd; subst hd
    have : k = 0 ∨ k = 1 := by simp at hk; omega
    rcases this with rfl | rfl
    · simp at h1 h2; exact .inl ⟨h1, h2.symm⟩
    · simp at h1 h2; exact .inr ⟨h1, h2.symm⟩
  · rintro (⟨rfl, rfl⟩ | ⟨rfl, rfl⟩)
    · exact ⟨_, List.mem_singleton.2 rfl, 0, by simp, rfl, rfl⟩
    · exact ⟨_, List.mem_singleton.2 rfl, 1, by simp, rfl, rfl⟩
def Two (l : List (List Int)) : Prop := ∀ c ∈ l, c.length = 1 ∨ c.length = 2
theorem spec_l15Next.fc (v : Nat) (l : List (List Int)) (x : Int) (hv : v ≤ 12) (hl : LitsOk v l) (h2 : Two l) (hdist : ∀ n o, [n, o] ∈ l → n ≠ o) (hx : Lit v x) (hll : l.length ≤ 60) :
    FCt prog F_spec_l15Next [.ro, .ro] [intss l, Ii x] (ints (arcL v l x)) [] := by
  refine fct_run spec_l15Next.ok rfl ?_
  have hneg := neg_in (n := x) (by unfold Lit at hx; omega)
  simp only [go_sem, ↓reduceIte, Nat.reduceEqDiff, Nat.reduceAdd, Nat.reduceMul, Nat.reduceBEq, Option.getD_none, Int.reduceToNat, Nat.reduceSub, Nat.reduceLT, Nat.reduceLeDiff, Int.reduceLE, Int.reduceLT, reduceCtorEq]
  refine R_loop (α := Nat × List Int) (fun a s' M' => a.1 ≤ l.length ∧ s' 10 = aI a.1 ∧ Inc a.2 ∧ (∀ b, b ∈ a.2 ↔ Arc (l.take a.1) x b) ∧ ∃ r, s' 5 = r ∧ RowX r M' [1664, 2816, 3968] (a.2.map Ii)) (fun a => l.length - a.1) (0, [])
    ⟨by simp, by simp only [go_sem, ↓reduceIte, Nat.reduceEqDiff, Nat.reduceAdd, Nat.reduceMul, Nat.reduceBEq, Option.getD_none, Int.reduceToNat, Nat.reduceSub, Nat.reduceLT, Nat.reduceLeDiff, Int.reduceLE, Int.reduceLT, reduceCtorEq]; rfl, List.Pairwise.nil, fun b => by simp [Arc], _, by simp only [go_sem, ↓reduceIte, Nat.reduceEqDiff, Nat.reduceAdd, Nat.reduceMul, Nat.reduceBEq, Option.getD_none, Int.reduceToNat, Nat.reduceSub, Nat.reduceLT, Nat.reduceLeDiff, Int.reduceLE, Int.reduceLT, reduceCtorEq]; try rfl, .inl ⟨rfl, rfl⟩⟩ ?_
  rintro ⟨j, out⟩ s' M' ⟨hj, h10, hinc, hmem, r, h5, hrow⟩ ho
  dsimp only at hj h10 hinc hmem h5 hrow
  unfold spec_l15Next.b0
  have q1 : s' 1 = aI x := by rw [ho 1 rfl]; simp only [go_sem, ↓reduceIte, Nat.reduceEqDiff, Nat.reduceAdd, Nat.reduceMul, Nat.reduceBEq, Option.getD_none, Int.reduceToNat, Nat.reduceSub, Nat.reduceLT, Nat.reduceLeDiff, Int.reduceLE, Int.reduceLT, reduceCtorEq]
  have q8 : s' 8 = .dat none (intss l) := by rw [ho 8 rfl]; simp only [go_sem, ↓reduceIte, Nat.reduceEqDiff, Nat.reduceAdd, Nat.reduceMul, Nat.reduceBEq, Option.getD_none, Int.reduceToNat, Nat.reduceSub, Nat.reduceLT, Nat.reduceLeDiff, Int.reduceLE, Int.reduceLT, reduceCtorEq]
  have q9 : s' 9 = aI l.length := by rw [ho 9 rfl]; simp only [go_sem, ↓reduceIte, Nat.reduceEqDiff, Nat.reduceAdd, Nat.reduceMul, Nat.reduceBEq, Option.getD_none, Int.reduceToNat, Nat.reduceSub, Nat.reduceLT, Nat.reduceLeDiff, Int.reduceLE, Int.reduceLT, reduceCtorEq]
  clear ho
  have hlits : ∀ y ∈ out, Lit v y := fun y hy => by
    obtain ⟨c, hc, k, _, _, hb⟩ := (hmem y).1 hy
    exact hl c (List.mem_of_mem_take hc) y (List.mem_of_getElem? hb)
  have holen := nodup_few (inc_nodup hinc) hlits
  by_cases hlt : j < l.length
  · have hi' : (j : Int) < l.length := by omega
    have ga : l[j]? = some l[j] := List.getElem?_eq_getElem hlt
    have hw : IntKind.i64.wrap (j + 1) = ((j + 1 : Nat) : Int) := wrap_k hlt (by omega)
    have htk : l.take (j + 1) = l.take j ++ [l[j]] := take_succ' hlt
    have h2c := h2 _ (List.getElem_mem hlt)
    have hcm := List.getElem_mem hlt
    generalize l[j] = c at ga htk h2c hcm
    have o1 : (0 : Int) < ((1 : Nat) : Int) := by decide
    have o2 : (0 : Int) < ((2 : Nat) : Int) := by decide
    have o3 : (1 : Int) < ((2 : Nat) : Int) := by decide
    have e11 : (((1 : Nat) : Int) == 1) = true := rfl
    have e12 : (((1 : Nat) : Int) == 2) = false := rfl
    have e21 : (((2 : Nat) : Int) == 1) = false := rfl
    have e22 : (((2 : Nat) : Int) == 2) = true := rfl
    have put : ∀ z, (∀ b, Arc [c] x b ↔ b = z) → Inc (putI out z) ∧ ∀ b, b ∈ putI out z ↔ Arc (l.take (j + 1)) x b := fun z hz =>
      ⟨putI_inc hinc, fun b => by rw [putI_mem, htk, arc_snoc, hz, hmem]; exact ⟨fun h => h.symm, fun h => h.symm⟩⟩
    have skip : (∀ b, ¬ Arc [c] x b) → ∀ b, b ∈ out ↔ Arc (l.take (j + 1)) x b := fun hz b => by
      rw [htk, arc_snoc, hmem]; exact ⟨.inl, fun h => h.elim id fun h => absurd h (hz b)⟩
    rcases h2c with hc1 | hc2
    · obtain ⟨n, rfl⟩ : ∃ n, c = [n] := by match c, hc1 with | [n], _ => exact ⟨n, rfl⟩
      cases hq : (n == -x) with
      | true =>
        have hn : n = -x := by simpa using hq
        obtain ⟨p1, p2⟩ := put n fun b => by rw [arc_one]; exact ⟨fun h => h.2, fun h => ⟨hn, h⟩⟩
        rcases hrow with ⟨hd, rfl⟩ | ⟨nm, hnm, w, rfl, hmm⟩
        · obtain rfl : out = [] := by cases out with | nil => rfl | cons a l => cases hd
          simp only [go_sem, ↓reduceIte, Nat.reduceEqDiff, Nat.reduceAdd, Nat.reduceMul, Nat.reduceBEq, Option.getD_none, Int.reduceToNat, Nat.reduceSub, Nat.reduceLT, Nat.reduceLeDiff, Int.reduceLE, Int.reduceLT, reduceCtorEq, hq, q1, q8, q9, h10, h5, hi', ga, hneg, o1, o2, o3, e11, e12, e21, e22, hw]
          refine coW_of (spec_l1Put.fco [] n (by simp)) noRs_ints rfl ?_
          simp only [go_sem, ↓reduceIte, Nat.reduceEqDiff, Nat.reduceAdd, Nat.reduceMul, Nat.reduceBEq, Option.getD_none, Int.reduceToNat, Nat.reduceSub, Nat.reduceLT, Nat.reduceLeDiff, Int.reduceLE, Int.reduceLT, reduceCtorEq, q1, q8, q9, h10, h5, hi', ga, hneg, o1, o2, o3, e11, e12, e21, e22, hw]
          exact ⟨(j + 1, putI [] n), by dsimp only; omega, by dsimp only; omega, by simp only [go_sem, ↓reduceIte, Nat.reduceEqDiff, Nat.reduceAdd, Nat.reduceMul, Nat.reduceBEq, Option.getD_none, Int.reduceToNat, Nat.reduceSub, Nat.reduceLT, Nat.reduceLeDiff, Int.reduceLE, Int.reduceLT, reduceCtorEq, q1, q8, q9, h10, h5, hi', ga, hneg, o1, o2, o3, e11, e12, e21, e22, hw], p1, p2, _, by simp only [go_sem, ↓reduceIte, Nat.reduceEqDiff, Nat.reduceAdd, Nat.reduceMul, Nat.reduceBEq, Option.getD_none, Int.reduceToNat, Nat.reduceSub, Nat.reduceLT, Nat.reduceLeDiff, Int.reduceLE, Int.reduceLT, reduceCtorEq, q1, q8, q9, h10, h5, hi', ga, hneg, o1, o2, o3, e11, e12, e21, e22, hw]; rfl, .inr ⟨1664, by simp, _, by rw [List.length_map], by simp only [go_sem, ↓reduceIte, Nat.reduceEqDiff, Nat.reduceAdd, Nat.reduceMul, Nat.reduceBEq, Option.getD_none, Int.reduceToNat, Nat.reduceSub, Nat.reduceLT, Nat.reduceLeDiff, Int.reduceLE, Int.reduceLT, reduceCtorEq, q1, q8, q9, h10, h5, hi', ga, hneg, o1, o2, o3, e11, e12, e21, e22, hw]; try rfl⟩⟩
        · rw [List.length_map] at h5
          simp only [List.mem_cons, List.not_mem_nil, or_false] at hnm
          rcases hnm with rfl | rfl | rfl <;>
          · simp only [go_sem, ↓reduceIte, Nat.reduceEqDiff, Nat.reduceAdd, Nat.reduceMul, Nat.reduceBEq, Option.getD_none, Int.reduceToNat, Nat.reduceSub, Nat.reduceLT, Nat.reduceLeDiff, Int.reduceLE, Int.reduceLT, reduceCtorEq, hq, hmm, take_map_len, q1, q8, q9, h10, h5, hi', ga, hneg, o1, o2, o3, e11, e12, e21, e22, hw]
            refine coW_of (spec_l1Put.fco out n (by omega)) noRs_ints rfl ?_
            simp only [go_sem, ↓reduceIte, Nat.reduceEqDiff, Nat.reduceAdd, Nat.reduceMul, Nat.reduceBEq, Option.getD_none, Int.reduceToNat, Nat.reduceSub, Nat.reduceLT, Nat.reduceLeDiff, Int.reduceLE, Int.reduceLT, reduceCtorEq, q1, q8, q9, h10, h5, hi', ga, hneg, o1, o2, o3, e11, e12, e21, e22, hw]
            exact ⟨(j + 1, putI out n), by dsimp only; omega, by dsimp only; omega, by simp only [go_sem, ↓reduceIte, Nat.reduceEqDiff, Nat.reduceAdd, Nat.reduceMul, Nat.reduceBEq, Option.getD_none, Int.reduceToNat, Nat.reduceSub, Nat.reduceLT, Nat.reduceLeDiff, Int.reduceLE, Int.reduceLT, reduceCtorEq, q1, q8, q9, h10, h5, hi', ga, hneg, o1, o2, o3, e11, e12, e21, e22, hw], p1, p2, _, by simp only [go_sem, ↓reduceIte, Nat.reduceEqDiff, Nat.reduceAdd, Nat.reduceMul, Nat.reduceBEq, Option.getD_none, Int.reduceToNat, Nat.reduceSub, Nat.reduceLT, Nat.reduceLeDiff, Int.reduceLE, Int.reduceLT, reduceCtorEq, q1, q8, q9, h10, h5, hi', ga, hneg, o1, o2, o3, e11, e12, e21, e22, hw]; rfl, .inr ⟨1664, by simp, _, by rw [List.length_map], by simp only [go_sem, ↓reduceIte, Nat.reduceEqDiff, Nat.reduceAdd, Nat.reduceMul, Nat.reduceBEq, Option.getD_none, Int.reduceToNat, Nat.reduceSub, Nat.reduceLT, Nat.reduceLeDiff, Int.reduceLE, Int.reduceLT, reduceCtorEq, q1, q8, q9, h10, h5, hi', ga, hneg, o1, o2, o3, e11, e12, e21, e22, hw]; try rfl⟩⟩
      | false =>
        have sk := skip fun b hb => by
          rw [arc_one] at hb
          rw [hb.1] at hq; simp at hq
        simp only [go_sem, ↓reduceIte, Nat.reduceEqDiff, Nat.reduceAdd, Nat.reduceMul, Nat.reduceBEq, Option.getD_none, Int.reduceToNat, Nat.reduceSub, Nat.reduceLT, Nat.reduceLeDiff, Int.reduceLE, Int.reduceLT, reduceCtorEq, hq, q1, q8, q9, h10, h5, hi', ga, hneg, o1, o2, o3, e11, e12, e21, e22, hw]
        refine ⟨(j + 1, out), by dsimp only; omega, by dsimp only; omega, by simp only [go_sem, ↓reduceIte, Nat.reduceEqDiff, Nat.reduceAdd, Nat.reduceMul, Nat.reduceBEq, Option.getD_none, Int.reduceToNat, Nat.reduceSub, Nat.reduceLT, Nat.reduceLeDiff, Int.reduceLE, Int.reduceLT, reduceCtorEq, q1, q8, q9, h10, h5, hi', ga, hneg, o1, o2, o3, e11, e12, e21, e22, hw], hinc, sk, r, by simp only [go_sem, ↓reduceIte, Nat.reduceEqDiff, Nat.reduceAdd, Nat.reduceMul, Nat.reduceBEq, Option.getD_none, Int.reduceToNat, Nat.reduceSub, Nat.reduceLT, Nat.reduceLeDiff, Int.reduceLE, Int.reduceLT, reduceCtorEq, q1, q8, q9, h10, h5, hi', ga, hneg, o1, o2, o3, e11, e12, e21, e22, hw], ?_⟩
        rcases hrow with ⟨hd, rfl⟩ | ⟨nm, hnm, w, rfl, hmm⟩
        · exact .inl ⟨hd, rfl⟩
        · refine .inr ⟨nm, hnm, w, rfl, ?_⟩
          simp only [List.mem_cons, List.not_mem_nil, or_false] at hnm
          rcases hnm with rfl | rfl | rfl <;> simp only [go_sem, ↓reduceIte, Nat.reduceEqDiff, Nat.reduceAdd, Nat.reduceMul, Nat.reduceBEq, Option.getD_none, Int.reduceToNat, Nat.reduceSub, Nat.reduceLT, Nat.reduceLeDiff, Int.reduceLE, Int.reduceLT, reduceCtorEq, hmm, q1, q8, q9, h10, h5, hi', ga, hneg, o1, o2, o3, e11, e12, e21, e22, hw]
    · obtain ⟨n, o, rfl⟩ : ∃ n o, c = [n, o] := by match c, hc2 with | [n, o], _ => exact ⟨n, o, rfl⟩
      cases hq : (n == -x) with
      | true =>
        have hn : n = -x := by simpa using hq
        have hd2 := hdist n o hcm
        obtain ⟨p1, p2⟩ := put o fun b => by
          rw [arc_two]
          exact ⟨fun h => h.elim (fun h => h.2) (fun h => absurd (hn.trans h.1.symm) hd2), fun h => .inl ⟨hn, h⟩⟩
        rcases hrow with ⟨hd, rfl⟩ | ⟨nm, hnm, w, rfl, hmm⟩
        · obtain rfl : out = [] := by cases out with | nil => rfl | cons a l => cases hd
          simp only [go_sem, ↓reduceIte, Nat.reduceEqDiff, Nat.reduceAdd, Nat.reduceMul, Nat.reduceBEq, Option.getD_none, Int.reduceToNat, Nat.reduceSub, Nat.reduceLT, Nat.reduceLeDiff, Int.reduceLE, Int.reduceLT, reduceCtorEq, hq, q1, q8, q9, h10, h5, hi', ga, hneg, o1, o2, o3, e11, e12, e21, e22, hw]
          refine coW_of (spec_l1Put.fco [] o (by simp)) noRs_ints rfl ?_
          simp only [go_sem, ↓reduceIte, Nat.reduceEqDiff, Nat.reduceAdd, Nat.reduceMul, Nat.reduceBEq, Option.getD_none, Int.reduceToNat, Nat.reduceSub, Nat.reduceLT, Nat.reduceLeDiff, Int.reduceLE, Int.reduceLT, reduceCtorEq, q1, q8, q9, h10, h5, hi', ga, hneg, o1, o2, o3, e11, e12, e21, e22, hw]
          exact ⟨(j + 1, putI [] o), by dsimp only; omega, by dsimp only; omega, by simp only [go_sem, ↓reduceIte, Nat.reduceEqDiff, Nat.reduceAdd, Nat.reduceMul, Nat.reduceBEq, Option.getD_none, Int.reduceToNat, Nat.reduceSub, Nat.reduceLT, Nat.reduceLeDiff, Int.reduceLE, Int.reduceLT, reduceCtorEq, q1, q8, q9, h10, h5, hi', ga, hneg, o1, o2, o3, e11, e12, e21, e22, hw], p1, p2, _, by simp only [go_sem, ↓reduceIte, Nat.reduceEqDiff, Nat.reduceAdd, Nat.reduceMul, Nat.reduceBEq, Option.getD_none, Int.reduceToNat, Nat.reduceSub, Nat.reduceLT, Nat.reduceLeDiff, Int.reduceLE, Int.reduceLT, reduceCtorEq, q1, q8, q9, h10, h5, hi', ga, hneg, o1, o2, o3, e11, e12, e21, e22, hw]; rfl, .inr ⟨2816, by simp, _, by rw [List.length_map], by simp only [go_sem, ↓reduceIte, Nat.reduceEqDiff, Nat.reduceAdd, Nat.reduceMul, Nat.reduceBEq, Option.getD_none, Int.reduceToNat, Nat.reduceSub, Nat.reduceLT, Nat.reduceLeDiff, Int.reduceLE, Int.reduceLT, reduceCtorEq, q1, q8, q9, h10, h5, hi', ga, hneg, o1, o2, o3, e11, e12, e21, e22, hw]; try rfl⟩⟩
        · rw [List.length_map] at h5
          simp only [List.mem_cons, List.not_mem_nil, or_false] at hnm
          rcases hnm with rfl | rfl | rfl <;>
          · simp only [go_sem, ↓reduceIte, Nat.reduceEqDiff, Nat.reduceAdd, Nat.reduceMul, Nat.reduceBEq, Option.getD_none, Int.reduceToNat, Nat.reduceSub, Nat.reduceLT, Nat.reduceLeDiff, Int.reduceLE, Int.reduceLT, reduceCtorEq, hq, hmm, take_map_len, q1, q8, q9, h10, h5, hi', ga, hneg, o1, o2, o3, e11, e12, e21, e22, hw]
            refine coW_of (spec_l1Put.fco out o (by omega)) noRs_ints rfl ?_
            simp only [go_sem, ↓reduceIte, Nat.reduceEqDiff, Nat.reduceAdd, Nat.reduceMul, Nat.reduceBEq, Option.getD_none, Int.reduceToNat, Nat.reduceSub, Nat.reduceLT, Nat.reduceLeDiff, Int.reduceLE, Int.reduceLT, reduceCtorEq, q1, q8, q9, h10, h5, hi', ga, hneg, o1, o2, o3, e11, e12, e21, e22, hw]
            exact ⟨(j + 1, putI out o), by dsimp only; omega, by dsimp only; omega, by simp only [go_sem, ↓reduceIte, Nat.reduceEqDiff, Nat.reduceAdd, Nat.reduceMul, Nat.reduceBEq, Option.getD_none, Int.reduceToNat, Nat.reduceSub, Nat.reduceLT, Nat.reduceLeDiff, Int.reduceLE, Int.reduceLT, reduceCtorEq, q1, q8, q9, h10, h5, hi', ga, hneg, o1, o2, o3, e11, e12, e21, e22, hw], p1, p2, _, by simp only [go_sem, ↓reduceIte, Nat.reduceEqDiff, Nat.reduceAdd, Nat.reduceMul, Nat.reduceBEq, Option.getD_none, Int.reduceToNat, Nat.reduceSub, Nat.reduceLT, Nat.reduceLeDiff, Int.reduceLE, Int.reduceLT, reduceCtorEq, q1, q8, q9, h10, h5, hi', ga, hneg, o1, o2, o3, e11, e12, e21, e22, hw]; rfl, .inr ⟨2816, by simp, _, by rw [List.length_map], by simp only [go_sem, ↓reduceIte, Nat.reduceEqDiff, Nat.reduceAdd, Nat.reduceMul, Nat.reduceBEq, Option.getD_none, Int.reduceToNat, Nat.reduceSub, Nat.reduceLT, Nat.reduceLeDiff, Int.reduceLE, Int.reduceLT, reduceCtorEq, q1, q8, q9, h10, h5, hi', ga, hneg, o1, o2, o3, e11, e12, e21, e22, hw]; try rfl⟩⟩
      | false =>
        have hn : ¬ n = -x := by simpa using hq
        cases hq2 : (o == -x) with
        | true =>
          have hn2 : o = -x := by simpa using hq2
          obtain ⟨p1, p2⟩ := put n fun b => by
            rw [arc_two]
            exact ⟨fun h => h.elim (fun h => absurd h.1 hn) (fun h => h.2), fun h => .inr ⟨hn2, h⟩⟩
          rcases hrow with ⟨hd, rfl⟩ | ⟨nm, hnm, w, rfl, hmm⟩
          · obtain rfl : out = [] := by cases out with | nil => rfl | cons a l => cases hd
            simp only [go_sem, ↓reduceIte, Nat.reduceEqDiff, Nat.reduceAdd, Nat.reduceMul, Nat.reduceBEq, Option.getD_none, Int.reduceToNat, Nat.reduceSub, Nat.reduceLT, Nat.reduceLeDiff, Int.reduceLE, Int.reduceLT, reduceCtorEq, hq, hq2, q1, q8, q9, h10, h5, hi', ga, hneg, o1, o2, o3, e11, e12, e21, e22, hw]
            refine coW_of (spec_l1Put.fco [] n (by simp)) noRs_ints rfl ?_
            simp only [go_sem, ↓reduceIte, Nat.reduceEqDiff, Nat.reduceAdd, Nat.reduceMul, Nat.reduceBEq, Option.getD_none, Int.reduceToNat, Nat.reduceSub, Nat.reduceLT, Nat.reduceLeDiff, Int.reduceLE, Int.reduceLT, reduceCtorEq, q1, q8, q9, h10, h5, hi', ga, hneg, o1, o2, o3, e11, e12, e21, e22, hw]
            exact ⟨(j + 1, putI [] n), by dsimp only; omega, by dsimp only; omega, by simp only [go_sem, ↓reduceIte, Nat.reduceEqDiff, Nat.reduceAdd, Nat.reduceMul, Nat.reduceBEq, Option.getD_none, Int.reduceToNat, Nat.reduceSub, Nat.reduceLT, Nat.reduceLeDiff, Int.reduceLE, Int.reduceLT, reduceCtorEq, q1, q8, q9, h10, h5, hi', ga, hneg, o1, o2, o3, e11, e12, e21, e22, hw], p1, p2, _, by simp only [go_sem, ↓reduceIte, Nat.reduceEqDiff, Nat.reduceAdd, Nat.reduceMul, Nat.reduceBEq, Option.getD_none, Int.reduceToNat, Nat.reduceSub, Nat.reduceLT, Nat.reduceLeDiff, Int.reduceLE, Int.reduceLT, reduceCtorEq, q1, q8, q9, h10, h5, hi', ga, hneg, o1, o2, o3, e11, e12, e21, e22, hw]; rfl, .inr ⟨3968, by simp, _, by rw [List.length_map], by simp only [go_sem, ↓reduceIte, Nat.reduceEqDiff, Nat.reduceAdd, Nat.reduceMul, Nat.reduceBEq, Option.getD_none, Int.reduceToNat, Nat.reduceSub, Nat.reduceLT, Nat.reduceLeDiff, Int.reduceLE, Int.reduceLT, reduceCtorEq, q1, q8, q9, h10, h5, hi', ga, hneg, o1, o2, o3, e11, e12, e21, e22, hw]; try rfl⟩⟩
          · rw [List.length_map] at h5
            simp only [List.mem_cons, List.not_mem_nil, or_false] at hnm
            rcases hnm with rfl | rfl | rfl <;>
            · simp only [go_sem, ↓reduceIte, Nat.reduceEqDiff, Nat.reduceAdd, Nat.reduceMul, Nat.reduceBEq, Option.getD_none, Int.reduceToNat, Nat.reduceSub, Nat.reduceLT, Nat.reduceLeDiff, Int.reduceLE, Int.reduceLT, reduceCtorEq, hq, hq2, hmm, take_map_len, q1, q8, q9, h10, h5, hi', ga, hneg, o1, o2, o3, e11, e12, e21, e22, hw]
              refine coW_of (spec_l1Put.fco out n (by omega)) noRs_ints rfl ?_
              simp only [go_sem, ↓reduceIte, Nat.reduceEqDiff, Nat.reduceAdd, Nat.reduceMul, Nat.reduceBEq, Option.getD_none, Int.reduceToNat, Nat.reduceSub, Nat.reduceLT, Nat.reduceLeDiff, Int.reduceLE, Int.reduceLT, reduceCtorEq, q1, q8, q9, h10, h5, hi', ga, hneg, o1, o2, o3, e11, e12, e21, e22, hw]
              exact ⟨(j + 1, putI out n), by dsimp only; omega, by dsimp only; omega, by simp only [go_sem, ↓reduceIte, Nat.reduceEqDiff, Nat.reduceAdd, Nat.reduceMul, Nat.reduceBEq, Option.getD_none, Int.reduceToNat, Nat.reduceSub, Nat.reduceLT, Nat.reduceLeDiff, Int.reduceLE, Int.reduceLT, reduceCtorEq, q1, q8, q9, h10, h5, hi', ga, hneg, o1, o2, o3, e11, e12, e21, e22, hw], p1, p2, _, by simp only [go_sem, ↓reduceIte, Nat.reduceEqDiff, Nat.reduceAdd, Nat.reduceMul, Nat.reduceBEq, Option.getD_none, Int.reduceToNat, Nat.reduceSub, Nat.reduceLT, Nat.reduceLeDiff, Int.reduceLE, Int.reduceLT, reduceCtorEq, q1, q8, q9, h10, h5, hi', ga, hneg, o1, o2, o3, e11, e12, e21, e22, hw]; rfl, .inr ⟨3968, by simp, _, by rw [List.length_map], by simp only [go_sem, ↓reduceIte, Nat.reduceEqDiff, Nat.reduceAdd, Nat.reduceMul, Nat.reduceBEq, Option.getD_none, Int.reduceToNat, Nat.reduceSub, Nat.reduceLT, Nat.reduceLeDiff, Int.reduceLE, Int.reduceLT, reduceCtorEq, q1, q8, q9, h10, h5, hi', ga, hneg, o1, o2, o3, e11, e12, e21, e22, hw]; try rfl⟩⟩
        | false =>
          have hn2 : ¬ o = -x := by simpa using hq2
          have sk := skip fun b hb => by
            rw [arc_two] at hb
            exact hb.elim (fun h => hn h.1) (fun h => hn2 h.1)
          simp only [go_sem, ↓reduceIte, Nat.reduceEqDiff, Nat.reduceAdd, Nat.reduceMul, Nat.reduceBEq, Option.getD_none, Int.reduceToNat, Nat.reduceSub, Nat.reduceLT, Nat.reduceLeDiff, Int.reduceLE, Int.reduceLT, reduceCtorEq, hq, hq2, q1, q8, q9, h10, h5, hi', ga, hneg, o1, o2, o3, e11, e12, e21, e22, hw]
          refine ⟨(j + 1, out), by dsimp only; omega, by dsimp only; omega, by simp only [go_sem, ↓reduceIte, Nat.reduceEqDiff, Nat.reduceAdd, Nat.reduceMul, Nat.reduceBEq, Option.getD_none, Int.reduceToNat, Nat.reduceSub, Nat.reduceLT, Nat.reduceLeDiff, Int.reduceLE, Int.reduceLT, reduceCtorEq, q1, q8, q9, h10, h5, hi', ga, hneg, o1, o2, o3, e11, e12, e21, e22, hw], hinc, sk, r, by simp only [go_sem, ↓reduceIte, Nat.reduceEqDiff, Nat.reduceAdd, Nat.reduceMul, Nat.reduceBEq, Option.getD_none, Int.reduceToNat, Nat.reduceSub, Nat.reduceLT, Nat.reduceLeDiff, Int.reduceLE, Int.reduceLT, reduceCtorEq, q1, q8, q9, h10, h5, hi', ga, hneg, o1, o2, o3, e11, e12, e21, e22, hw], ?_⟩
          rcases hrow with ⟨hd, rfl⟩ | ⟨nm, hnm, w, rfl, hmm⟩
          · exact .inl ⟨hd, rfl⟩
          · refine .inr ⟨nm, hnm, w, rfl, ?_⟩
            simp only [List.mem_cons, List.not_mem_nil, or_false] at hnm
            rcases hnm with rfl | rfl | rfl <;> simp only [go_sem, ↓reduceIte, Nat.reduceEqDiff, Nat.reduceAdd, Nat.reduceMul, Nat.reduceBEq, Option.getD_none, Int.reduceToNat, Nat.reduceSub, Nat.reduceLT, Nat.reduceLeDiff, Int.reduceLE, Int.reduceLT, reduceCtorEq, hmm, q1, q8, q9, h10, h5, hi', ga, hneg, o1, o2, o3, e11, e12, e21, e22, hw]
  · have hi' : ¬ (j : Int) < l.length := by omega
    obtain rfl : j = l.length := by omega
    rw [List.take_length] at hmem
    have hfin : out = arcL v l x := inc_ext hinc (arcL_inc v l x) fun b => by rw [hmem, arcL_mem hl]
    rw [← hfin]
    rcases hrow with ⟨hd, rfl⟩ | ⟨nm, hnm, w, rfl, hmm⟩
    · obtain rfl : out = [] := by cases out with | nil => rfl | cons a l => cases hd
      simp only [go_sem, ↓reduceIte, Nat.reduceEqDiff, Nat.reduceAdd, Nat.reduceMul, Nat.reduceBEq, Option.getD_none, Int.reduceToNat, Nat.reduceSub, Nat.reduceLT, Nat.reduceLeDiff, Int.reduceLE, Int.reduceLT, reduceCtorEq, Int.lt_irrefl, q1, q8, q9, h10, h5]
      rfl
    · rw [List.length_map] at h5
      simp only [List.mem_cons, List.not_mem_nil, or_false] at hnm
      rcases hnm with rfl | rfl | rfl <;> simp only [go_sem, ↓reduceIte, Nat.reduceEqDiff, Nat.reduceAdd, Nat.reduceMul, Nat.reduceBEq, Option.getD_none, Int.reduceToNat, Nat.reduceSub, Nat.reduceLT, Nat.reduceLeDiff, Int.reduceLE, Int.reduceLT, reduceCtorEq, Int.lt_irrefl, hmm, take_map_len, q1, q8, q9, h10, h5]
end Go.Vm.Ytdebllkmblakkaa
/- Walks: what a literal leads to, by the reference: the queue. -/
namespace Go.Vm.Ytdebllkmblakkaa
open Go Go.Vm
set_option maxRecDepth 10000
set_option maxHeartbeats 16000000
set_option linter.unusedSimpArgs false
set_option linter.unusedVariables false

/-- the literals that are known, with those that still wait -/
structure Known (l : List (List Int)) (x : Int) (out q : List Int) : Prop where
  inc : Inc out
  hx : x ∈ out
  rc : ∀ y ∈ out, Reach l x y
  qs : ∀ z ∈ q, z ∈ out
/-- arcs of all but those that wait, and one -/
def ClQ (l : List (List Int)) (out q : List Int) (p : Int → Prop) : Prop := ∀ a ∈ out, a ∉ q → ¬ p a → ∀ b, Arc l a b → b ∈ out
/-- the queue lies in a row, from some place on -/
def Queue (s6 : AV) (M : Mem) (q : List Int) : Prop := ∃ v off xs, s6 = .sl 384 v off q.length 1 ∧ M.m 384 = some (.arr v true 1 xs) ∧ off + q.length ≤ xs.length ∧ (xs.drop off).take q.length = q.map Ii
theorem Known.len {v : Nat} {l : List (List Int)} {x : Int} {out q : List Int} (h : Known l x out q) (hl : LitsOk v l) (hx : Lit v x) : out.length ≤ 2 * v + 1 := nodup_few (inc_nodup h.inc) fun y hy => reach_lit hl hx (h.rc y hy)
theorem arcL_len (v : Nat) (l : List (List Int)) (x : Int) : (arcL v l x).length ≤ 2 * v + 1 := by
  have := List.length_filter_le (fun y => @decide (Arc l x y) (Classical.propDecidable _)) (litsL v)
  unfold arcL
  have e : (litsL v).length = 2 * v + 1 := by unfold litsL; simp
  omega
theorem putI_len1 {l : List Int} {x : Int} (h : Inc l) (hx : x ∉ l) : (putI l x).length = l.length + 1 := by
  unfold putI
  split
  · rename_i e; exact absurd (List.mem_of_getElem? e) hx
  · rw [List.length_append, List.length_cons, List.length_take, List.length_drop]; omega
theorem spec_l15Leads.fc (v : Nat) (l : List (List Int)) (x : Int) (hv : v ≤ 12) (hl : LitsOk v l) (h2 : Two l) (hdist : ∀ n o, [n, o] ∈ l → n ≠ o) (hx : Lit v x) (hll : l.length ≤ 60) :
    FCt prog F_spec_l15Leads [.ro, .ro] [intss l, Ii x] (ints (reachL v l x)) [] := by
  refine fct_run spec_l15Leads.ok rfl ?_
  simp only [go_sem, ↓reduceIte, Nat.reduceEqDiff, Nat.reduceAdd, Nat.reduceMul, Nat.reduceBEq, Option.getD_none, Int.reduceToNat, Nat.reduceSub, Nat.reduceLT, Nat.reduceLeDiff, Int.reduceLE, Int.reduceLT, reduceCtorEq]
  refine R_loop (α := List Int × List Int) (fun a s' M' => Known l x a.1 a.2 ∧ ClQ l a.1 a.2 (fun _ => False) ∧ 2 * (30 - a.1.length) + a.2.length ≤ 60 ∧ Queue (s' 6) M' a.2 ∧ ∃ nm w, (nm = 192 ∨ nm = 2112) ∧ s' 5 = .sl nm w 0 a.1.length 1 ∧ M'.m nm = some (.arr w true 1 (a.1.map Ii))) (fun a => 2 * (30 - a.1.length) + a.2.length) ([x], [x])
    ⟨⟨List.pairwise_singleton _ _, by simp, fun y hy => by rw [List.mem_singleton] at hy; subst hy; exact .refl, fun z h => h⟩, fun a ha hq => absurd ha hq, by simp, ⟨_, _, _, by simp only [go_sem, ↓reduceIte, Nat.reduceEqDiff, Nat.reduceAdd, Nat.reduceMul, Nat.reduceBEq, Option.getD_none, Int.reduceToNat, Nat.reduceSub, Nat.reduceLT, Nat.reduceLeDiff, Int.reduceLE, Int.reduceLT, reduceCtorEq]; try rfl, by simp only [go_sem, ↓reduceIte, Nat.reduceEqDiff, Nat.reduceAdd, Nat.reduceMul, Nat.reduceBEq, Option.getD_none, Int.reduceToNat, Nat.reduceSub, Nat.reduceLT, Nat.reduceLeDiff, Int.reduceLE, Int.reduceLT, reduceCtorEq]; try rfl, by simp, rfl⟩, 192, _, .inl rfl, by simp only [go_sem, ↓reduceIte, Nat.reduceEqDiff, Nat.reduceAdd, Nat.reduceMul, Nat.reduceBEq, Option.getD_none, Int.reduceToNat, Nat.reduceSub, Nat.reduceLT, Nat.reduceLeDiff, Int.reduceLE, Int.reduceLT, reduceCtorEq]; try rfl, by simp only [go_sem, ↓reduceIte, Nat.reduceEqDiff, Nat.reduceAdd, Nat.reduceMul, Nat.reduceBEq, Option.getD_none, Int.reduceToNat, Nat.reduceSub, Nat.reduceLT, Nat.reduceLeDiff, Int.reduceLE, Int.reduceLT, reduceCtorEq]; try rfl⟩ ?_
  rintro ⟨out, q⟩ s' M' ⟨hk, hc, hmb, ⟨vq, off, xs, h6, hmq, hxl, hxs⟩, nm, w, hnm, h5, hm⟩ ho
  dsimp only at hk hc hmb h6 hmq hxl hxs h5 hm
  have holen := hk.len hl hx
  unfold spec_l15Leads.b1
  have q0 : s' 0 = .dat none (intss l) := by rw [ho 0 rfl]; simp only [go_sem, ↓reduceIte, Nat.reduceEqDiff, Nat.reduceAdd, Nat.reduceMul, Nat.reduceBEq, Option.getD_none, Int.reduceToNat, Nat.reduceSub, Nat.reduceLT, Nat.reduceLeDiff, Int.reduceLE, Int.reduceLT, reduceCtorEq]
  clear ho
  cases q with
  | nil =>
    have hfin := reach_inc hl hx hk.inc hk.hx hk.rc fun a ha b hab => hc a ha (by simp) (fun h => h) b hab
    have z0 : ¬ (((0 : Nat) : Int) > 0) := by omega
    rcases hnm with rfl | rfl <;> simp only [go_sem, ↓reduceIte, Nat.reduceEqDiff, Nat.reduceAdd, Nat.reduceMul, Nat.reduceBEq, Option.getD_none, Int.reduceToNat, Nat.reduceSub, Nat.reduceLT, Nat.reduceLeDiff, Int.reduceLE, Int.reduceLT, reduceCtorEq, z0, h5, hm, take_map_len, hfin, q0, h6, hmq]
  | cons y q =>
    have z0 : (((q.length + 1 : Nat) : Int) > 0) := by omega
    have z00 : (0 : Int) < ((q.length + 1 : Nat) : Int) := by omega
    have z1 : (1 : Int) ≤ ((q.length + 1 : Nat) : Int) := by omega
    have z2 : (((q.length + 1 : Nat) : Int) - 1).toNat = q.length := by omega
    rw [List.length_cons] at hxl
    have hx0 : xs[off + 0]? = some (Ii y) := by
      have : ((xs.drop off).take (y :: q).length)[0]? = ((y :: q).map Ii)[0]? := by rw [hxs]
      simpa using this
    have hxs2 : (xs.drop (off + 1)).take q.length = q.map Ii := by
      have : ((xs.drop off).take (y :: q).length).drop 1 = ((y :: q).map Ii).drop 1 := by rw [hxs]
      rw [List.length_cons, List.drop_take, List.drop_drop] at this
      simpa using this
    have hly : Lit v y := reach_lit hl hx (hk.rc y (hk.qs y List.mem_cons_self))
    have h256 : off + (q.length + 1) ≤ xs.length := hxl
    have cn := spec_l15Next.fc v l y hv hl h2 hdist hly hll
    simp only [go_sem, ↓reduceIte, Nat.reduceEqDiff, Nat.reduceAdd, Nat.reduceMul, Nat.reduceBEq, Option.getD_none, Int.reduceToNat, Nat.reduceSub, Nat.reduceLT, Nat.reduceLeDiff, Int.reduceLE, Int.reduceLT, reduceCtorEq, z0, z00, z1, z2, hx0, h256, Int.le_refl, q0, h6, hmq]
    refine fcW_bd cn noRs_ints ?_
    have nmem := fun b => arcL_mem (x := y) (y := b) hl
    have hNl := arcL_len v l y
    generalize arcL v l y = N at nmem hNl ⊢
    simp only [go_sem, ↓reduceIte, Nat.reduceEqDiff, Nat.reduceAdd, Nat.reduceMul, Nat.reduceBEq, Option.getD_none, Int.reduceToNat, Nat.reduceSub, Nat.reduceLT, Nat.reduceLeDiff, Int.reduceLE, Int.reduceLT, reduceCtorEq, q0, h6, hmq]
    refine R_loop (α := Nat × List Int × List Int) (fun a s' M' => a.1 ≤ N.length ∧ s' 26 = aI a.1 ∧ Known l x a.2.1 a.2.2 ∧ ClQ l a.2.1 a.2.2 (· = y) ∧ (∀ z ∈ N.take a.1, z ∈ a.2.1) ∧ y ∈ a.2.1 ∧ 2 * (30 - a.2.1.length) + a.2.2.length + 1 ≤ 2 * (30 - out.length) + (y :: q).length ∧ Queue (s' 6) M' a.2.2 ∧ (∃ u, s' 24 = .sl 1280 u 0 N.length 1 ∧ M'.m 1280 = some (.arr u true 1 (N.map Ii))) ∧
        ∃ nm w, (nm = 192 ∨ nm = 2112) ∧ s' 5 = .sl nm w 0 a.2.1.length 1 ∧ M'.m nm = some (.arr w true 1 (a.2.1.map Ii))) (fun a => N.length - a.1) (0, out, q)
      ⟨by simp, by simp only [go_sem, ↓reduceIte, Nat.reduceEqDiff, Nat.reduceAdd, Nat.reduceMul, Nat.reduceBEq, Option.getD_none, Int.reduceToNat, Nat.reduceSub, Nat.reduceLT, Nat.reduceLeDiff, Int.reduceLE, Int.reduceLT, reduceCtorEq, q0, h6, hmq]; rfl, ⟨hk.inc, hk.hx, hk.rc, fun z h => hk.qs z (List.mem_cons_of_mem _ h)⟩, fun a ha hq hp => hc a ha (fun h => by
          rcases List.mem_cons.1 h with h | h
          · exact hp h
          · exact hq h) (fun h => h), by simp, hk.qs y List.mem_cons_self, by simp only [List.length_cons]; omega, ⟨vq, off + 1, xs, by simp only [go_sem, ↓reduceIte, Nat.reduceEqDiff, Nat.reduceAdd, Nat.reduceMul, Nat.reduceBEq, Option.getD_none, Int.reduceToNat, Nat.reduceSub, Nat.reduceLT, Nat.reduceLeDiff, Int.reduceLE, Int.reduceLT, reduceCtorEq, q0, h6, hmq]; try rfl, by simp only [go_sem, ↓reduceIte, Nat.reduceEqDiff, Nat.reduceAdd, Nat.reduceMul, Nat.reduceBEq, Option.getD_none, Int.reduceToNat, Nat.reduceSub, Nat.reduceLT, Nat.reduceLeDiff, Int.reduceLE, Int.reduceLT, reduceCtorEq, q0, h6, hmq]; try rfl, by dsimp only; omega, hxs2⟩, ⟨_, by simp only [go_sem, ↓reduceIte, Nat.reduceEqDiff, Nat.reduceAdd, Nat.reduceMul, Nat.reduceBEq, Option.getD_none, Int.reduceToNat, Nat.reduceSub, Nat.reduceLT, Nat.reduceLeDiff, Int.reduceLE, Int.reduceLT, reduceCtorEq, q0, h6, hmq]; try rfl, by simp only [go_sem, ↓reduceIte, Nat.reduceEqDiff, Nat.reduceAdd, Nat.reduceMul, Nat.reduceBEq, Option.getD_none, Int.reduceToNat, Nat.reduceSub, Nat.reduceLT, Nat.reduceLeDiff, Int.reduceLE, Int.reduceLT, reduceCtorEq, q0, h6, hmq]; try rfl⟩, nm, w, hnm, by rcases hnm with rfl | rfl <;> simp only [go_sem, ↓reduceIte, Nat.reduceEqDiff, Nat.reduceAdd, Nat.reduceMul, Nat.reduceBEq, Option.getD_none, Int.reduceToNat, Nat.reduceSub, Nat.reduceLT, Nat.reduceLeDiff, Int.reduceLE, Int.reduceLT, reduceCtorEq, h5, q0, h6, hmq], by rcases hnm with rfl | rfl <;> simp only [go_sem, ↓reduceIte, Nat.reduceEqDiff, Nat.reduceAdd, Nat.reduceMul, Nat.reduceBEq, Option.getD_none, Int.reduceToNat, Nat.reduceSub, Nat.reduceLT, Nat.reduceLeDiff, Int.reduceLE, Int.reduceLT, reduceCtorEq, hm, q0, h6, hmq]⟩ ?_
    rintro ⟨k, o2, q2⟩ s2 M2 ⟨hk2, h26, kn, cq, hN, hy, hmu, ⟨v2, off2, xs2, h6', hmq', hxl', hxs'⟩, ⟨u, h24, hmN⟩, nm2, w2, hnm2, h5', hm'⟩ ho
    dsimp only at hk2 h26 kn cq hN hy hmu h6' hmq' hxl' hxs' h5' hm'
    have holen2 := kn.len hl hx
    unfold spec_l15Leads.b0
    have g25 : s2 25 = aI N.length := by rw [ho 25 rfl]; simp only [go_sem, ↓reduceIte, Nat.reduceEqDiff, Nat.reduceAdd, Nat.reduceMul, Nat.reduceBEq, Option.getD_none, Int.reduceToNat, Nat.reduceSub, Nat.reduceLT, Nat.reduceLeDiff, Int.reduceLE, Int.reduceLT, reduceCtorEq, q0, h6, hmq]
    clear ho
    by_cases hlt : k < N.length
    · have hi' : (k : Int) < N.length := by omega
      have ga : N[k]? = some N[k] := List.getElem?_eq_getElem hlt
      have hw : IntKind.i64.wrap ((k : Int) + 1) = ((k + 1 : Nat) : Int) := by rw [wrap_in (by omega) (by omega)]; omega
      have hz : Arc l y N[k] := (nmem _).1 (List.getElem_mem hlt)
      have htk : N.take (k + 1) = N.take k ++ [N[k]] := take_succ' hlt
      generalize N[k] = z at ga hz htk
      have q2len : q2.length ≤ 100 := by simp only [List.length_cons] at hmu hmb; omega
      have hb1 : (q2.length + 1) * 8 ≤ 70368744177664 := by omega
      cases hh : o2.any (· == z) with
      | true =>
        have hin : z ∈ o2 := by obtain ⟨z', hz', e⟩ := List.any_eq_true.1 hh; have : z' = z := (by simpa using e); subst this; exact hz'
        have hnm3 := hnm2
        rcases hnm2 with rfl | rfl <;>
        · simp only [go_sem, ↓reduceIte, Nat.reduceEqDiff, Nat.reduceAdd, Nat.reduceMul, Nat.reduceBEq, Option.getD_none, Int.reduceToNat, Nat.reduceSub, Nat.reduceLT, Nat.reduceLeDiff, Int.reduceLE, Int.reduceLT, reduceCtorEq, hi', ga, h5', hm', take_map_len, q0, h6, hmq, g25, h26, h6', hmq', h24, hmN]
          refine fcW_bool (spec_l1Has.fc o2 z (by omega)) ?_
          simp only [go_sem, ↓reduceIte, Nat.reduceEqDiff, Nat.reduceAdd, Nat.reduceMul, Nat.reduceBEq, Option.getD_none, Int.reduceToNat, Nat.reduceSub, Nat.reduceLT, Nat.reduceLeDiff, Int.reduceLE, Int.reduceLT, reduceCtorEq, hh, hw, q0, h6, hmq, g25, h26, h6', hmq', h24, hmN]
          exact ⟨(k + 1, o2, q2), by dsimp only; omega, by dsimp only; omega, by simp only [go_sem, ↓reduceIte, Nat.reduceEqDiff, Nat.reduceAdd, Nat.reduceMul, Nat.reduceBEq, Option.getD_none, Int.reduceToNat, Nat.reduceSub, Nat.reduceLT, Nat.reduceLeDiff, Int.reduceLE, Int.reduceLT, reduceCtorEq, q0, h6, hmq, g25, h26, h6', hmq', h24, hmN], kn, cq, fun z' h => by
            rw [htk] at h
            rcases List.mem_append.1 h with h | h
            · exact hN z' h
            · rw [List.mem_singleton] at h; subst h; exact hin, hy, hmu, ⟨v2, off2, xs2, by simp only [go_sem, ↓reduceIte, Nat.reduceEqDiff, Nat.reduceAdd, Nat.reduceMul, Nat.reduceBEq, Option.getD_none, Int.reduceToNat, Nat.reduceSub, Nat.reduceLT, Nat.reduceLeDiff, Int.reduceLE, Int.reduceLT, reduceCtorEq, q0, h6, hmq, g25, h26, h6', hmq', h24, hmN], by simp only [go_sem, ↓reduceIte, Nat.reduceEqDiff, Nat.reduceAdd, Nat.reduceMul, Nat.reduceBEq, Option.getD_none, Int.reduceToNat, Nat.reduceSub, Nat.reduceLT, Nat.reduceLeDiff, Int.reduceLE, Int.reduceLT, reduceCtorEq, q0, h6, hmq, g25, h26, h6', hmq', h24, hmN], hxl', hxs'⟩, ⟨u, by simp only [go_sem, ↓reduceIte, Nat.reduceEqDiff, Nat.reduceAdd, Nat.reduceMul, Nat.reduceBEq, Option.getD_none, Int.reduceToNat, Nat.reduceSub, Nat.reduceLT, Nat.reduceLeDiff, Int.reduceLE, Int.reduceLT, reduceCtorEq, q0, h6, hmq, g25, h26, h6', hmq', h24, hmN], by simp only [go_sem, ↓reduceIte, Nat.reduceEqDiff, Nat.reduceAdd, Nat.reduceMul, Nat.reduceBEq, Option.getD_none, Int.reduceToNat, Nat.reduceSub, Nat.reduceLT, Nat.reduceLeDiff, Int.reduceLE, Int.reduceLT, reduceCtorEq, q0, h6, hmq, g25, h26, h6', hmq', h24, hmN]⟩, _, w2, hnm3, by simp only [go_sem, ↓reduceIte, Nat.reduceEqDiff, Nat.reduceAdd, Nat.reduceMul, Nat.reduceBEq, Option.getD_none, Int.reduceToNat, Nat.reduceSub, Nat.reduceLT, Nat.reduceLeDiff, Int.reduceLE, Int.reduceLT, reduceCtorEq, h5', q0, h6, hmq, g25, h26, h6', hmq', h24, hmN], by simp only [go_sem, ↓reduceIte, Nat.reduceEqDiff, Nat.reduceAdd, Nat.reduceMul, Nat.reduceBEq, Option.getD_none, Int.reduceToNat, Nat.reduceSub, Nat.reduceLT, Nat.reduceLeDiff, Int.reduceLE, Int.reduceLT, reduceCtorEq, hm', q0, h6, hmq, g25, h26, h6', hmq', h24, hmN]⟩
      | false =>
        have hni : z ∉ o2 := fun hin => by
          have : o2.any (· == z) = true := List.any_eq_true.2 ⟨z, hin, by simp⟩
          rw [hh] at this; cases this
        have hro : Reach l x z := .step (kn.rc y hy) hz
        have pl := putI_len1 kn.inc hni
        have ap : q2.map Ii ++ [Ii z] = (q2 ++ [z]).map Ii := map_snoc
        have el : (q2 ++ [z]).length = q2.length + 1 := by simp
        have kn2 : Known l x (putI o2 z) (q2 ++ [z]) := ⟨putI_inc kn.inc, putI_mem.2 (.inr kn.hx), fun y' h => by
            rcases putI_mem.1 h with rfl | h
            · exact hro
            · exact kn.rc y' h, fun z' h => by
            rcases List.mem_append.1 h with h | h
            · exact putI_mem.2 (.inr (kn.qs z' h))
            · rw [List.mem_singleton] at h; subst h; exact putI_mem.2 (.inl rfl)⟩
        have cq2 : ClQ l (putI o2 z) (q2 ++ [z]) (· = y) := fun a ha hq hp b hab => by
          rcases putI_mem.1 ha with rfl | ha
          · exact absurd (List.mem_append_right _ (List.mem_singleton.2 rfl)) hq
          · exact putI_mem.2 (.inr (cq a ha (fun h => hq (List.mem_append_left _ h)) hp b hab))
        have hlen25 := kn2.len hl hx
        have hnm3 := hnm2
        rcases hnm2 with rfl | rfl <;>
        · simp only [go_sem, ↓reduceIte, Nat.reduceEqDiff, Nat.reduceAdd, Nat.reduceMul, Nat.reduceBEq, Option.getD_none, Int.reduceToNat, Nat.reduceSub, Nat.reduceLT, Nat.reduceLeDiff, Int.reduceLE, Int.reduceLT, reduceCtorEq, hi', ga, h5', hm', take_map_len, q0, h6, hmq, g25, h26, h6', hmq', h24, hmN]
          refine fcW_bool (spec_l1Has.fc o2 z (by omega)) ?_
          simp only [go_sem, ↓reduceIte, Nat.reduceEqDiff, Nat.reduceAdd, Nat.reduceMul, Nat.reduceBEq, Option.getD_none, Int.reduceToNat, Nat.reduceSub, Nat.reduceLT, Nat.reduceLeDiff, Int.reduceLE, Int.reduceLT, reduceCtorEq, hh, h5', hm', take_map_len, q0, h6, hmq, g25, h26, h6', hmq', h24, hmN]
          refine coW_of (spec_l1Put.fco o2 z (by omega)) noRs_ints rfl ?_
          simp only [go_sem, ↓reduceIte, Nat.reduceEqDiff, Nat.reduceAdd, Nat.reduceMul, Nat.reduceBEq, Option.getD_none, Int.reduceToNat, Nat.reduceSub, Nat.reduceLT, Nat.reduceLeDiff, Int.reduceLE, Int.reduceLT, reduceCtorEq, hw, hxl', hb1, hxs', ap, q0, h6, hmq, g25, h26, h6', hmq', h24, hmN]
          exact ⟨(k + 1, putI o2 z, q2 ++ [z]), by dsimp only; omega, by dsimp only; omega, by simp only [go_sem, ↓reduceIte, Nat.reduceEqDiff, Nat.reduceAdd, Nat.reduceMul, Nat.reduceBEq, Option.getD_none, Int.reduceToNat, Nat.reduceSub, Nat.reduceLT, Nat.reduceLeDiff, Int.reduceLE, Int.reduceLT, reduceCtorEq, q0, h6, hmq, g25, h26, h6', hmq', h24, hmN], kn2, cq2, fun z' h => by
            rw [htk] at h
            rcases List.mem_append.1 h with h | h
            · exact putI_mem.2 (.inr (hN z' h))
            · rw [List.mem_singleton] at h; subst h; exact putI_mem.2 (.inl rfl), putI_mem.2 (.inr hy), by rw [el, pl]; simp only [List.length_cons] at hmu ⊢; omega, ⟨_, 0, (q2 ++ [z]).map Ii, by rw [el]; simp only [go_sem, ↓reduceIte, Nat.reduceEqDiff, Nat.reduceAdd, Nat.reduceMul, Nat.reduceBEq, Option.getD_none, Int.reduceToNat, Nat.reduceSub, Nat.reduceLT, Nat.reduceLeDiff, Int.reduceLE, Int.reduceLT, reduceCtorEq, q0, h6, hmq, g25, h26, h6', hmq', h24, hmN]; try rfl, by simp only [go_sem, ↓reduceIte, Nat.reduceEqDiff, Nat.reduceAdd, Nat.reduceMul, Nat.reduceBEq, Option.getD_none, Int.reduceToNat, Nat.reduceSub, Nat.reduceLT, Nat.reduceLeDiff, Int.reduceLE, Int.reduceLT, reduceCtorEq, q0, h6, hmq, g25, h26, h6', hmq', h24, hmN]; try rfl, by simp, by rw [List.drop_zero]; exact List.take_of_length_le (by simp)⟩, ⟨u, by simp only [go_sem, ↓reduceIte, Nat.reduceEqDiff, Nat.reduceAdd, Nat.reduceMul, Nat.reduceBEq, Option.getD_none, Int.reduceToNat, Nat.reduceSub, Nat.reduceLT, Nat.reduceLeDiff, Int.reduceLE, Int.reduceLT, reduceCtorEq, q0, h6, hmq, g25, h26, h6', hmq', h24, hmN], by simp only [go_sem, ↓reduceIte, Nat.reduceEqDiff, Nat.reduceAdd, Nat.reduceMul, Nat.reduceBEq, Option.getD_none, Int.reduceToNat, Nat.reduceSub, Nat.reduceLT, Nat.reduceLeDiff, Int.reduceLE, Int.reduceLT, reduceCtorEq, q0, h6, hmq, g25, h26, h6', hmq', h24, hmN]⟩, 2112, _, .inr rfl, by simp only [go_sem, ↓reduceIte, Nat.reduceEqDiff, Nat.reduceAdd, Nat.reduceMul, Nat.reduceBEq, Option.getD_none, Int.reduceToNat, Nat.reduceSub, Nat.reduceLT, Nat.reduceLeDiff, Int.reduceLE, Int.reduceLT, reduceCtorEq, q0, h6, hmq, g25, h26, h6', hmq', h24, hmN]; try rfl, by simp only [go_sem, ↓reduceIte, Nat.reduceEqDiff, Nat.reduceAdd, Nat.reduceMul, Nat.reduceBEq, Option.getD_none, Int.reduceToNat, Nat.reduceSub, Nat.reduceLT, Nat.reduceLeDiff, Int.reduceLE, Int.reduceLT, reduceCtorEq, q0, h6, hmq, g25, h26, h6', hmq', h24, hmN]; try rfl⟩
    · have hi' : ¬ (k : Int) < N.length := by omega
      obtain rfl : k = N.length := by omega
      rw [List.take_length] at hN
      simp only [go_sem, ↓reduceIte, Nat.reduceEqDiff, Nat.reduceAdd, Nat.reduceMul, Nat.reduceBEq, Option.getD_none, Int.reduceToNat, Nat.reduceSub, Nat.reduceLT, Nat.reduceLeDiff, Int.reduceLE, Int.reduceLT, reduceCtorEq, Int.lt_irrefl, q0, h6, hmq, g25, h26, h6', hmq', h24, hmN]
      exact ⟨(o2, q2), by dsimp only; omega, kn, fun a ha hq _ b hab => by
        by_cases hay : a = y
        · subst hay; exact hN b ((nmem b).2 hab)
        · exact cq a ha hq hay b hab, by simp only [List.length_cons] at hmu hmb; dsimp only; omega, ⟨v2, off2, xs2, by simp only [go_sem, ↓reduceIte, Nat.reduceEqDiff, Nat.reduceAdd, Nat.reduceMul, Nat.reduceBEq, Option.getD_none, Int.reduceToNat, Nat.reduceSub, Nat.reduceLT, Nat.reduceLeDiff, Int.reduceLE, Int.reduceLT, reduceCtorEq, q0, h6, hmq, g25, h26, h6', hmq', h24, hmN], by simp only [go_sem, ↓reduceIte, Nat.reduceEqDiff, Nat.reduceAdd, Nat.reduceMul, Nat.reduceBEq, Option.getD_none, Int.reduceToNat, Nat.reduceSub, Nat.reduceLT, Nat.reduceLeDiff, Int.reduceLE, Int.reduceLT, reduceCtorEq, q0, h6, hmq, g25, h26, h6', hmq', h24, hmN], hxl', hxs'⟩, nm2, w2, hnm2, by simp only [go_sem, ↓reduceIte, Nat.reduceEqDiff, Nat.reduceAdd, Nat.reduceMul, Nat.reduceBEq, Option.getD_none, Int.reduceToNat, Nat.reduceSub, Nat.reduceLT, Nat.reduceLeDiff, Int.reduceLE, Int.reduceLT, reduceCtorEq, h5', q0, h6, hmq, g25, h26, h6', hmq', h24, hmN], by rcases hnm2 with rfl | rfl <;> simp only [go_sem, ↓reduceIte, Nat.reduceEqDiff, Nat.reduceAdd, Nat.reduceMul, Nat.reduceBEq, Option.getD_none, Int.reduceToNat, Nat.reduceSub, Nat.reduceLT, Nat.reduceLeDiff, Int.reduceLE, Int.reduceLT, reduceCtorEq, hm', q0, h6, hmq, g25, h26, h6', hmq', h24, hmN]⟩
end Go.Vm.Ytdebllkmblakkaa
/- Walks: clauses of one or two literals. -/
namespace Go.Vm.Ytdebllkmblakkaa
open Go Go.Vm
set_option maxRecDepth 10000
set_option maxHeartbeats 4000000
set_option linter.unusedSimpArgs false
set_option linter.unusedVariables false

def twoB (c : List Int) : Bool := inB c.length 1 2
def isTwoB (v : Int) (l : List (List Int)) : Bool := goodC v l && l.all twoB
theorem impl_IsTwo_c1.fc (c : List Int) (hl : c.length ≤ 4294967296) : FCt prog F_impl_IsTwo_c1 [.ro] [ints c] (Bb (!twoB c)) [] := by
  refine fct_run impl_IsTwo_c1.ok rfl ?_
  simp only [go_sem, ↓reduceIte, Nat.reduceEqDiff, Nat.reduceAdd, Nat.reduceMul, Nat.reduceBEq, Option.getD_none, Int.reduceToNat, Nat.reduceSub, Nat.reduceLT, Nat.reduceLeDiff, Int.reduceLE, Int.reduceLT, reduceCtorEq]
  refine fcW_bool (impl_in.fc ..) ?_
  simp only [go_sem, ↓reduceIte, Nat.reduceEqDiff, Nat.reduceAdd, Nat.reduceMul, Nat.reduceBEq, Option.getD_none, Int.reduceToNat, Nat.reduceSub, Nat.reduceLT, Nat.reduceLeDiff, Int.reduceLE, Int.reduceLT, reduceCtorEq]
  rfl
theorem impl_IsTwo.fc (v : Int) (l : List (List Int)) (hl : l.length ≤ 4294967296) (hr : ∀ c ∈ l, c.length ≤ 4294967296) : FCt prog F_impl_IsTwo [.ro, .ro] [Ii v, intss l] (Bb (isTwoB v l)) [] := by
  refine fct_run impl_IsTwo.ok rfl ?_
  unfold isTwoB
  simp only [go_sem, ↓reduceIte, Nat.reduceEqDiff, Nat.reduceAdd, Nat.reduceMul, Nat.reduceBEq, Option.getD_none, Int.reduceToNat, Nat.reduceSub, Nat.reduceLT, Nat.reduceLeDiff, Int.reduceLE, Int.reduceLT, reduceCtorEq]
  refine fcW_bool (impl_GoodClauses.fc _ _ hl hr) ?_
  cases hg : goodC v l
  · simp only [go_sem, ↓reduceIte, Nat.reduceEqDiff, Nat.reduceAdd, Nat.reduceMul, Nat.reduceBEq, Option.getD_none, Int.reduceToNat, Nat.reduceSub, Nat.reduceLT, Nat.reduceLeDiff, Int.reduceLE, Int.reduceLT, reduceCtorEq]
  · simp only [go_sem, ↓reduceIte, Nat.reduceEqDiff, Nat.reduceAdd, Nat.reduceMul, Nat.reduceBEq, Option.getD_none, Int.reduceToNat, Nat.reduceSub, Nat.reduceLT, Nat.reduceLeDiff, Int.reduceLE, Int.reduceLT, reduceCtorEq]
    refine fcW_bool (slices_ContainsFunc__ssint_sint.fc l F_impl_IsTwo_c1 [] (fun c => !twoB c) hl (fun c hc => impl_IsTwo_c1.fc c (hr c hc))) ?_
    simp only [go_sem, ↓reduceIte, Nat.reduceEqDiff, Nat.reduceAdd, Nat.reduceMul, Nat.reduceBEq, Option.getD_none, Int.reduceToNat, Nat.reduceSub, Nat.reduceLT, Nat.reduceLeDiff, Int.reduceLE, Int.reduceLT, reduceCtorEq, any_not_all, Bool.not_not]
theorem spec_IsTwo.fc (v : Int) (l : List (List Int)) (hl : l.length ≤ 4294967296) (hr : ∀ c ∈ l, c.length ≤ 4294967296) : FCt prog F_spec_IsTwo [.ro, .ro] [Ii v, intss l] (Bb (isTwoB v l)) [] := by
  refine fct_run spec_IsTwo.ok rfl ?_
  unfold isTwoB
  simp only [go_sem, ↓reduceIte, Nat.reduceEqDiff, Nat.reduceAdd, Nat.reduceMul, Nat.reduceBEq, Option.getD_none, Int.reduceToNat, Nat.reduceSub, Nat.reduceLT, Nat.reduceLeDiff, Int.reduceLE, Int.reduceLT, reduceCtorEq]
  refine R_loop (α := Nat) (fun k s' M' => k ≤ l.length ∧ s' 9 = aI k ∧ (l.take k).all twoB = true) (fun k => l.length - k) 0 ⟨by omega, by simp only [go_sem, ↓reduceIte, Nat.reduceEqDiff, Nat.reduceAdd, Nat.reduceMul, Nat.reduceBEq, Option.getD_none, Int.reduceToNat, Nat.reduceSub, Nat.reduceLT, Nat.reduceLeDiff, Int.reduceLE, Int.reduceLT, reduceCtorEq]; rfl, by simp⟩ ?_
  rintro k s' M' ⟨hk, h9, hrr⟩ ho
  have h0 : s' 0 = aI v := by rw [ho 0 rfl]; simp only [go_sem, ↓reduceIte, Nat.reduceEqDiff, Nat.reduceAdd, Nat.reduceMul, Nat.reduceBEq, Option.getD_none, Int.reduceToNat, Nat.reduceSub, Nat.reduceLT, Nat.reduceLeDiff, Int.reduceLE, Int.reduceLT, reduceCtorEq]
  have h1 : s' 1 = .dat none (intss l) := by rw [ho 1 rfl]; simp only [go_sem, ↓reduceIte, Nat.reduceEqDiff, Nat.reduceAdd, Nat.reduceMul, Nat.reduceBEq, Option.getD_none, Int.reduceToNat, Nat.reduceSub, Nat.reduceLT, Nat.reduceLeDiff, Int.reduceLE, Int.reduceLT, reduceCtorEq]
  have h7 : s' 7 = .dat none (intss l) := by rw [ho 7 rfl]; simp only [go_sem, ↓reduceIte, Nat.reduceEqDiff, Nat.reduceAdd, Nat.reduceMul, Nat.reduceBEq, Option.getD_none, Int.reduceToNat, Nat.reduceSub, Nat.reduceLT, Nat.reduceLeDiff, Int.reduceLE, Int.reduceLT, reduceCtorEq]
  have h8 : s' 8 = aI l.length := by rw [ho 8 rfl]; simp only [go_sem, ↓reduceIte, Nat.reduceEqDiff, Nat.reduceAdd, Nat.reduceMul, Nat.reduceBEq, Option.getD_none, Int.reduceToNat, Nat.reduceSub, Nat.reduceLT, Nat.reduceLeDiff, Int.reduceLE, Int.reduceLT, reduceCtorEq]
  clear ho
  unfold spec_IsTwo.b0
  by_cases hlt : k < l.length
  · have hi' : (k : Int) < l.length := by omega
    have ga : l[k]? = some l[k] := List.getElem?_eq_getElem hlt
    have hw : IntKind.i64.wrap (k + 1) = ((k + 1 : Nat) : Int) := wrap_k hlt (by omega)
    simp only [go_sem, ↓reduceIte, Nat.reduceEqDiff, Nat.reduceAdd, Nat.reduceMul, Nat.reduceBEq, Option.getD_none, Int.reduceToNat, Nat.reduceSub, Nat.reduceLT, Nat.reduceLeDiff, Int.reduceLE, Int.reduceLT, reduceCtorEq, hi', ga, h0, h1, h7, h8, h9]
    refine fcW_bool (spec_l1In.fc ..) ?_
    cases hc : inB (l[k].length : Int) 1 2 with
    | false => simp only [go_sem, ↓reduceIte, Nat.reduceEqDiff, Nat.reduceAdd, Nat.reduceMul, Nat.reduceBEq, Option.getD_none, Int.reduceToNat, Nat.reduceSub, Nat.reduceLT, Nat.reduceLeDiff, Int.reduceLE, Int.reduceLT, reduceCtorEq, not_all (p := twoB) hlt hc, h0, h1, h7, h8, h9]
    | true =>
      simp only [go_sem, ↓reduceIte, Nat.reduceEqDiff, Nat.reduceAdd, Nat.reduceMul, Nat.reduceBEq, Option.getD_none, Int.reduceToNat, Nat.reduceSub, Nat.reduceLT, Nat.reduceLeDiff, Int.reduceLE, Int.reduceLT, reduceCtorEq, hw, h0, h1, h7, h8, h9]
      exact ⟨k + 1, by dsimp only; omega, by omega, by simp only [go_sem, ↓reduceIte, Nat.reduceEqDiff, Nat.reduceAdd, Nat.reduceMul, Nat.reduceBEq, Option.getD_none, Int.reduceToNat, Nat.reduceSub, Nat.reduceLT, Nat.reduceLeDiff, Int.reduceLE, Int.reduceLT, reduceCtorEq, h0, h1, h7, h8, h9], all_take hlt hrr hc⟩
  · have hi' : ¬ (k : Int) < l.length := by omega
    rw [List.take_of_length_le (by omega)] at hrr
    simp only [go_sem, ↓reduceIte, Nat.reduceEqDiff, Nat.reduceAdd, Nat.reduceMul, Nat.reduceBEq, Option.getD_none, Int.reduceToNat, Nat.reduceSub, Nat.reduceLT, Nat.reduceLeDiff, Int.reduceLE, Int.reduceLT, reduceCtorEq, hi', h0, h1, h7, h8, h9]
    refine fcW_bool (spec_GoodClauses.fc _ _ hl hr) ?_
    simp only [go_sem, ↓reduceIte, Nat.reduceEqDiff, Nat.reduceAdd, Nat.reduceMul, Nat.reduceBEq, Option.getD_none, Int.reduceToNat, Nat.reduceSub, Nat.reduceLT, Nat.reduceLeDiff, Int.reduceLE, Int.reduceLT, reduceCtorEq, hrr, h0, h1, h7, h8, h9]
end Go.Vm.Ytdebllkmblakkaa
/- Walks: 2-SAT: a literal's followers, opposed variables. -/
namespace Go.Vm.Ytdebllkmblakkaa
open Go Go.Vm
set_option maxRecDepth 10000
set_option maxHeartbeats 16000000
set_option linter.unusedSimpArgs false
set_option linter.unusedVariables false

/-- clauses of one or two literals, of variables that differ -/
structure TwoOk (v : Nat) (l : List (List Int)) : Prop where
  hv : v ≤ 12
  lits : LitsOk v l
  two : Two l
  dist : ∀ n o, [n, o] ∈ l → n ≠ o
  len : l.length ≤ 60
  cl : ∀ c ∈ l, c.length ≤ 12
theorem two_ok {v : Int} {l : List (List Int)} (h : isTwoB v l = true) : 0 ≤ v ∧ v = (v.toNat : Int) ∧ TwoOk v.toNat l := by
  have h0 := h
  simp only [isTwoB, Bool.and_eq_true] at h
  obtain ⟨hg, ht⟩ := h
  have hlit := goodC_lit hg
  simp only [goodC, Bool.and_eq_true, decide_eq_true_eq, List.all_eq_true] at hg
  obtain ⟨⟨hv, hl⟩, hc⟩ := hg
  simp only [inB, Bool.and_eq_true, decide_eq_true_eq] at hv
  have htt : ∀ c ∈ l, c.length = 1 ∨ c.length = 2 := fun c hcm => by
    have := List.all_eq_true.1 ht c hcm
    simp only [twoB, inB, Bool.and_eq_true, decide_eq_true_eq] at this
    omega
  refine ⟨hv.1, by omega, by omega, fun c hcm n hn => ?_, htt, fun n o hm e => ?_, hl, fun c hcm => by have := htt c hcm; omega⟩
  · have := hlit c hcm n hn
    simp only [litB, inB, Bool.and_eq_true, decide_eq_true_eq, bne_iff_ne] at this
    unfold Lit
    refine ⟨this.1, by omega, by omega⟩
  · subst e
    have := hc _ hm
    simp only [clauseB, Bool.and_eq_true] at this
    have := List.all_eq_true.1 this.1 1 (by simp)
    simp [clAt] at this
theorem impl_leads.fc (v : Nat) (l : List (List Int)) (x y : Int) (h : TwoOk v l) (hx : Lit v x) :
    FCt prog F_impl_leads [.ro, .ro, .ro] [intss l, Ii x, Ii y] (Bb ((reachL v l x).any (· == y))) [] := by
  refine fct_run impl_leads.ok rfl ?_
  have hr := reachL_len v l x
  have := h.hv
  simp only [go_sem, ↓reduceIte, Nat.reduceEqDiff, Nat.reduceAdd, Nat.reduceMul, Nat.reduceBEq, Option.getD_none, Int.reduceToNat, Nat.reduceSub, Nat.reduceLT, Nat.reduceLeDiff, Int.reduceLE, Int.reduceLT, reduceCtorEq]
  refine fcW_bd (impl_leadsTo.fc v l x h.hv h.lits hx h.len h.cl) noRs_ints ?_
  simp only [go_sem, ↓reduceIte, Nat.reduceEqDiff, Nat.reduceAdd, Nat.reduceMul, Nat.reduceBEq, Option.getD_none, Int.reduceToNat, Nat.reduceSub, Nat.reduceLT, Nat.reduceLeDiff, Int.reduceLE, Int.reduceLT, reduceCtorEq, take_map_len]
  refine fcW_bool (slices_Contains__sint_int.fc (reachL v l x) y (by omega)) ?_
  simp only [go_sem, ↓reduceIte, Nat.reduceEqDiff, Nat.reduceAdd, Nat.reduceMul, Nat.reduceBEq, Option.getD_none, Int.reduceToNat, Nat.reduceSub, Nat.reduceLT, Nat.reduceLeDiff, Int.reduceLE, Int.reduceLT, reduceCtorEq]
noncomputable def leadV (v : Int) (l : List (List Int)) (x : Int) : List Int × Bool := if isTwoB v l && litB x v then (reachL v.toNat l x, true) else ([], false)
theorem lit_of {v x : Int} (h0 : 0 ≤ v) (h : litB x v = true) : Lit v.toNat x := by
  simp only [litB, inB, Bool.and_eq_true, decide_eq_true_eq, bne_iff_ne] at h
  unfold Lit
  exact ⟨h.1, by omega, by omega⟩
theorem impl_LeadsTo.fc (v : Int) (l : List (List Int)) (x : Int) (hl : l.length ≤ 4294967296) (hr : ∀ c ∈ l, c.length ≤ 4294967296) :
    FCt prog F_impl_LeadsTo [.ro, .ro, .ro] [Ii v, intss l, Ii x] (.tup [ints (leadV v l x).1, Bb (leadV v l x).2]) [] := by
  refine fct_run impl_LeadsTo.ok rfl ?_
  unfold leadV
  simp only [go_sem, ↓reduceIte, Nat.reduceEqDiff, Nat.reduceAdd, Nat.reduceMul, Nat.reduceBEq, Option.getD_none, Int.reduceToNat, Nat.reduceSub, Nat.reduceLT, Nat.reduceLeDiff, Int.reduceLE, Int.reduceLT, reduceCtorEq]
  refine fcW_bool (impl_IsTwo.fc v l hl hr) ?_
  cases h : isTwoB v l with
  | false => simp only [go_sem, ↓reduceIte, Nat.reduceEqDiff, Nat.reduceAdd, Nat.reduceMul, Nat.reduceBEq, Option.getD_none, Int.reduceToNat, Nat.reduceSub, Nat.reduceLT, Nat.reduceLeDiff, Int.reduceLE, Int.reduceLT, reduceCtorEq]; try rfl
  | true =>
    obtain ⟨h0, h1, h2⟩ := two_ok h
    have hv := h2.hv
    simp only [go_sem, ↓reduceIte, Nat.reduceEqDiff, Nat.reduceAdd, Nat.reduceMul, Nat.reduceBEq, Option.getD_none, Int.reduceToNat, Nat.reduceSub, Nat.reduceLT, Nat.reduceLeDiff, Int.reduceLE, Int.reduceLT, reduceCtorEq]
    refine fcW_bool (impl_isLiteral.fc x v (by omega)) ?_
    cases hq : litB x v with
    | false => simp only [go_sem, ↓reduceIte, Nat.reduceEqDiff, Nat.reduceAdd, Nat.reduceMul, Nat.reduceBEq, Option.getD_none, Int.reduceToNat, Nat.reduceSub, Nat.reduceLT, Nat.reduceLeDiff, Int.reduceLE, Int.reduceLT, reduceCtorEq]; try rfl
    | true =>
      simp only [go_sem, ↓reduceIte, Nat.reduceEqDiff, Nat.reduceAdd, Nat.reduceMul, Nat.reduceBEq, Option.getD_none, Int.reduceToNat, Nat.reduceSub, Nat.reduceLT, Nat.reduceLeDiff, Int.reduceLE, Int.reduceLT, reduceCtorEq]
      refine fcW_bd (impl_leadsTo.fc v.toNat l x h2.hv h2.lits (lit_of h0 hq) h2.len h2.cl) noRs_ints ?_
      simp only [go_sem, ↓reduceIte, Nat.reduceEqDiff, Nat.reduceAdd, Nat.reduceMul, Nat.reduceBEq, Option.getD_none, Int.reduceToNat, Nat.reduceSub, Nat.reduceLT, Nat.reduceLeDiff, Int.reduceLE, Int.reduceLT, reduceCtorEq, take_map_len]
theorem spec_LeadsTo.fc (v : Int) (l : List (List Int)) (x : Int) (hl : l.length ≤ 4294967296) (hr : ∀ c ∈ l, c.length ≤ 4294967296) :
    FCt prog F_spec_LeadsTo [.ro, .ro, .ro] [Ii v, intss l, Ii x] (.tup [ints (leadV v l x).1, Bb (leadV v l x).2]) [] := by
  refine fct_run spec_LeadsTo.ok rfl ?_
  unfold leadV
  simp only [go_sem, ↓reduceIte, Nat.reduceEqDiff, Nat.reduceAdd, Nat.reduceMul, Nat.reduceBEq, Option.getD_none, Int.reduceToNat, Nat.reduceSub, Nat.reduceLT, Nat.reduceLeDiff, Int.reduceLE, Int.reduceLT, reduceCtorEq]
  refine fcW_bool (spec_IsTwo.fc v l hl hr) ?_
  cases h : isTwoB v l with
  | false => simp only [go_sem, ↓reduceIte, Nat.reduceEqDiff, Nat.reduceAdd, Nat.reduceMul, Nat.reduceBEq, Option.getD_none, Int.reduceToNat, Nat.reduceSub, Nat.reduceLT, Nat.reduceLeDiff, Int.reduceLE, Int.reduceLT, reduceCtorEq]; try rfl
  | true =>
    obtain ⟨h0, h1, h2⟩ := two_ok h
    have hv := h2.hv
    have hneg := neg_in (n := v) (by omega)
    cases hq0 : (x == 0) with
    | true =>
      have hq : litB x v = false := by unfold litB; rw [bne, hq0]; rfl
      simp only [go_sem, ↓reduceIte, Nat.reduceEqDiff, Nat.reduceAdd, Nat.reduceMul, Nat.reduceBEq, Option.getD_none, Int.reduceToNat, Nat.reduceSub, Nat.reduceLT, Nat.reduceLeDiff, Int.reduceLE, Int.reduceLT, reduceCtorEq, hq0, hq]; try rfl
    | false =>
      have hq : litB x v = inB x (-v) v := by unfold litB; rw [bne, hq0]; rfl
      simp only [go_sem, ↓reduceIte, Nat.reduceEqDiff, Nat.reduceAdd, Nat.reduceMul, Nat.reduceBEq, Option.getD_none, Int.reduceToNat, Nat.reduceSub, Nat.reduceLT, Nat.reduceLeDiff, Int.reduceLE, Int.reduceLT, reduceCtorEq, hq0, hneg]
      refine fcW_bool (spec_l1In.fc ..) ?_
      cases hq2 : inB x (-v) v with
      | false => simp only [go_sem, ↓reduceIte, Nat.reduceEqDiff, Nat.reduceAdd, Nat.reduceMul, Nat.reduceBEq, Option.getD_none, Int.reduceToNat, Nat.reduceSub, Nat.reduceLT, Nat.reduceLeDiff, Int.reduceLE, Int.reduceLT, reduceCtorEq, hq, hq2]; try rfl
      | true =>
        rw [hq2] at hq
        simp only [go_sem, ↓reduceIte, Nat.reduceEqDiff, Nat.reduceAdd, Nat.reduceMul, Nat.reduceBEq, Option.getD_none, Int.reduceToNat, Nat.reduceSub, Nat.reduceLT, Nat.reduceLeDiff, Int.reduceLE, Int.reduceLT, reduceCtorEq, hq]
        refine fcW_bd (spec_l15Leads.fc v.toNat l x h2.hv h2.lits h2.two h2.dist (lit_of h0 hq) h2.len) noRs_ints ?_
        simp only [go_sem, ↓reduceIte, Nat.reduceEqDiff, Nat.reduceAdd, Nat.reduceMul, Nat.reduceBEq, Option.getD_none, Int.reduceToNat, Nat.reduceSub, Nat.reduceLT, Nat.reduceLeDiff, Int.reduceLE, Int.reduceLT, reduceCtorEq, take_map_len, hq]
end Go.Vm.Ytdebllkmblakkaa
/- Walks: 2-SAT: literals that are fixed. -/
namespace Go.Vm.Ytdebllkmblakkaa
open Go Go.Vm
set_option maxRecDepth 10000
set_option maxHeartbeats 16000000
set_option linter.unusedSimpArgs false
set_option linter.unusedVariables false

theorem litsL_len (v : Nat) : (litsL v).length = 2 * v + 1 := by unfold litsL; simp
theorem litsL_get {v k : Nat} (h : k < 2 * v + 1) : (litsL v)[k]'(by rw [litsL_len]; exact h) = (k : Int) - (v : Int) := by
  unfold litsL
  rw [List.getElem_map, List.getElem_range]
end Go.Vm.Ytdebllkmblakkaa
/- Walks: 2-SAT: loops. -/
namespace Go.Vm.Ytdebllkmblakkaa
open Go Go.Vm
set_option maxRecDepth 10000
set_option maxHeartbeats 16000000
set_option linter.unusedSimpArgs false
set_option linter.unusedVariables false

/-- what x leads to and leads to x -/
noncomputable def compL (v : Nat) (l : List (List Int)) (x : Int) : List Int := (reachL v l x).filter fun y => (reachL v l y).any (· == x)
noncomputable def headB (v : Nat) (l : List (List Int)) (x : Int) : Bool := (x != 0) && ((compL v l x).getD 0 0 == x)
noncomputable def loopsL (v : Nat) (l : List (List Int)) : List (List Int) := ((litsL v).filter (headB v l)).map (compL v l)
noncomputable def loopsK (v : Nat) (l : List (List Int)) (k : Nat) : List (List Int) := (((litsL v).take k).filter (headB v l)).map (compL v l)
theorem loopsK_len (v : Nat) (l : List (List Int)) (k : Nat) : (loopsK v l k).length ≤ k := by unfold loopsK; rw [List.length_map]; exact filter_few
theorem loopsK_end (v : Nat) (l : List (List Int)) : loopsK v l (2 * v + 1) = loopsL v l := by
  unfold loopsK loopsL
  rw [List.take_of_length_le (by rw [litsL_len]; exact Nat.le_refl _)]
theorem loopsK_step {v : Nat} {l : List (List Int)} {k : Nat} {x : Int} (hk : k < 2 * v + 1) (hx : (k : Int) - v = x) : loopsK v l (k + 1) = loopsK v l k ++ (if headB v l x then [compL v l x] else []) := by
  unfold loopsK
  rw [filter_step (by rw [litsL_len]; exact hk), litsL_get hk, hx, List.map_append]
  split <;> rfl
theorem compL_len (v : Nat) (l : List (List Int)) (x : Int) : (compL v l x).length ≤ 2 * v + 1 :=
  Nat.le_trans (List.length_filter_le _ _) (reachL_len v l x)
theorem self_in {v : Nat} {l : List (List Int)} {x : Int} (h : TwoOk v l) (hx : Lit v x) : (reachL v l x).any (· == x) = true :=
  List.any_eq_true.2 ⟨x, (reachL_mem fun y => reach_lit h.lits hx).2 .refl, by simp⟩
theorem compL_self {v : Nat} {l : List (List Int)} {x : Int} (h : TwoOk v l) (hx : Lit v x) : x ∈ compL v l x :=
  List.mem_filter.2 ⟨(reachL_mem fun y => reach_lit h.lits hx).2 .refl, self_in h hx⟩
noncomputable def loopsD (v : Int) (l : List (List Int)) : List (List Int) × Bool := if isTwoB v l then (loopsL v.toNat l, true) else ([], false)
theorem impl_LoopsOf_c1.fc (v : Nat) (l : List (List Int)) (x y : Int) (h : TwoOk v l) (hy : Lit v y) :
    FCt prog F_impl_LoopsOf_c1 [.ro, .ro, .ro] [Ii y, .ptr (intss l), .ptr (Ii x)] (Bb (!(reachL v l y).any (· == x))) [] := by
  refine fct_run impl_LoopsOf_c1.ok rfl ?_
  simp only [go_sem, ↓reduceIte, Nat.reduceEqDiff, Nat.reduceAdd, Nat.reduceMul, Nat.reduceBEq, Option.getD_none, Int.reduceToNat, Nat.reduceSub, Nat.reduceLT, Nat.reduceLeDiff, Int.reduceLE, Int.reduceLT, reduceCtorEq]
  refine fcW_bool (impl_leads.fc v l y x h hy) ?_
  simp only [go_sem, ↓reduceIte, Nat.reduceEqDiff, Nat.reduceAdd, Nat.reduceMul, Nat.reduceBEq, Option.getD_none, Int.reduceToNat, Nat.reduceSub, Nat.reduceLT, Nat.reduceLeDiff, Int.reduceLE, Int.reduceLT, reduceCtorEq]
theorem impl_LoopsOf.fc (v : Int) (l : List (List Int)) (hl : l.length ≤ 4294967296) (hr : ∀ c ∈ l, c.length ≤ 4294967296) :
    FCt prog F_impl_LoopsOf [.ro, .ro] [Ii v, intss l] (.tup [intss (loopsD v l).1, Bb (loopsD v l).2]) [] := by
  refine fct_run impl_LoopsOf.ok rfl ?_
  unfold loopsD
  simp only [go_sem, ↓reduceIte, Nat.reduceEqDiff, Nat.reduceAdd, Nat.reduceMul, Nat.reduceBEq, Option.getD_none, Int.reduceToNat, Nat.reduceSub, Nat.reduceLT, Nat.reduceLeDiff, Int.reduceLE, Int.reduceLT, reduceCtorEq]
  refine fcW_bool (impl_IsTwo.fc v l hl hr) ?_
  cases h : isTwoB v l with
  | false => simp only [go_sem, ↓reduceIte, Nat.reduceEqDiff, Nat.reduceAdd, Nat.reduceMul, Nat.reduceBEq, Option.getD_none, Int.reduceToNat, Nat.reduceSub, Nat.reduceLT, Nat.reduceLeDiff, Int.reduceLE, Int.reduceLT, reduceCtorEq]; try rfl
  | true =>
    obtain ⟨h0, h1, h2⟩ := two_ok h
    have hv := h2.hv
    generalize v.toNat = v at h1 h2 hv
    subst h1
    have hnv := neg_in (n := (v : Int)) (by omega)
    simp only [go_sem, ↓reduceIte, Nat.reduceEqDiff, Nat.reduceAdd, Nat.reduceMul, Nat.reduceBEq, Option.getD_none, Int.reduceToNat, Nat.reduceSub, Nat.reduceLT, Nat.reduceLeDiff, Int.reduceLE, Int.reduceLT, reduceCtorEq, hnv]
    refine R_loop (α := Nat) (fun k s' M' => k ≤ 2 * v + 1 ∧ (∃ nm b, (nm = 832 ∨ nm = 2368) ∧ s' 7 = .ptr nm b 0 none ∧ M'.m nm = some (.box b (aI ((k : Int) - v)))) ∧ M'.m 64 = some (.box 0 (.dat none (intss l))) ∧ ∃ w, s' 6 = .sl 2176 w 0 (loopsK v l k).length 1 ∧ M'.m 2176 = some (.arr w true 1 ((loopsK v l k).map ints))) (fun k => 2 * v + 1 - k) 0
      ⟨by omega, ⟨832, _, .inl rfl, by simp only [go_sem, ↓reduceIte, Nat.reduceEqDiff, Nat.reduceAdd, Nat.reduceMul, Nat.reduceBEq, Option.getD_none, Int.reduceToNat, Nat.reduceSub, Nat.reduceLT, Nat.reduceLeDiff, Int.reduceLE, Int.reduceLT, reduceCtorEq]; rfl, by simp only [go_sem, ↓reduceIte, Nat.reduceEqDiff, Nat.reduceAdd, Nat.reduceMul, Nat.reduceBEq, Option.getD_none, Int.reduceToNat, Nat.reduceSub, Nat.reduceLT, Nat.reduceLeDiff, Int.reduceLE, Int.reduceLT, reduceCtorEq, show ((0 : Nat) : Int) - v = -v by omega]; try rfl⟩, by simp only [go_sem, ↓reduceIte, Nat.reduceEqDiff, Nat.reduceAdd, Nat.reduceMul, Nat.reduceBEq, Option.getD_none, Int.reduceToNat, Nat.reduceSub, Nat.reduceLT, Nat.reduceLeDiff, Int.reduceLE, Int.reduceLT, reduceCtorEq]; try rfl, _, by simp only [go_sem, ↓reduceIte, Nat.reduceEqDiff, Nat.reduceAdd, Nat.reduceMul, Nat.reduceBEq, Option.getD_none, Int.reduceToNat, Nat.reduceSub, Nat.reduceLT, Nat.reduceLeDiff, Int.reduceLE, Int.reduceLT, reduceCtorEq]; rfl, by simp only [go_sem, ↓reduceIte, Nat.reduceEqDiff, Nat.reduceAdd, Nat.reduceMul, Nat.reduceBEq, Option.getD_none, Int.reduceToNat, Nat.reduceSub, Nat.reduceLT, Nat.reduceLeDiff, Int.reduceLE, Int.reduceLT, reduceCtorEq]; rfl⟩ ?_
    rintro k s' M' ⟨hk, ⟨nm, b, hnm, h7, hb⟩, hb64, w, h6, hm⟩ ho'
    unfold impl_LoopsOf.b0
    have q0 : s' 0 = .dat none (Ii v) := by rw [ho' 0 rfl]; simp only [go_sem, ↓reduceIte, Nat.reduceEqDiff, Nat.reduceAdd, Nat.reduceMul, Nat.reduceBEq, Option.getD_none, Int.reduceToNat, Nat.reduceSub, Nat.reduceLT, Nat.reduceLeDiff, Int.reduceLE, Int.reduceLT, reduceCtorEq]
    have q3 : s' 3 = .ptr 64 0 0 none := by rw [ho' 3 rfl]; simp only [go_sem, ↓reduceIte, Nat.reduceEqDiff, Nat.reduceAdd, Nat.reduceMul, Nat.reduceBEq, Option.getD_none, Int.reduceToNat, Nat.reduceSub, Nat.reduceLT, Nat.reduceLeDiff, Int.reduceLE, Int.reduceLT, reduceCtorEq]
    clear ho'
    by_cases hlt : k < 2 * v + 1
    · have hi' : (k : Int) - v ≤ v := by omega
      have hfl := loopsK_len v l k
      have hbb : ((loopsK v l k).length + 1) * 24 ≤ 70368744177664 := by omega
      have hw : IntKind.i64.wrap ((k : Int) - v + 1) = ((k + 1 : Nat) : Int) - v := by rw [wrap_in (by omega) (by omega)]; omega
      have hst := fun x hx => loopsK_step (v := v) (l := l) (k := k) (x := x) hlt hx
      generalize hx : (k : Int) - v = x at h7 hb hi' hw
      replace hst := hst x hx
      have hxr : -(v : Int) ≤ x ∧ x ≤ v := by omega
      have next : ∀ (s3 : Nat → AV) (M3 : Mem) (o : List Int), True → True := fun _ _ _ h => h
      rcases hnm with rfl | rfl <;>
      · simp only [go_sem, ↓reduceIte, Nat.reduceEqDiff, Nat.reduceAdd, Nat.reduceMul, Nat.reduceBEq, Option.getD_none, Int.reduceToNat, Nat.reduceSub, Nat.reduceLT, Nat.reduceLeDiff, Int.reduceLE, Int.reduceLT, reduceCtorEq, hi', hb, q0, q3, h7, h6, hm, hb64]
        cases hq : (x == 0) with
        | true =>
          have hq2 : (x != 0) = false := by rw [bne, hq]; rfl
          have hst2 := hst
          simp only [headB, hq2, Bool.false_and, Bool.false_eq_true, if_false, List.append_nil] at hst2
          simp only [go_sem, ↓reduceIte, Nat.reduceEqDiff, Nat.reduceAdd, Nat.reduceMul, Nat.reduceBEq, Option.getD_none, Int.reduceToNat, Nat.reduceSub, Nat.reduceLT, Nat.reduceLeDiff, Int.reduceLE, Int.reduceLT, reduceCtorEq, hq, hb, hw, q0, q3, h7, h6, hm, hb64]
          exact ⟨k + 1, by dsimp only; omega, by omega, ⟨2368, _, .inr rfl, by simp only [go_sem, ↓reduceIte, Nat.reduceEqDiff, Nat.reduceAdd, Nat.reduceMul, Nat.reduceBEq, Option.getD_none, Int.reduceToNat, Nat.reduceSub, Nat.reduceLT, Nat.reduceLeDiff, Int.reduceLE, Int.reduceLT, reduceCtorEq, q0, q3, h7, h6, hm, hb64]; rfl, by simp only [go_sem, ↓reduceIte, Nat.reduceEqDiff, Nat.reduceAdd, Nat.reduceMul, Nat.reduceBEq, Option.getD_none, Int.reduceToNat, Nat.reduceSub, Nat.reduceLT, Nat.reduceLeDiff, Int.reduceLE, Int.reduceLT, reduceCtorEq, q0, q3, h7, h6, hm, hb64]; try rfl⟩, by simp only [go_sem, ↓reduceIte, Nat.reduceEqDiff, Nat.reduceAdd, Nat.reduceMul, Nat.reduceBEq, Option.getD_none, Int.reduceToNat, Nat.reduceSub, Nat.reduceLT, Nat.reduceLeDiff, Int.reduceLE, Int.reduceLT, reduceCtorEq, q0, q3, h7, h6, hm, hb64], w, by rw [hst2]; simp only [go_sem, ↓reduceIte, Nat.reduceEqDiff, Nat.reduceAdd, Nat.reduceMul, Nat.reduceBEq, Option.getD_none, Int.reduceToNat, Nat.reduceSub, Nat.reduceLT, Nat.reduceLeDiff, Int.reduceLE, Int.reduceLT, reduceCtorEq, q0, q3, h7, h6, hm, hb64]; try rfl, by rw [hst2]; simp only [go_sem, ↓reduceIte, Nat.reduceEqDiff, Nat.reduceAdd, Nat.reduceMul, Nat.reduceBEq, Option.getD_none, Int.reduceToNat, Nat.reduceSub, Nat.reduceLT, Nat.reduceLeDiff, Int.reduceLE, Int.reduceLT, reduceCtorEq, q0, q3, h7, h6, hm, hb64]; try rfl⟩
        | false =>
          have hq2 : (x != 0) = true := by rw [bne, hq]; rfl
          have hxl : Lit v x := by
            have : x ≠ 0 := by simpa using hq
            unfold Lit; omega
          have hrl := reachL_len v l x
          simp only [go_sem, ↓reduceIte, Nat.reduceEqDiff, Nat.reduceAdd, Nat.reduceMul, Nat.reduceBEq, Option.getD_none, Int.reduceToNat, Nat.reduceSub, Nat.reduceLT, Nat.reduceLeDiff, Int.reduceLE, Int.reduceLT, reduceCtorEq, hq, hb, q0, q3, h7, h6, hm, hb64]
          refine fcW_bd (impl_leadsTo.fc v l x h2.hv h2.lits hxl h2.len h2.cl) noRs_ints ?_
          simp only [go_sem, ↓reduceIte, Nat.reduceEqDiff, Nat.reduceAdd, Nat.reduceMul, Nat.reduceBEq, Option.getD_none, Int.reduceToNat, Nat.reduceSub, Nat.reduceLT, Nat.reduceLeDiff, Int.reduceLE, Int.reduceLT, reduceCtorEq, hb, take_map_len, q0, q3, h7, h6, hm, hb64]
          refine coW_of (slices_DeleteFunc__sint_int.fc (reachL v l x) F_impl_LoopsOf_c1 [.ptr (intss l), .ptr (Ii x)] (fun y => !(reachL v l y).any (· == x)) (by omega) (fun y hy => impl_LoopsOf_c1.fc v l x y h2 (reach_lit h2.lits hxl ((reachL_mem fun y => reach_lit h2.lits hxl).1 hy)))) noRs_ints rfl ?_
          have e : (reachL v l x).filter (fun y => !!(reachL v l y).any (· == x)) = compL v l x := by simp [compL]
          rw [e]
          have hcl := compL_len v l x
          have hself := compL_self h2 hxl
          have hst2 := hst
          simp only [headB, hq2, Bool.true_and] at hst2
          generalize hC : compL v l x = C at hst2 hcl hself ⊢
          cases C with
          | nil => cases hself
          | cons c C =>
            have hg0 : (c :: C).getD 0 0 = c := rfl
            rw [hg0] at hst2
            have i0 : (0 : Int) < ((C.length + 1 : Nat) : Int) := by omega
            simp only [go_sem, ↓reduceIte, Nat.reduceEqDiff, Nat.reduceAdd, Nat.reduceMul, Nat.reduceBEq, Option.getD_none, Int.reduceToNat, Nat.reduceSub, Nat.reduceLT, Nat.reduceLeDiff, Int.reduceLE, Int.reduceLT, reduceCtorEq, i0, q0, q3, h7, h6, hm, hb64]
            cases hq3 : (c == x) with
            | false =>
              simp only [hq3, Bool.false_eq_true, if_false, List.append_nil] at hst2
              simp only [go_sem, ↓reduceIte, Nat.reduceEqDiff, Nat.reduceAdd, Nat.reduceMul, Nat.reduceBEq, Option.getD_none, Int.reduceToNat, Nat.reduceSub, Nat.reduceLT, Nat.reduceLeDiff, Int.reduceLE, Int.reduceLT, reduceCtorEq, hq3, hb, hw, q0, q3, h7, h6, hm, hb64]
              exact ⟨k + 1, by dsimp only; omega, by omega, ⟨2368, _, .inr rfl, by simp only [go_sem, ↓reduceIte, Nat.reduceEqDiff, Nat.reduceAdd, Nat.reduceMul, Nat.reduceBEq, Option.getD_none, Int.reduceToNat, Nat.reduceSub, Nat.reduceLT, Nat.reduceLeDiff, Int.reduceLE, Int.reduceLT, reduceCtorEq, q0, q3, h7, h6, hm, hb64]; rfl, by simp only [go_sem, ↓reduceIte, Nat.reduceEqDiff, Nat.reduceAdd, Nat.reduceMul, Nat.reduceBEq, Option.getD_none, Int.reduceToNat, Nat.reduceSub, Nat.reduceLT, Nat.reduceLeDiff, Int.reduceLE, Int.reduceLT, reduceCtorEq, q0, q3, h7, h6, hm, hb64]; try rfl⟩, by simp only [go_sem, ↓reduceIte, Nat.reduceEqDiff, Nat.reduceAdd, Nat.reduceMul, Nat.reduceBEq, Option.getD_none, Int.reduceToNat, Nat.reduceSub, Nat.reduceLT, Nat.reduceLeDiff, Int.reduceLE, Int.reduceLT, reduceCtorEq, q0, q3, h7, h6, hm, hb64], w, by rw [hst2]; simp only [go_sem, ↓reduceIte, Nat.reduceEqDiff, Nat.reduceAdd, Nat.reduceMul, Nat.reduceBEq, Option.getD_none, Int.reduceToNat, Nat.reduceSub, Nat.reduceLT, Nat.reduceLeDiff, Int.reduceLE, Int.reduceLT, reduceCtorEq, q0, q3, h7, h6, hm, hb64]; try rfl, by rw [hst2]; simp only [go_sem, ↓reduceIte, Nat.reduceEqDiff, Nat.reduceAdd, Nat.reduceMul, Nat.reduceBEq, Option.getD_none, Int.reduceToNat, Nat.reduceSub, Nat.reduceLT, Nat.reduceLeDiff, Int.reduceLE, Int.reduceLT, reduceCtorEq, q0, q3, h7, h6, hm, hb64]; try rfl⟩
            | true =>
              simp only [hq3, if_true] at hst2
              simp only [go_sem, ↓reduceIte, Nat.reduceEqDiff, Nat.reduceAdd, Nat.reduceMul, Nat.reduceBEq, Option.getD_none, Int.reduceToNat, Nat.reduceSub, Nat.reduceLT, Nat.reduceLeDiff, Int.reduceLE, Int.reduceLT, reduceCtorEq, hq3, hb, hw, hbb, take_map_len, q0, q3, h7, h6, hm, hb64]
              exact ⟨k + 1, by dsimp only; omega, by omega, ⟨2368, _, .inr rfl, by simp only [go_sem, ↓reduceIte, Nat.reduceEqDiff, Nat.reduceAdd, Nat.reduceMul, Nat.reduceBEq, Option.getD_none, Int.reduceToNat, Nat.reduceSub, Nat.reduceLT, Nat.reduceLeDiff, Int.reduceLE, Int.reduceLT, reduceCtorEq, q0, q3, h7, h6, hm, hb64]; rfl, by simp only [go_sem, ↓reduceIte, Nat.reduceEqDiff, Nat.reduceAdd, Nat.reduceMul, Nat.reduceBEq, Option.getD_none, Int.reduceToNat, Nat.reduceSub, Nat.reduceLT, Nat.reduceLeDiff, Int.reduceLE, Int.reduceLT, reduceCtorEq, q0, q3, h7, h6, hm, hb64]; try rfl⟩, by simp only [go_sem, ↓reduceIte, Nat.reduceEqDiff, Nat.reduceAdd, Nat.reduceMul, Nat.reduceBEq, Option.getD_none, Int.reduceToNat, Nat.reduceSub, Nat.reduceLT, Nat.reduceLeDiff, Int.reduceLE, Int.reduceLT, reduceCtorEq, q0, q3, h7, h6, hm, hb64], _, by rw [hst2, List.length_append]; simp only [go_sem, ↓reduceIte, Nat.reduceEqDiff, Nat.reduceAdd, Nat.reduceMul, Nat.reduceBEq, Option.getD_none, Int.reduceToNat, Nat.reduceSub, Nat.reduceLT, Nat.reduceLeDiff, Int.reduceLE, Int.reduceLT, reduceCtorEq, q0, q3, h7, h6, hm, hb64]; try rfl, by rw [hst2, List.map_append]; simp only [go_sem, ↓reduceIte, Nat.reduceEqDiff, Nat.reduceAdd, Nat.reduceMul, Nat.reduceBEq, Option.getD_none, Int.reduceToNat, Nat.reduceSub, Nat.reduceLT, Nat.reduceLeDiff, Int.reduceLE, Int.reduceLT, reduceCtorEq, q0, q3, h7, h6, hm, hb64]; try rfl⟩
    · obtain rfl : k = 2 * v + 1 := by omega
      have hn : ¬ (((2 * v + 1 : Nat) : Int) - v ≤ v) := by omega
      rw [loopsK_end] at h6 hm
      rcases hnm with rfl | rfl <;> simp only [go_sem, ↓reduceIte, Nat.reduceEqDiff, Nat.reduceAdd, Nat.reduceMul, Nat.reduceBEq, Option.getD_none, Int.reduceToNat, Nat.reduceSub, Nat.reduceLT, Nat.reduceLeDiff, Int.reduceLE, Int.reduceLT, reduceCtorEq, hn, h6, hm, hb, take_map_len, q0, q3, h7, h6, hm, hb64]
end Go.Vm.Ytdebllkmblakkaa
/- Walks: 2-SAT: loops, by the reference. -/
namespace Go.Vm.Ytdebllkmblakkaa
open Go Go.Vm
set_option maxRecDepth 10000
set_option maxHeartbeats 16000000
set_option linter.unusedSimpArgs false
set_option linter.unusedVariables false

theorem Reach.trans {l : List (List Int)} {x y z : Int} (h1 : Reach l x y) (h2 : Reach l y z) : Reach l x z := by
  induction h2 with
  | refl => exact h1
  | step _ ha ih => exact .step ih ha
theorem any_eq {o : List Int} {x : Int} : o.any (· == x) = true ↔ x ∈ o := by
  rw [List.any_eq_true]
  constructor
  · rintro ⟨y, hy, e⟩
    have : y = x := by simpa using e
    subst this; exact hy
  · intro h; exact ⟨x, h, by simp⟩
theorem compL_mem {v : Nat} {l : List (List Int)} {x y : Int} (h : TwoOk v l) (hx : Lit v x) : y ∈ compL v l x ↔ Reach l x y ∧ Reach l y x := by
  unfold compL
  rw [List.mem_filter, reachL_mem (fun y => reach_lit h.lits hx), any_eq]
  constructor
  · rintro ⟨h1, h2⟩
    exact ⟨h1, (reachL_mem fun z => reach_lit h.lits (reach_lit h.lits hx h1)).1 h2⟩
  · rintro ⟨h1, h2⟩
    exact ⟨h1, (reachL_mem fun z => reach_lit h.lits (reach_lit h.lits hx h1)).2 h2⟩
theorem compL_inc (v : Nat) (l : List (List Int)) (x : Int) : Inc (compL v l x) := (reachL_inc v l x).filter _
/-- what has been done -/
def Done (v : Nat) (l : List (List Int)) (x : Int) (dn : List Int) : Prop := ∀ y, y ∈ dn ↔ ∃ z, Lit v z ∧ z < x ∧ y ∈ compL v l z
theorem done_head {v : Nat} {l : List (List Int)} {x : Int} {dn : List Int} (h : TwoOk v l) (hx : Lit v x) (hd : Done v l x dn) : headB v l x = !dn.any (· == x) := by
  have hx0 : (x != 0) = true := by rw [bne_iff_ne]; exact hx.1
  unfold headB
  rw [hx0, Bool.true_and]
  have hself := compL_self h hx
  have hinc := compL_inc v l x
  have hmem := fun y => compL_mem (y := y) h hx
  generalize compL v l x = C at hself hinc hmem
  cases C with
  | nil => cases hself
  | cons c C =>
    have hg0 : (c :: C).getD 0 0 = c := rfl
    rw [hg0]
    obtain ⟨h1, h2⟩ := List.pairwise_cons.1 hinc
    cases hq : dn.any (· == x) with
    | true =>
      obtain ⟨z, hz, hzx, hzc⟩ := (hd x).1 (any_eq.1 hq)
      obtain ⟨r1, r2⟩ := (compL_mem h hz).1 hzc
      have hzC : z ∈ c :: C := (hmem z).2 ⟨r2, r1⟩
      have : c ≠ x := by
        rcases List.mem_cons.1 hzC with e | e
        · omega
        · have := h1 z e; omega
      simpa using this
    | false =>
      have : c = x := by
        rcases List.mem_cons.1 hself with e | e
        · exact e.symm
        · exfalso
          have hcx := h1 x e
          obtain ⟨r1, r2⟩ := (hmem c).1 List.mem_cons_self
          have : x ∈ dn := (hd x).2 ⟨c, reach_lit h.lits hx r1, hcx, (compL_mem h (reach_lit h.lits hx r1)).2 ⟨r2, r1⟩⟩
          rw [any_eq.2 this] at hq; cases hq
      subst this
      simp
theorem done_skip {v : Nat} {l : List (List Int)} {x : Int} {dn : List Int} (h : TwoOk v l) (hd : Done v l x dn) (hs : x = 0 ∨ x ∈ dn) : Done v l (x + 1) dn := by
  intro y
  rw [hd y]
  constructor
  · rintro ⟨z, hz, hzx, hy⟩; exact ⟨z, hz, by omega, hy⟩
  · rintro ⟨z, hz, hzx, hy⟩
    by_cases hzz : z = x
    · subst hzz
      rcases hs with e | e
      · exact absurd e hz.1
      · obtain ⟨w, hw, hwx, hc⟩ := (hd z).1 e
        obtain ⟨r1, r2⟩ := (compL_mem h hz).1 hy
        obtain ⟨r3, r4⟩ := (compL_mem h hw).1 hc
        exact ⟨w, hw, hwx, (compL_mem h hw).2 ⟨r3.trans r1, r2.trans r4⟩⟩
    · exact ⟨z, hz, by omega, hy⟩
theorem done_step {v : Nat} {l : List (List Int)} {x : Int} {dn : List Int} (hx : Lit v x) (hd : Done v l x dn) : Done v l (x + 1) (dn ++ compL v l x) := by
  intro y
  rw [List.mem_append, hd y]
  constructor
  · rintro (⟨z, hz, hzx, hy⟩ | hy)
    · exact ⟨z, hz, by omega, hy⟩
    · exact ⟨x, hx, by omega, hy⟩
  · rintro ⟨z, hz, hzx, hy⟩
    by_cases hzz : z = x
    · subst hzz; exact .inr hy
    · exact .inl ⟨z, hz, by omega, hy⟩
theorem done_zero (v : Nat) (l : List (List Int)) : Done v l (((0 : Nat) : Int) - v) [] := by
  intro y
  constructor
  · intro h; cases h
  · rintro ⟨z, hz, hzx, _⟩
    unfold Lit at hz
    omega
theorem spec_LoopsOf.fc (v : Int) (l : List (List Int)) (hl : l.length ≤ 4294967296) (hr : ∀ c ∈ l, c.length ≤ 4294967296) :
    FCt prog F_spec_LoopsOf [.ro, .ro] [Ii v, intss l] (.tup [intss (loopsD v l).1, Bb (loopsD v l).2]) [] := by
  refine fct_run spec_LoopsOf.ok rfl ?_
  unfold loopsD
  simp only [go_sem, ↓reduceIte, Nat.reduceEqDiff, Nat.reduceAdd, Nat.reduceMul, Nat.reduceBEq, Option.getD_none, Int.reduceToNat, Nat.reduceSub, Nat.reduceLT, Nat.reduceLeDiff, Int.reduceLE, Int.reduceLT, reduceCtorEq]
  refine fcW_bool (spec_IsTwo.fc v l hl hr) ?_
  cases h : isTwoB v l with
  | false => simp only [go_sem, ↓reduceIte, Nat.reduceEqDiff, Nat.reduceAdd, Nat.reduceMul, Nat.reduceBEq, Option.getD_none, Int.reduceToNat, Nat.reduceSub, Nat.reduceLT, Nat.reduceLeDiff, Int.reduceLE, Int.reduceLT, reduceCtorEq]; try rfl
  | true =>
    obtain ⟨h0, h1, h2⟩ := two_ok h
    have hv := h2.hv
    generalize v.toNat = v at h1 h2 hv
    subst h1
    have hnv := neg_in (n := (v : Int)) (by omega)
    simp only [go_sem, ↓reduceIte, Nat.reduceEqDiff, Nat.reduceAdd, Nat.reduceMul, Nat.reduceBEq, Option.getD_none, Int.reduceToNat, Nat.reduceSub, Nat.reduceLT, Nat.reduceLeDiff, Int.reduceLE, Int.reduceLT, reduceCtorEq, hnv]
    refine R_loop (α := Nat × List Int) (fun a s' M' => a.1 ≤ 2 * v + 1 ∧ s' 8 = aI ((a.1 : Int) - v) ∧ Done v l ((a.1 : Int) - v) a.2 ∧ a.2.length ≤ 25 * a.1 ∧ (∃ w, s' 6 = .sl 3008 w 0 a.2.length 1 ∧ M'.m 3008 = some (.arr w true 1 (a.2.map Ii))) ∧ ∃ w, s' 7 = .sl 3456 w 0 (loopsK v l a.1).length 1 ∧ M'.m 3456 = some (.arr w true 1 ((loopsK v l a.1).map ints))) (fun a => 2 * v + 1 - a.1) (0, [])
      ⟨by simp, by simp only [go_sem, ↓reduceIte, Nat.reduceEqDiff, Nat.reduceAdd, Nat.reduceMul, Nat.reduceBEq, Option.getD_none, Int.reduceToNat, Nat.reduceSub, Nat.reduceLT, Nat.reduceLeDiff, Int.reduceLE, Int.reduceLT, reduceCtorEq, show ((0 : Nat) : Int) - v = -v by omega]; try rfl, done_zero v l, by simp, ⟨_, by simp only [go_sem, ↓reduceIte, Nat.reduceEqDiff, Nat.reduceAdd, Nat.reduceMul, Nat.reduceBEq, Option.getD_none, Int.reduceToNat, Nat.reduceSub, Nat.reduceLT, Nat.reduceLeDiff, Int.reduceLE, Int.reduceLT, reduceCtorEq]; rfl, by simp only [go_sem, ↓reduceIte, Nat.reduceEqDiff, Nat.reduceAdd, Nat.reduceMul, Nat.reduceBEq, Option.getD_none, Int.reduceToNat, Nat.reduceSub, Nat.reduceLT, Nat.reduceLeDiff, Int.reduceLE, Int.reduceLT, reduceCtorEq]; try rfl⟩, _, by simp only [go_sem, ↓reduceIte, Nat.reduceEqDiff, Nat.reduceAdd, Nat.reduceMul, Nat.reduceBEq, Option.getD_none, Int.reduceToNat, Nat.reduceSub, Nat.reduceLT, Nat.reduceLeDiff, Int.reduceLE, Int.reduceLT, reduceCtorEq]; rfl, by simp only [go_sem, ↓reduceIte, Nat.reduceEqDiff, Nat.reduceAdd, Nat.reduceMul, Nat.reduceBEq, Option.getD_none, Int.reduceToNat, Nat.reduceSub, Nat.reduceLT, Nat.reduceLeDiff, Int.reduceLE, Int.reduceLT, reduceCtorEq]; try rfl⟩ ?_
    rintro ⟨k, dn⟩ s' M' ⟨hk, h8, hd, hdl, ⟨w, h6, hm⟩, w2, h7, hm2⟩ ho'
    dsimp only at hk h8 hd hdl h6 hm h7 hm2
    unfold spec_LoopsOf.b1
    have q0 : s' 0 = .dat none (Ii v) := by rw [ho' 0 rfl]; simp only [go_sem, ↓reduceIte, Nat.reduceEqDiff, Nat.reduceAdd, Nat.reduceMul, Nat.reduceBEq, Option.getD_none, Int.reduceToNat, Nat.reduceSub, Nat.reduceLT, Nat.reduceLeDiff, Int.reduceLE, Int.reduceLT, reduceCtorEq]
    have q1 : s' 1 = .dat none (intss l) := by rw [ho' 1 rfl]; simp only [go_sem, ↓reduceIte, Nat.reduceEqDiff, Nat.reduceAdd, Nat.reduceMul, Nat.reduceBEq, Option.getD_none, Int.reduceToNat, Nat.reduceSub, Nat.reduceLT, Nat.reduceLeDiff, Int.reduceLE, Int.reduceLT, reduceCtorEq]
    clear ho'
    by_cases hlt : k < 2 * v + 1
    · have hi' : (k : Int) - v ≤ v := by omega
      have hfl := loopsK_len v l k
      have hbb : ((loopsK v l k).length + 1) * 24 ≤ 70368744177664 := by omega
      have hw : IntKind.i64.wrap ((k : Int) - v + 1) = ((k + 1 : Nat) : Int) - v := by rw [wrap_in (by omega) (by omega)]; omega
      have hst := fun x hx => loopsK_step (v := v) (l := l) (k := k) (x := x) hlt hx
      have hxr : -(v : Int) ≤ (k : Int) - v ∧ (k : Int) - v ≤ v := by omega
      have hx1 : ((k + 1 : Nat) : Int) - v = (k : Int) - v + 1 := by omega
      generalize hx : (k : Int) - v = x at h8 hi' hw hd hxr hx1
      replace hst := hst x hx
      cases hq : (x == 0) with
      | true =>
        have hq2 : (x != 0) = false := by rw [bne, hq]; rfl
        have hx0 : x = 0 := by simpa using hq
        simp only [headB, hq2, Bool.false_and, Bool.false_eq_true, if_false, List.append_nil] at hst
        simp only [go_sem, ↓reduceIte, Nat.reduceEqDiff, Nat.reduceAdd, Nat.reduceMul, Nat.reduceBEq, Option.getD_none, Int.reduceToNat, Nat.reduceSub, Nat.reduceLT, Nat.reduceLeDiff, Int.reduceLE, Int.reduceLT, reduceCtorEq, hi', hq, hw, q0, q1, h8, h7, h6, hm, hm2]
        exact ⟨(k + 1, dn), by dsimp only; omega, by dsimp only; omega, by simp only [go_sem, ↓reduceIte, Nat.reduceEqDiff, Nat.reduceAdd, Nat.reduceMul, Nat.reduceBEq, Option.getD_none, Int.reduceToNat, Nat.reduceSub, Nat.reduceLT, Nat.reduceLeDiff, Int.reduceLE, Int.reduceLT, reduceCtorEq, q0, q1, h8, h7, h6, hm, hm2], by dsimp only; rw [hx1]; exact done_skip h2 hd (.inl hx0), by dsimp only; omega, ⟨w, by simp only [go_sem, ↓reduceIte, Nat.reduceEqDiff, Nat.reduceAdd, Nat.reduceMul, Nat.reduceBEq, Option.getD_none, Int.reduceToNat, Nat.reduceSub, Nat.reduceLT, Nat.reduceLeDiff, Int.reduceLE, Int.reduceLT, reduceCtorEq, q0, q1, h8, h7, h6, hm, hm2], by simp only [go_sem, ↓reduceIte, Nat.reduceEqDiff, Nat.reduceAdd, Nat.reduceMul, Nat.reduceBEq, Option.getD_none, Int.reduceToNat, Nat.reduceSub, Nat.reduceLT, Nat.reduceLeDiff, Int.reduceLE, Int.reduceLT, reduceCtorEq, q0, q1, h8, h7, h6, hm, hm2]⟩, w2, by dsimp only; rw [hst]; simp only [go_sem, ↓reduceIte, Nat.reduceEqDiff, Nat.reduceAdd, Nat.reduceMul, Nat.reduceBEq, Option.getD_none, Int.reduceToNat, Nat.reduceSub, Nat.reduceLT, Nat.reduceLeDiff, Int.reduceLE, Int.reduceLT, reduceCtorEq, q0, q1, h8, h7, h6, hm, hm2]; try rfl, by dsimp only; rw [hst]; simp only [go_sem, ↓reduceIte, Nat.reduceEqDiff, Nat.reduceAdd, Nat.reduceMul, Nat.reduceBEq, Option.getD_none, Int.reduceToNat, Nat.reduceSub, Nat.reduceLT, Nat.reduceLeDiff, Int.reduceLE, Int.reduceLT, reduceCtorEq, q0, q1, h8, h7, h6, hm, hm2]; try rfl⟩
      | false =>
        have hxl : Lit v x := by
          have : x ≠ 0 := by simpa using hq
          unfold Lit; omega
        have hh := done_head h2 hxl hd
        simp only [go_sem, ↓reduceIte, Nat.reduceEqDiff, Nat.reduceAdd, Nat.reduceMul, Nat.reduceBEq, Option.getD_none, Int.reduceToNat, Nat.reduceSub, Nat.reduceLT, Nat.reduceLeDiff, Int.reduceLE, Int.reduceLT, reduceCtorEq, hi', hq, take_map_len, q0, q1, h8, h7, h6, hm, hm2]
        refine fcW_bool (spec_l1Has.fc dn x (by omega)) ?_
        cases hq3 : dn.any (· == x) with
        | true =>
          simp only [hh, hq3, Bool.not_true, Bool.false_eq_true, if_false, List.append_nil] at hst
          simp only [go_sem, ↓reduceIte, Nat.reduceEqDiff, Nat.reduceAdd, Nat.reduceMul, Nat.reduceBEq, Option.getD_none, Int.reduceToNat, Nat.reduceSub, Nat.reduceLT, Nat.reduceLeDiff, Int.reduceLE, Int.reduceLT, reduceCtorEq, hq3, hw, q0, q1, h8, h7, h6, hm, hm2]
          exact ⟨(k + 1, dn), by dsimp only; omega, by dsimp only; omega, by simp only [go_sem, ↓reduceIte, Nat.reduceEqDiff, Nat.reduceAdd, Nat.reduceMul, Nat.reduceBEq, Option.getD_none, Int.reduceToNat, Nat.reduceSub, Nat.reduceLT, Nat.reduceLeDiff, Int.reduceLE, Int.reduceLT, reduceCtorEq, q0, q1, h8, h7, h6, hm, hm2], by dsimp only; rw [hx1]; exact done_skip h2 hd (.inr (any_eq.1 hq3)), by dsimp only; omega, ⟨w, by simp only [go_sem, ↓reduceIte, Nat.reduceEqDiff, Nat.reduceAdd, Nat.reduceMul, Nat.reduceBEq, Option.getD_none, Int.reduceToNat, Nat.reduceSub, Nat.reduceLT, Nat.reduceLeDiff, Int.reduceLE, Int.reduceLT, reduceCtorEq, q0, q1, h8, h7, h6, hm, hm2], by simp only [go_sem, ↓reduceIte, Nat.reduceEqDiff, Nat.reduceAdd, Nat.reduceMul, Nat.reduceBEq, Option.getD_none, Int.reduceToNat, Nat.reduceSub, Nat.reduceLT, Nat.reduceLeDiff, Int.reduceLE, Int.reduceLT, reduceCtorEq, q0, q1, h8, h7, h6, hm, hm2]⟩, w2, by dsimp only; rw [hst]; simp only [go_sem, ↓reduceIte, Nat.reduceEqDiff, Nat.reduceAdd, Nat.reduceMul, Nat.reduceBEq, Option.getD_none, Int.reduceToNat, Nat.reduceSub, Nat.reduceLT, Nat.reduceLeDiff, Int.reduceLE, Int.reduceLT, reduceCtorEq, q0, q1, h8, h7, h6, hm, hm2]; try rfl, by dsimp only; rw [hst]; simp only [go_sem, ↓reduceIte, Nat.reduceEqDiff, Nat.reduceAdd, Nat.reduceMul, Nat.reduceBEq, Option.getD_none, Int.reduceToNat, Nat.reduceSub, Nat.reduceLT, Nat.reduceLeDiff, Int.reduceLE, Int.reduceLT, reduceCtorEq, q0, q1, h8, h7, h6, hm, hm2]; try rfl⟩
        | false =>
          simp only [hh, hq3, Bool.not_false, if_true] at hst
          have hrl := reachL_len v l x
          simp only [go_sem, ↓reduceIte, Nat.reduceEqDiff, Nat.reduceAdd, Nat.reduceMul, Nat.reduceBEq, Option.getD_none, Int.reduceToNat, Nat.reduceSub, Nat.reduceLT, Nat.reduceLeDiff, Int.reduceLE, Int.reduceLT, reduceCtorEq, hq3, q0, q1, h8, h7, h6, hm, hm2]
          refine fcW_bd (spec_l15Leads.fc v l x h2.hv h2.lits h2.two h2.dist hxl h2.len) noRs_ints ?_
          have hmem := fun y => reachL_mem (y := y) (l := l) fun y => reach_lit h2.lits hxl
          have hself := compL_self h2 hxl
          have hcl := compL_len v l x
          unfold compL at hself hcl
          have hfin : ∀ dn', dn' = dn ++ compL v l x → Done v l (x + 1) dn' := fun dn' e => by rw [e]; exact done_step hxl hd
          unfold compL at hst hfin
          generalize reachL v l x = R at hst hfin hrl hmem hself hcl ⊢
          generalize hp : (fun y => (reachL v l y).any (· == x)) = p at hst hfin hself hcl
          simp only [go_sem, ↓reduceIte, Nat.reduceEqDiff, Nat.reduceAdd, Nat.reduceMul, Nat.reduceBEq, Option.getD_none, Int.reduceToNat, Nat.reduceSub, Nat.reduceLT, Nat.reduceLeDiff, Int.reduceLE, Int.reduceLT, reduceCtorEq, q0, q1, h8, h7, h6, hm, hm2]
          refine R_loop (α := Nat) (fun j s' M' => j ≤ R.length ∧ s' 34 = aI j ∧ (s' 7 = .sl 3456 w2 0 (loopsK v l k).length 1 ∧ M'.m 3456 = some (.arr w2 true 1 ((loopsK v l k).map ints))) ∧ (∃ u, s' 32 = .sl 1728 u 0 R.length 1 ∧ M'.m 1728 = some (.arr u true 1 (R.map Ii))) ∧ (∃ w, s' 6 = .sl 3008 w 0 (dn ++ (R.take j).filter p).length 1 ∧ M'.m 3008 = some (.arr w true 1 ((dn ++ (R.take j).filter p).map Ii))) ∧ RowX (s' 9) M' [2688] (((R.take j).filter p).map Ii)) (fun j => R.length - j) 0
            ⟨by omega, by simp only [go_sem, ↓reduceIte, Nat.reduceEqDiff, Nat.reduceAdd, Nat.reduceMul, Nat.reduceBEq, Option.getD_none, Int.reduceToNat, Nat.reduceSub, Nat.reduceLT, Nat.reduceLeDiff, Int.reduceLE, Int.reduceLT, reduceCtorEq, q0, q1, h8, h7, h6, hm, hm2]; rfl, ⟨by simp only [go_sem, ↓reduceIte, Nat.reduceEqDiff, Nat.reduceAdd, Nat.reduceMul, Nat.reduceBEq, Option.getD_none, Int.reduceToNat, Nat.reduceSub, Nat.reduceLT, Nat.reduceLeDiff, Int.reduceLE, Int.reduceLT, reduceCtorEq, q0, q1, h8, h7, h6, hm, hm2], by simp only [go_sem, ↓reduceIte, Nat.reduceEqDiff, Nat.reduceAdd, Nat.reduceMul, Nat.reduceBEq, Option.getD_none, Int.reduceToNat, Nat.reduceSub, Nat.reduceLT, Nat.reduceLeDiff, Int.reduceLE, Int.reduceLT, reduceCtorEq, q0, q1, h8, h7, h6, hm, hm2]⟩, ⟨_, by simp only [go_sem, ↓reduceIte, Nat.reduceEqDiff, Nat.reduceAdd, Nat.reduceMul, Nat.reduceBEq, Option.getD_none, Int.reduceToNat, Nat.reduceSub, Nat.reduceLT, Nat.reduceLeDiff, Int.reduceLE, Int.reduceLT, reduceCtorEq, q0, q1, h8, h7, h6, hm, hm2]; try rfl, by simp only [go_sem, ↓reduceIte, Nat.reduceEqDiff, Nat.reduceAdd, Nat.reduceMul, Nat.reduceBEq, Option.getD_none, Int.reduceToNat, Nat.reduceSub, Nat.reduceLT, Nat.reduceLeDiff, Int.reduceLE, Int.reduceLT, reduceCtorEq, q0, q1, h8, h7, h6, hm, hm2]; try rfl⟩, ⟨w, by simp only [go_sem, ↓reduceIte, Nat.reduceEqDiff, Nat.reduceAdd, Nat.reduceMul, Nat.reduceBEq, Option.getD_none, Int.reduceToNat, Nat.reduceSub, Nat.reduceLT, Nat.reduceLeDiff, Int.reduceLE, Int.reduceLT, reduceCtorEq, List.filter_nil, List.append_nil, q0, q1, h8, h7, h6, hm, hm2], by simp only [go_sem, ↓reduceIte, Nat.reduceEqDiff, Nat.reduceAdd, Nat.reduceMul, Nat.reduceBEq, Option.getD_none, Int.reduceToNat, Nat.reduceSub, Nat.reduceLT, Nat.reduceLeDiff, Int.reduceLE, Int.reduceLT, reduceCtorEq, List.filter_nil, List.append_nil, q0, q1, h8, h7, h6, hm, hm2]⟩, .inl ⟨rfl, by simp only [go_sem, ↓reduceIte, Nat.reduceEqDiff, Nat.reduceAdd, Nat.reduceMul, Nat.reduceBEq, Option.getD_none, Int.reduceToNat, Nat.reduceSub, Nat.reduceLT, Nat.reduceLeDiff, Int.reduceLE, Int.reduceLT, reduceCtorEq, q0, q1, h8, h7, h6, hm, hm2]⟩⟩ ?_
          rintro j s2 M2 ⟨hj, h34, ⟨h7, hm2⟩, ⟨u, h32, hmR⟩, ⟨w3, h6, hm⟩, hrow⟩ ho
          unfold spec_LoopsOf.b0
          have g0 : s2 0 = .dat none (Ii v) := by rw [ho 0 rfl]; simp only [go_sem, ↓reduceIte, Nat.reduceEqDiff, Nat.reduceAdd, Nat.reduceMul, Nat.reduceBEq, Option.getD_none, Int.reduceToNat, Nat.reduceSub, Nat.reduceLT, Nat.reduceLeDiff, Int.reduceLE, Int.reduceLT, reduceCtorEq, q0, q1, h8, h7, h6, hm, hm2]
          have g1 : s2 1 = .dat none (intss l) := by rw [ho 1 rfl]; simp only [go_sem, ↓reduceIte, Nat.reduceEqDiff, Nat.reduceAdd, Nat.reduceMul, Nat.reduceBEq, Option.getD_none, Int.reduceToNat, Nat.reduceSub, Nat.reduceLT, Nat.reduceLeDiff, Int.reduceLE, Int.reduceLT, reduceCtorEq, q0, q1, h8, h7, h6, hm, hm2]
          have g8 : s2 8 = aI x := by rw [ho 8 rfl]; simp only [go_sem, ↓reduceIte, Nat.reduceEqDiff, Nat.reduceAdd, Nat.reduceMul, Nat.reduceBEq, Option.getD_none, Int.reduceToNat, Nat.reduceSub, Nat.reduceLT, Nat.reduceLeDiff, Int.reduceLE, Int.reduceLT, reduceCtorEq, q0, q1, h8, h7, h6, hm, hm2]
          have g33 : s2 33 = aI R.length := by rw [ho 33 rfl]; simp only [go_sem, ↓reduceIte, Nat.reduceEqDiff, Nat.reduceAdd, Nat.reduceMul, Nat.reduceBEq, Option.getD_none, Int.reduceToNat, Nat.reduceSub, Nat.reduceLT, Nat.reduceLeDiff, Int.reduceLE, Int.reduceLT, reduceCtorEq, q0, q1, h8, h7, h6, hm, hm2]
          clear ho
          by_cases hlt : j < R.length
          · have hi' : (j : Int) < R.length := by omega
            have ga : R[j]? = some R[j] := List.getElem?_eq_getElem hlt
            have hw : IntKind.i64.wrap (j + 1) = ((j + 1 : Nat) : Int) := wrap_k hlt (by omega)
            have hly : Lit v R[j] := reach_lit h2.lits hxl ((hmem _).1 (List.getElem_mem hlt))
            have hst2 := filter_step (p := p) hlt
            have hfl2 := filter_few (p := p) (l := R) (k := j)
            have hpy : p R[j] = (reachL v l R[j]).any (· == x) := by rw [← hp]
            generalize R[j] = y at ga hly hst2 hpy
            have hry := reachL_len v l y
            have hb1 : ((dn ++ (R.take j).filter p).length + 1) * 8 ≤ 70368744177664 := by rw [List.length_append]; omega
            have hb2 : (((R.take j).filter p).length + 1) * 8 ≤ 70368744177664 := by omega
            have next : j < j + 1 := by omega
            rcases hrow with ⟨hd9, h9⟩ | ⟨nm, hnm, w4, h9, hm9⟩
            · have hd0 : (R.take j).filter p = [] := List.map_eq_nil_iff.1 hd9
              simp only [go_sem, ↓reduceIte, Nat.reduceEqDiff, Nat.reduceAdd, Nat.reduceMul, Nat.reduceBEq, Option.getD_none, Int.reduceToNat, Nat.reduceSub, Nat.reduceLT, Nat.reduceLeDiff, Int.reduceLE, Int.reduceLT, reduceCtorEq, hi', ga, q0, q1, h8, h7, h6, hm, hm2, g0, g1, g8, g33, h34, h6, hm, h32, hmR, h7, hm2]
              refine fcW_bd (spec_l15Leads.fc v l y h2.hv h2.lits h2.two h2.dist hly h2.len) noRs_ints ?_
              simp only [go_sem, ↓reduceIte, Nat.reduceEqDiff, Nat.reduceAdd, Nat.reduceMul, Nat.reduceBEq, Option.getD_none, Int.reduceToNat, Nat.reduceSub, Nat.reduceLT, Nat.reduceLeDiff, Int.reduceLE, Int.reduceLT, reduceCtorEq, take_map_len, q0, q1, h8, h7, h6, hm, hm2, g0, g1, g8, g33, h34, h6, hm, h32, hmR, h7, hm2]
              refine fcW_bool (spec_l1Has.fc (reachL v l y) x (by omega)) ?_
              cases hq4 : (reachL v l y).any (· == x) with
              | false =>
                rw [hpy, hq4] at hst2
                simp only [Bool.false_eq_true, if_false, List.append_nil] at hst2
                simp only [go_sem, ↓reduceIte, Nat.reduceEqDiff, Nat.reduceAdd, Nat.reduceMul, Nat.reduceBEq, Option.getD_none, Int.reduceToNat, Nat.reduceSub, Nat.reduceLT, Nat.reduceLeDiff, Int.reduceLE, Int.reduceLT, reduceCtorEq, hw, q0, q1, h8, h7, h6, hm, hm2, g0, g1, g8, g33, h34, h6, hm, h32, hmR, h7, hm2]
                exact ⟨j + 1, by dsimp only; omega, by omega, by simp only [go_sem, ↓reduceIte, Nat.reduceEqDiff, Nat.reduceAdd, Nat.reduceMul, Nat.reduceBEq, Option.getD_none, Int.reduceToNat, Nat.reduceSub, Nat.reduceLT, Nat.reduceLeDiff, Int.reduceLE, Int.reduceLT, reduceCtorEq, q0, q1, h8, h7, h6, hm, hm2, g0, g1, g8, g33, h34, h6, hm, h32, hmR, h7, hm2], ⟨by simp only [go_sem, ↓reduceIte, Nat.reduceEqDiff, Nat.reduceAdd, Nat.reduceMul, Nat.reduceBEq, Option.getD_none, Int.reduceToNat, Nat.reduceSub, Nat.reduceLT, Nat.reduceLeDiff, Int.reduceLE, Int.reduceLT, reduceCtorEq, q0, q1, h8, h7, h6, hm, hm2, g0, g1, g8, g33, h34, h6, hm, h32, hmR, h7, hm2], by simp only [go_sem, ↓reduceIte, Nat.reduceEqDiff, Nat.reduceAdd, Nat.reduceMul, Nat.reduceBEq, Option.getD_none, Int.reduceToNat, Nat.reduceSub, Nat.reduceLT, Nat.reduceLeDiff, Int.reduceLE, Int.reduceLT, reduceCtorEq, q0, q1, h8, h7, h6, hm, hm2, g0, g1, g8, g33, h34, h6, hm, h32, hmR, h7, hm2]⟩, ⟨u, by simp only [go_sem, ↓reduceIte, Nat.reduceEqDiff, Nat.reduceAdd, Nat.reduceMul, Nat.reduceBEq, Option.getD_none, Int.reduceToNat, Nat.reduceSub, Nat.reduceLT, Nat.reduceLeDiff, Int.reduceLE, Int.reduceLT, reduceCtorEq, q0, q1, h8, h7, h6, hm, hm2, g0, g1, g8, g33, h34, h6, hm, h32, hmR, h7, hm2], by simp only [go_sem, ↓reduceIte, Nat.reduceEqDiff, Nat.reduceAdd, Nat.reduceMul, Nat.reduceBEq, Option.getD_none, Int.reduceToNat, Nat.reduceSub, Nat.reduceLT, Nat.reduceLeDiff, Int.reduceLE, Int.reduceLT, reduceCtorEq, q0, q1, h8, h7, h6, hm, hm2, g0, g1, g8, g33, h34, h6, hm, h32, hmR, h7, hm2]⟩, ⟨w3, by rw [hst2]; simp only [go_sem, ↓reduceIte, Nat.reduceEqDiff, Nat.reduceAdd, Nat.reduceMul, Nat.reduceBEq, Option.getD_none, Int.reduceToNat, Nat.reduceSub, Nat.reduceLT, Nat.reduceLeDiff, Int.reduceLE, Int.reduceLT, reduceCtorEq, q0, q1, h8, h7, h6, hm, hm2, g0, g1, g8, g33, h34, h6, hm, h32, hmR, h7, hm2], by rw [hst2]; simp only [go_sem, ↓reduceIte, Nat.reduceEqDiff, Nat.reduceAdd, Nat.reduceMul, Nat.reduceBEq, Option.getD_none, Int.reduceToNat, Nat.reduceSub, Nat.reduceLT, Nat.reduceLeDiff, Int.reduceLE, Int.reduceLT, reduceCtorEq, q0, q1, h8, h7, h6, hm, hm2, g0, g1, g8, g33, h34, h6, hm, h32, hmR, h7, hm2]⟩, .inl ⟨by rw [hst2]; exact hd9, by simp only [go_sem, ↓reduceIte, Nat.reduceEqDiff, Nat.reduceAdd, Nat.reduceMul, Nat.reduceBEq, Option.getD_none, Int.reduceToNat, Nat.reduceSub, Nat.reduceLT, Nat.reduceLeDiff, Int.reduceLE, Int.reduceLT, reduceCtorEq, h9, q0, q1, h8, h7, h6, hm, hm2, g0, g1, g8, g33, h34, h6, hm, h32, hmR, h7, hm2]⟩⟩
              | true =>
                rw [hpy, hq4] at hst2
                simp only [if_true] at hst2
                rw [hd0, List.nil_append] at hst2
                have el : ((dn ++ (R.take j).filter p).map Ii) ++ [Ii y] = (dn ++ (R.take (j + 1)).filter p).map Ii := by rw [hst2, hd0]; simp
                have el2 : (dn ++ (R.take (j + 1)).filter p).length = (dn ++ (R.take j).filter p).length + 1 := by rw [hst2, hd0]; simp
                simp only [go_sem, ↓reduceIte, Nat.reduceEqDiff, Nat.reduceAdd, Nat.reduceMul, Nat.reduceBEq, Option.getD_none, Int.reduceToNat, Nat.reduceSub, Nat.reduceLT, Nat.reduceLeDiff, Int.reduceLE, Int.reduceLT, reduceCtorEq, hw, h9, hb1, take_map_len, el, q0, q1, h8, h7, h6, hm, hm2, g0, g1, g8, g33, h34, h6, hm, h32, hmR, h7, hm2]
                exact ⟨j + 1, by dsimp only; omega, by omega, by simp only [go_sem, ↓reduceIte, Nat.reduceEqDiff, Nat.reduceAdd, Nat.reduceMul, Nat.reduceBEq, Option.getD_none, Int.reduceToNat, Nat.reduceSub, Nat.reduceLT, Nat.reduceLeDiff, Int.reduceLE, Int.reduceLT, reduceCtorEq, q0, q1, h8, h7, h6, hm, hm2, g0, g1, g8, g33, h34, h6, hm, h32, hmR, h7, hm2], ⟨by simp only [go_sem, ↓reduceIte, Nat.reduceEqDiff, Nat.reduceAdd, Nat.reduceMul, Nat.reduceBEq, Option.getD_none, Int.reduceToNat, Nat.reduceSub, Nat.reduceLT, Nat.reduceLeDiff, Int.reduceLE, Int.reduceLT, reduceCtorEq, q0, q1, h8, h7, h6, hm, hm2, g0, g1, g8, g33, h34, h6, hm, h32, hmR, h7, hm2], by simp only [go_sem, ↓reduceIte, Nat.reduceEqDiff, Nat.reduceAdd, Nat.reduceMul, Nat.reduceBEq, Option.getD_none, Int.reduceToNat, Nat.reduceSub, Nat.reduceLT, Nat.reduceLeDiff, Int.reduceLE, Int.reduceLT, reduceCtorEq, q0, q1, h8, h7, h6, hm, hm2, g0, g1, g8, g33, h34, h6, hm, h32, hmR, h7, hm2]⟩, ⟨u, by simp only [go_sem, ↓reduceIte, Nat.reduceEqDiff, Nat.reduceAdd, Nat.reduceMul, Nat.reduceBEq, Option.getD_none, Int.reduceToNat, Nat.reduceSub, Nat.reduceLT, Nat.reduceLeDiff, Int.reduceLE, Int.reduceLT, reduceCtorEq, q0, q1, h8, h7, h6, hm, hm2, g0, g1, g8, g33, h34, h6, hm, h32, hmR, h7, hm2], by simp only [go_sem, ↓reduceIte, Nat.reduceEqDiff, Nat.reduceAdd, Nat.reduceMul, Nat.reduceBEq, Option.getD_none, Int.reduceToNat, Nat.reduceSub, Nat.reduceLT, Nat.reduceLeDiff, Int.reduceLE, Int.reduceLT, reduceCtorEq, q0, q1, h8, h7, h6, hm, hm2, g0, g1, g8, g33, h34, h6, hm, h32, hmR, h7, hm2]⟩, ⟨_, by rw [el2]; simp only [go_sem, ↓reduceIte, Nat.reduceEqDiff, Nat.reduceAdd, Nat.reduceMul, Nat.reduceBEq, Option.getD_none, Int.reduceToNat, Nat.reduceSub, Nat.reduceLT, Nat.reduceLeDiff, Int.reduceLE, Int.reduceLT, reduceCtorEq, q0, q1, h8, h7, h6, hm, hm2, g0, g1, g8, g33, h34, h6, hm, h32, hmR, h7, hm2]; try rfl, by simp only [go_sem, ↓reduceIte, Nat.reduceEqDiff, Nat.reduceAdd, Nat.reduceMul, Nat.reduceBEq, Option.getD_none, Int.reduceToNat, Nat.reduceSub, Nat.reduceLT, Nat.reduceLeDiff, Int.reduceLE, Int.reduceLT, reduceCtorEq, q0, q1, h8, h7, h6, hm, hm2, g0, g1, g8, g33, h34, h6, hm, h32, hmR, h7, hm2]; try rfl⟩, .inr ⟨2688, by simp, _, by rw [hst2]; simp only [go_sem, ↓reduceIte, Nat.reduceEqDiff, Nat.reduceAdd, Nat.reduceMul, Nat.reduceBEq, Option.getD_none, Int.reduceToNat, Nat.reduceSub, Nat.reduceLT, Nat.reduceLeDiff, Int.reduceLE, Int.reduceLT, reduceCtorEq, q0, q1, h8, h7, h6, hm, hm2, g0, g1, g8, g33, h34, h6, hm, h32, hmR, h7, hm2]; try rfl, by rw [hst2]; simp only [go_sem, ↓reduceIte, Nat.reduceEqDiff, Nat.reduceAdd, Nat.reduceMul, Nat.reduceBEq, Option.getD_none, Int.reduceToNat, Nat.reduceSub, Nat.reduceLT, Nat.reduceLeDiff, Int.reduceLE, Int.reduceLT, reduceCtorEq, q0, q1, h8, h7, h6, hm, hm2, g0, g1, g8, g33, h34, h6, hm, h32, hmR, h7, hm2]; try rfl⟩⟩
            · rw [List.length_map] at h9
              rw [List.mem_singleton] at hnm
              subst hnm
              simp only [go_sem, ↓reduceIte, Nat.reduceEqDiff, Nat.reduceAdd, Nat.reduceMul, Nat.reduceBEq, Option.getD_none, Int.reduceToNat, Nat.reduceSub, Nat.reduceLT, Nat.reduceLeDiff, Int.reduceLE, Int.reduceLT, reduceCtorEq, hi', ga, q0, q1, h8, h7, h6, hm, hm2, g0, g1, g8, g33, h34, h6, hm, h32, hmR, h7, hm2]
              refine fcW_bd (spec_l15Leads.fc v l y h2.hv h2.lits h2.two h2.dist hly h2.len) noRs_ints ?_
              simp only [go_sem, ↓reduceIte, Nat.reduceEqDiff, Nat.reduceAdd, Nat.reduceMul, Nat.reduceBEq, Option.getD_none, Int.reduceToNat, Nat.reduceSub, Nat.reduceLT, Nat.reduceLeDiff, Int.reduceLE, Int.reduceLT, reduceCtorEq, take_map_len, q0, q1, h8, h7, h6, hm, hm2, g0, g1, g8, g33, h34, h6, hm, h32, hmR, h7, hm2]
              refine fcW_bool (spec_l1Has.fc (reachL v l y) x (by omega)) ?_
              cases hq4 : (reachL v l y).any (· == x) with
              | false =>
                rw [hpy, hq4] at hst2
                simp only [Bool.false_eq_true, if_false, List.append_nil] at hst2
                simp only [go_sem, ↓reduceIte, Nat.reduceEqDiff, Nat.reduceAdd, Nat.reduceMul, Nat.reduceBEq, Option.getD_none, Int.reduceToNat, Nat.reduceSub, Nat.reduceLT, Nat.reduceLeDiff, Int.reduceLE, Int.reduceLT, reduceCtorEq, hw, q0, q1, h8, h7, h6, hm, hm2, g0, g1, g8, g33, h34, h6, hm, h32, hmR, h7, hm2]
                exact ⟨j + 1, by dsimp only; omega, by omega, by simp only [go_sem, ↓reduceIte, Nat.reduceEqDiff, Nat.reduceAdd, Nat.reduceMul, Nat.reduceBEq, Option.getD_none, Int.reduceToNat, Nat.reduceSub, Nat.reduceLT, Nat.reduceLeDiff, Int.reduceLE, Int.reduceLT, reduceCtorEq, q0, q1, h8, h7, h6, hm, hm2, g0, g1, g8, g33, h34, h6, hm, h32, hmR, h7, hm2], ⟨by simp only [go_sem, ↓reduceIte, Nat.reduceEqDiff, Nat.reduceAdd, Nat.reduceMul, Nat.reduceBEq, Option.getD_none, Int.reduceToNat, Nat.reduceSub, Nat.reduceLT, Nat.reduceLeDiff, Int.reduceLE, Int.reduceLT, reduceCtorEq, q0, q1, h8, h7, h6, hm, hm2, g0, g1, g8, g33, h34, h6, hm, h32, hmR, h7, hm2], by simp only [go_sem, ↓reduceIte, Nat.reduceEqDiff, Nat.reduceAdd, Nat.reduceMul, Nat.reduceBEq, Option.getD_none, Int.reduceToNat, Nat.reduceSub, Nat.reduceLT, Nat.reduceLeDiff, Int.reduceLE, Int.reduceLT, reduceCtorEq, q0, q1, h8, h7, h6, hm, hm2, g0, g1, g8, g33, h34, h6, hm, h32, hmR, h7, hm2]⟩, ⟨u, by simp only [go_sem, ↓reduceIte, Nat.reduceEqDiff, Nat.reduceAdd, Nat.reduceMul, Nat.reduceBEq, Option.getD_none, Int.reduceToNat, Nat.reduceSub, Nat.reduceLT, Nat.reduceLeDiff, Int.reduceLE, Int.reduceLT, reduceCtorEq, q0, q1, h8, h7, h6, hm, hm2, g0, g1, g8, g33, h34, h6, hm, h32, hmR, h7, hm2], by simp only [go_sem, ↓reduceIte, Nat.reduceEqDiff, Nat.reduceAdd, Nat.reduceMul, Nat.reduceBEq, Option.getD_none, Int.reduceToNat, Nat.reduceSub, Nat.reduceLT, Nat.reduceLeDiff, Int.reduceLE, Int.reduceLT, reduceCtorEq, q0, q1, h8, h7, h6, hm, hm2, g0, g1, g8, g33, h34, h6, hm, h32, hmR, h7, hm2]⟩, ⟨w3, by rw [hst2]; simp only [go_sem, ↓reduceIte, Nat.reduceEqDiff, Nat.reduceAdd, Nat.reduceMul, Nat.reduceBEq, Option.getD_none, Int.reduceToNat, Nat.reduceSub, Nat.reduceLT, Nat.reduceLeDiff, Int.reduceLE, Int.reduceLT, reduceCtorEq, q0, q1, h8, h7, h6, hm, hm2, g0, g1, g8, g33, h34, h6, hm, h32, hmR, h7, hm2], by rw [hst2]; simp only [go_sem, ↓reduceIte, Nat.reduceEqDiff, Nat.reduceAdd, Nat.reduceMul, Nat.reduceBEq, Option.getD_none, Int.reduceToNat, Nat.reduceSub, Nat.reduceLT, Nat.reduceLeDiff, Int.reduceLE, Int.reduceLT, reduceCtorEq, q0, q1, h8, h7, h6, hm, hm2, g0, g1, g8, g33, h34, h6, hm, h32, hmR, h7, hm2]⟩, .inr ⟨2688, by simp, w4, by rw [hst2, List.length_map]; simp only [go_sem, ↓reduceIte, Nat.reduceEqDiff, Nat.reduceAdd, Nat.reduceMul, Nat.reduceBEq, Option.getD_none, Int.reduceToNat, Nat.reduceSub, Nat.reduceLT, Nat.reduceLeDiff, Int.reduceLE, Int.reduceLT, reduceCtorEq, h9, q0, q1, h8, h7, h6, hm, hm2, g0, g1, g8, g33, h34, h6, hm, h32, hmR, h7, hm2], by rw [hst2]; simp only [go_sem, ↓reduceIte, Nat.reduceEqDiff, Nat.reduceAdd, Nat.reduceMul, Nat.reduceBEq, Option.getD_none, Int.reduceToNat, Nat.reduceSub, Nat.reduceLT, Nat.reduceLeDiff, Int.reduceLE, Int.reduceLT, reduceCtorEq, hm9, q0, q1, h8, h7, h6, hm, hm2, g0, g1, g8, g33, h34, h6, hm, h32, hmR, h7, hm2]⟩⟩
              | true =>
                rw [hpy, hq4] at hst2
                simp only [if_true] at hst2
                have el : ((dn ++ (R.take j).filter p).map Ii) ++ [Ii y] = (dn ++ (R.take (j + 1)).filter p).map Ii := by rw [hst2]; simp
                have el2 : (dn ++ (R.take (j + 1)).filter p).length = (dn ++ (R.take j).filter p).length + 1 := by rw [hst2]; simp; omega
                have el3 : (((R.take j).filter p).map Ii) ++ [Ii y] = ((R.take (j + 1)).filter p).map Ii := by rw [hst2]; simp
                have el4 : ((R.take (j + 1)).filter p).length = ((R.take j).filter p).length + 1 := by rw [hst2]; simp
                simp only [go_sem, ↓reduceIte, Nat.reduceEqDiff, Nat.reduceAdd, Nat.reduceMul, Nat.reduceBEq, Option.getD_none, Int.reduceToNat, Nat.reduceSub, Nat.reduceLT, Nat.reduceLeDiff, Int.reduceLE, Int.reduceLT, reduceCtorEq, hw, h9, hm9, hb1, hb2, take_map_len, el, el3, q0, q1, h8, h7, h6, hm, hm2, g0, g1, g8, g33, h34, h6, hm, h32, hmR, h7, hm2]
                exact ⟨j + 1, by dsimp only; omega, by omega, by simp only [go_sem, ↓reduceIte, Nat.reduceEqDiff, Nat.reduceAdd, Nat.reduceMul, Nat.reduceBEq, Option.getD_none, Int.reduceToNat, Nat.reduceSub, Nat.reduceLT, Nat.reduceLeDiff, Int.reduceLE, Int.reduceLT, reduceCtorEq, q0, q1, h8, h7, h6, hm, hm2, g0, g1, g8, g33, h34, h6, hm, h32, hmR, h7, hm2], ⟨by simp only [go_sem, ↓reduceIte, Nat.reduceEqDiff, Nat.reduceAdd, Nat.reduceMul, Nat.reduceBEq, Option.getD_none, Int.reduceToNat, Nat.reduceSub, Nat.reduceLT, Nat.reduceLeDiff, Int.reduceLE, Int.reduceLT, reduceCtorEq, q0, q1, h8, h7, h6, hm, hm2, g0, g1, g8, g33, h34, h6, hm, h32, hmR, h7, hm2], by simp only [go_sem, ↓reduceIte, Nat.reduceEqDiff, Nat.reduceAdd, Nat.reduceMul, Nat.reduceBEq, Option.getD_none, Int.reduceToNat, Nat.reduceSub, Nat.reduceLT, Nat.reduceLeDiff, Int.reduceLE, Int.reduceLT, reduceCtorEq, q0, q1, h8, h7, h6, hm, hm2, g0, g1, g8, g33, h34, h6, hm, h32, hmR, h7, hm2]⟩, ⟨u, by simp only [go_sem, ↓reduceIte, Nat.reduceEqDiff, Nat.reduceAdd, Nat.reduceMul, Nat.reduceBEq, Option.getD_none, Int.reduceToNat, Nat.reduceSub, Nat.reduceLT, Nat.reduceLeDiff, Int.reduceLE, Int.reduceLT, reduceCtorEq, q0, q1, h8, h7, h6, hm, hm2, g0, g1, g8, g33, h34, h6, hm, h32, hmR, h7, hm2], by simp only [go_sem, ↓reduceIte, Nat.reduceEqDiff, Nat.reduceAdd, Nat.reduceMul, Nat.reduceBEq, Option.getD_none, Int.reduceToNat, Nat.reduceSub, Nat.reduceLT, Nat.reduceLeDiff, Int.reduceLE, Int.reduceLT, reduceCtorEq, q0, q1, h8, h7, h6, hm, hm2, g0, g1, g8, g33, h34, h6, hm, h32, hmR, h7, hm2]⟩, ⟨_, by rw [el2]; simp only [go_sem, ↓reduceIte, Nat.reduceEqDiff, Nat.reduceAdd, Nat.reduceMul, Nat.reduceBEq, Option.getD_none, Int.reduceToNat, Nat.reduceSub, Nat.reduceLT, Nat.reduceLeDiff, Int.reduceLE, Int.reduceLT, reduceCtorEq, q0, q1, h8, h7, h6, hm, hm2, g0, g1, g8, g33, h34, h6, hm, h32, hmR, h7, hm2]; try rfl, by simp only [go_sem, ↓reduceIte, Nat.reduceEqDiff, Nat.reduceAdd, Nat.reduceMul, Nat.reduceBEq, Option.getD_none, Int.reduceToNat, Nat.reduceSub, Nat.reduceLT, Nat.reduceLeDiff, Int.reduceLE, Int.reduceLT, reduceCtorEq, q0, q1, h8, h7, h6, hm, hm2, g0, g1, g8, g33, h34, h6, hm, h32, hmR, h7, hm2]; try rfl⟩, .inr ⟨2688, by simp, _, by rw [List.length_map, el4]; simp only [go_sem, ↓reduceIte, Nat.reduceEqDiff, Nat.reduceAdd, Nat.reduceMul, Nat.reduceBEq, Option.getD_none, Int.reduceToNat, Nat.reduceSub, Nat.reduceLT, Nat.reduceLeDiff, Int.reduceLE, Int.reduceLT, reduceCtorEq, q0, q1, h8, h7, h6, hm, hm2, g0, g1, g8, g33, h34, h6, hm, h32, hmR, h7, hm2]; try rfl, by simp only [go_sem, ↓reduceIte, Nat.reduceEqDiff, Nat.reduceAdd, Nat.reduceMul, Nat.reduceBEq, Option.getD_none, Int.reduceToNat, Nat.reduceSub, Nat.reduceLT, Nat.reduceLeDiff, Int.reduceLE, Int.reduceLT, reduceCtorEq, q0, q1, h8, h7, h6, hm, hm2, g0, g1, g8, g33, h34, h6, hm, h32, hmR, h7, hm2]; try rfl⟩⟩
          · have hi' : ¬ (j : Int) < R.length := by omega
            obtain rfl : j = R.length := by omega
            rw [List.take_length] at h6 hm hrow
            generalize hC : R.filter p = C at h6 hm hrow hst hfin hself hcl
            have hdl2 : (dn ++ C).length ≤ 25 * (k + 1) := by rw [List.length_append]; omega
            rcases hrow with ⟨hd9, h9⟩ | ⟨nm, hnm, w4, h9, hm9⟩
            · rw [List.map_eq_nil_iff.1 hd9] at hself; cases hself
            · rw [List.length_map] at h9
              rw [List.mem_singleton] at hnm
              subst hnm
              simp only [go_sem, ↓reduceIte, Nat.reduceEqDiff, Nat.reduceAdd, Nat.reduceMul, Nat.reduceBEq, Option.getD_none, Int.reduceToNat, Nat.reduceSub, Nat.reduceLT, Nat.reduceLeDiff, Int.reduceLE, Int.reduceLT, reduceCtorEq, Int.lt_irrefl, h9, hm9, hbb, hw, take_map_len, q0, q1, h8, h7, h6, hm, hm2, g0, g1, g8, g33, h34, h6, hm, h32, hmR, h7, hm2]
              exact ⟨(k + 1, dn ++ C), by dsimp only; omega, by dsimp only; omega, by simp only [go_sem, ↓reduceIte, Nat.reduceEqDiff, Nat.reduceAdd, Nat.reduceMul, Nat.reduceBEq, Option.getD_none, Int.reduceToNat, Nat.reduceSub, Nat.reduceLT, Nat.reduceLeDiff, Int.reduceLE, Int.reduceLT, reduceCtorEq, q0, q1, h8, h7, h6, hm, hm2, g0, g1, g8, g33, h34, h6, hm, h32, hmR, h7, hm2], by dsimp only; rw [hx1]; exact hfin _ rfl, hdl2, ⟨w3, by simp only [go_sem, ↓reduceIte, Nat.reduceEqDiff, Nat.reduceAdd, Nat.reduceMul, Nat.reduceBEq, Option.getD_none, Int.reduceToNat, Nat.reduceSub, Nat.reduceLT, Nat.reduceLeDiff, Int.reduceLE, Int.reduceLT, reduceCtorEq, q0, q1, h8, h7, h6, hm, hm2, g0, g1, g8, g33, h34, h6, hm, h32, hmR, h7, hm2], by simp only [go_sem, ↓reduceIte, Nat.reduceEqDiff, Nat.reduceAdd, Nat.reduceMul, Nat.reduceBEq, Option.getD_none, Int.reduceToNat, Nat.reduceSub, Nat.reduceLT, Nat.reduceLeDiff, Int.reduceLE, Int.reduceLT, reduceCtorEq, q0, q1, h8, h7, h6, hm, hm2, g0, g1, g8, g33, h34, h6, hm, h32, hmR, h7, hm2]⟩, _, by dsimp only; rw [hst, List.length_append]; simp only [go_sem, ↓reduceIte, Nat.reduceEqDiff, Nat.reduceAdd, Nat.reduceMul, Nat.reduceBEq, Option.getD_none, Int.reduceToNat, Nat.reduceSub, Nat.reduceLT, Nat.reduceLeDiff, Int.reduceLE, Int.reduceLT, reduceCtorEq, q0, q1, h8, h7, h6, hm, hm2, g0, g1, g8, g33, h34, h6, hm, h32, hmR, h7, hm2]; try rfl, by dsimp only; rw [hst, List.map_append]; simp only [go_sem, ↓reduceIte, Nat.reduceEqDiff, Nat.reduceAdd, Nat.reduceMul, Nat.reduceBEq, Option.getD_none, Int.reduceToNat, Nat.reduceSub, Nat.reduceLT, Nat.reduceLeDiff, Int.reduceLE, Int.reduceLT, reduceCtorEq, q0, q1, h8, h7, h6, hm, hm2, g0, g1, g8, g33, h34, h6, hm, h32, hmR, h7, hm2]; try rfl⟩
    · obtain rfl : k = 2 * v + 1 := by omega
      have hn : ¬ (((2 * v + 1 : Nat) : Int) - v ≤ v) := by omega
      rw [loopsK_end] at h7 hm2
      simp only [go_sem, ↓reduceIte, Nat.reduceEqDiff, Nat.reduceAdd, Nat.reduceMul, Nat.reduceBEq, Option.getD_none, Int.reduceToNat, Nat.reduceSub, Nat.reduceLT, Nat.reduceLeDiff, Int.reduceLE, Int.reduceLT, reduceCtorEq, hn, h7, hm2, take_map_len, q0, q1, h8, h7, h6, hm, hm2]
end Go.Vm.Ytdebllkmblakkaa
/- Walks: arcs back to clauses. -/
namespace Go.Vm.Ytdebllkmblakkaa
open Go Go.Vm
set_option maxRecDepth 10000
set_option maxHeartbeats 4000000
set_option linter.unusedSimpArgs false
set_option linter.unusedVariables false

def arcB (v : Int) (c : List Int) : Bool := decide (c.length = 2) && clauseB v c
def negF : List Int → List Int
  | x :: l => -x :: l
  | [] => []
def twoOf (v : Int) (l : List (List Int)) : D :=
  if inB v 0 12 && decide (l.length ≤ 60) && l.all (arcB v) then .tup [.sl 1 (l.map fun c => ints (negF c)), Bb true] else .tup [.sl 1 [], Bb false]
theorem spec_TwoOf.fc (v : Int) (l : List (List Int)) (hl : l.length ≤ 4294967296) (hr : ∀ c ∈ l, c.length ≤ 4294967296) : FCt prog F_spec_TwoOf [.ro, .ro] [Ii v, intss l] (twoOf v l) [] := by
  refine fct_run spec_TwoOf.ok rfl ?_
  unfold twoOf
  simp only [go_sem, ↓reduceIte, Nat.reduceEqDiff, Nat.reduceAdd, Nat.reduceMul, Nat.reduceBEq, Option.getD_none, Int.reduceToNat, Nat.reduceSub, Nat.reduceLT, Nat.reduceLeDiff, Int.reduceLE, Int.reduceLT, reduceCtorEq]
  refine fcW_bool (spec_l1In.fc ..) ?_
  cases hin : inB v 0 12
  · simp only [go_sem, ↓reduceIte, Nat.reduceEqDiff, Nat.reduceAdd, Nat.reduceMul, Nat.reduceBEq, Option.getD_none, Int.reduceToNat, Nat.reduceSub, Nat.reduceLT, Nat.reduceLeDiff, Int.reduceLE, Int.reduceLT, reduceCtorEq]
  have hv : 0 ≤ v ∧ v ≤ 4294967296 := by simp only [inB, Bool.and_eq_true, decide_eq_true_eq] at hin; omega
  by_cases h2 : l.length ≤ 60
  case neg =>
    have h2' : (l.length : Int) > 60 := by omega
    simp only [go_sem, ↓reduceIte, Nat.reduceEqDiff, Nat.reduceAdd, Nat.reduceMul, Nat.reduceBEq, Option.getD_none, Int.reduceToNat, Nat.reduceSub, Nat.reduceLT, Nat.reduceLeDiff, Int.reduceLE, Int.reduceLT, reduceCtorEq, h2, h2']
  have h2' : ¬ (l.length : Int) > 60 := by omega
  simp only [go_sem, ↓reduceIte, Nat.reduceEqDiff, Nat.reduceAdd, Nat.reduceMul, Nat.reduceBEq, Option.getD_none, Int.reduceToNat, Nat.reduceSub, Nat.reduceLT, Nat.reduceLeDiff, Int.reduceLE, Int.reduceLT, reduceCtorEq, h2, h2']
  refine R_loop (α := Nat) (fun k s' M' => k ≤ l.length ∧ s' 19 = aI k ∧ (l.take k).all (arcB v) = true ∧ ∃ w, s' 6 = .sl 2688 w 0 k 1 ∧ M'.m 2688 = some (.arr w true 1 ((l.take k).map fun c => ints (negF c)))) (fun k => l.length - k) 0 ⟨by omega, by simp only [go_sem, ↓reduceIte, Nat.reduceEqDiff, Nat.reduceAdd, Nat.reduceMul, Nat.reduceBEq, Option.getD_none, Int.reduceToNat, Nat.reduceSub, Nat.reduceLT, Nat.reduceLeDiff, Int.reduceLE, Int.reduceLT, reduceCtorEq]; rfl, by simp, _, by simp only [go_sem, ↓reduceIte, Nat.reduceEqDiff, Nat.reduceAdd, Nat.reduceMul, Nat.reduceBEq, Option.getD_none, Int.reduceToNat, Nat.reduceSub, Nat.reduceLT, Nat.reduceLeDiff, Int.reduceLE, Int.reduceLT, reduceCtorEq]; rfl, by simp only [go_sem, ↓reduceIte, Nat.reduceEqDiff, Nat.reduceAdd, Nat.reduceMul, Nat.reduceBEq, Option.getD_none, Int.reduceToNat, Nat.reduceSub, Nat.reduceLT, Nat.reduceLeDiff, Int.reduceLE, Int.reduceLT, reduceCtorEq]⟩ ?_
  rintro k s' M' ⟨hk, h19, hrr, w, hro, hm⟩ ho
  have h0 : s' 0 = aI v := by rw [ho 0 rfl]; simp only [go_sem, ↓reduceIte, Nat.reduceEqDiff, Nat.reduceAdd, Nat.reduceMul, Nat.reduceBEq, Option.getD_none, Int.reduceToNat, Nat.reduceSub, Nat.reduceLT, Nat.reduceLeDiff, Int.reduceLE, Int.reduceLT, reduceCtorEq]
  have h17 : s' 17 = .dat none (intss l) := by rw [ho 17 rfl]; simp only [go_sem, ↓reduceIte, Nat.reduceEqDiff, Nat.reduceAdd, Nat.reduceMul, Nat.reduceBEq, Option.getD_none, Int.reduceToNat, Nat.reduceSub, Nat.reduceLT, Nat.reduceLeDiff, Int.reduceLE, Int.reduceLT, reduceCtorEq]
  have h18 : s' 18 = aI l.length := by rw [ho 18 rfl]; simp only [go_sem, ↓reduceIte, Nat.reduceEqDiff, Nat.reduceAdd, Nat.reduceMul, Nat.reduceBEq, Option.getD_none, Int.reduceToNat, Nat.reduceSub, Nat.reduceLT, Nat.reduceLeDiff, Int.reduceLE, Int.reduceLT, reduceCtorEq]
  clear ho
  unfold spec_TwoOf.b0
  by_cases hlt : k < l.length
  · have hi' : (k : Int) < l.length := by omega
    have ga : l[k]? = some l[k] := List.getElem?_eq_getElem hlt
    have hw : IntKind.i64.wrap (k + 1) = ((k + 1 : Nat) : Int) := wrap_k hlt (by omega)
    simp only [go_sem, ↓reduceIte, Nat.reduceEqDiff, Nat.reduceAdd, Nat.reduceMul, Nat.reduceBEq, Option.getD_none, Int.reduceToNat, Nat.reduceSub, Nat.reduceLT, Nat.reduceLeDiff, Int.reduceLE, Int.reduceLT, reduceCtorEq, hi', ga, h0, h17, h18, h19]
    by_cases h2c : l[k].length = 2
    case neg =>
      have hne : ((l[k].length : Int) != 2) = true := by simp; omega
      have hf := not_all (p := arcB v) hlt (by simp [arcB, h2c])
      simp only [go_sem, ↓reduceIte, Nat.reduceEqDiff, Nat.reduceAdd, Nat.reduceMul, Nat.reduceBEq, Option.getD_none, Int.reduceToNat, Nat.reduceSub, Nat.reduceLT, Nat.reduceLeDiff, Int.reduceLE, Int.reduceLT, reduceCtorEq, hne, hf, h0, h17, h18, h19]
    have hne : ((l[k].length : Int) != 2) = false := by simp; omega
    simp only [go_sem, ↓reduceIte, Nat.reduceEqDiff, Nat.reduceAdd, Nat.reduceMul, Nat.reduceBEq, Option.getD_none, Int.reduceToNat, Nat.reduceSub, Nat.reduceLT, Nat.reduceLeDiff, Int.reduceLE, Int.reduceLT, reduceCtorEq, hne, h0, h17, h18, h19]
    refine fcW_bool (spec_l4Clause.fc _ _ hv (hr _ (List.getElem_mem hlt))) ?_
    cases hc : clauseB v l[k] with
    | false => simp only [go_sem, ↓reduceIte, Nat.reduceEqDiff, Nat.reduceAdd, Nat.reduceMul, Nat.reduceBEq, Option.getD_none, Int.reduceToNat, Nat.reduceSub, Nat.reduceLT, Nat.reduceLeDiff, Int.reduceLE, Int.reduceLT, reduceCtorEq, hne, not_all (p := arcB v) hlt (by simp [arcB, hc, h0, h17, h18, h19])]
    | true =>
      obtain ⟨x, y, hxy⟩ : ∃ x y, l[k] = [x, y] := by
        match l[k], h2c with
        | [x, y], _ => exact ⟨x, y, rfl⟩
      rw [hxy] at hc
      have hlit := cl_lit (v := v) (c := [x, y]) (k := 2) (by simp) (by simp only [clauseB, Bool.and_eq_true] at hc; exact hc.1) x (by simp)
      have hxw := neg_in (n := x) (by have := litB_in hv.2 hlit; omega)
      have harc : arcB v l[k] = true := by simp [arcB, hxy, hc]
      rw [hxy]
      have hlen : ((l.take k).map fun c => ints (negF c)).length = k := by rw [List.length_map, List.length_take]; omega
      have happ : ((l.take k).map fun c => ints (negF c)) ++ [D.sl 1 [D.int IntKind.i64 (-x), Ii y]] = (l.take (k + 1)).map fun c => ints (negF c) := by rw [take_succ' hlt, List.map_append]; simp only [List.map_cons, List.map_nil, hxy]; rfl
      have hb : (k + 1) * 24 ≤ 70368744177664 := by omega
      have htk : ((l.take k).map fun c => ints (negF c)).take k = (l.take k).map fun c => ints (negF c) := List.take_of_length_le (by omega)
      have hne2 : (((2 : Nat) : Int) != 2) = false := rfl
      have c2 : ((2 : Nat) : Int) = 2 := rfl
      simp only [go_sem, ↓reduceIte, Nat.reduceEqDiff, Nat.reduceAdd, Nat.reduceMul, Nat.reduceBEq, Option.getD_none, Int.reduceToNat, Nat.reduceSub, Nat.reduceLT, Nat.reduceLeDiff, Int.reduceLE, Int.reduceLT, reduceCtorEq, c2, hne2, hxw, hro, hm, hw, hlen, hb, htk, happ, h0, h17, h18, h19]
      exact ⟨k + 1, by dsimp only; omega, by omega, by simp only [go_sem, ↓reduceIte, Nat.reduceEqDiff, Nat.reduceAdd, Nat.reduceMul, Nat.reduceBEq, Option.getD_none, Int.reduceToNat, Nat.reduceSub, Nat.reduceLT, Nat.reduceLeDiff, Int.reduceLE, Int.reduceLT, reduceCtorEq, h0, h17, h18, h19], all_take hlt hrr harc, _, by simp only [go_sem, ↓reduceIte, Nat.reduceEqDiff, Nat.reduceAdd, Nat.reduceMul, Nat.reduceBEq, Option.getD_none, Int.reduceToNat, Nat.reduceSub, Nat.reduceLT, Nat.reduceLeDiff, Int.reduceLE, Int.reduceLT, reduceCtorEq, h0, h17, h18, h19]; rfl, by simp only [go_sem, ↓reduceIte, Nat.reduceEqDiff, Nat.reduceAdd, Nat.reduceMul, Nat.reduceBEq, Option.getD_none, Int.reduceToNat, Nat.reduceSub, Nat.reduceLT, Nat.reduceLeDiff, Int.reduceLE, Int.reduceLT, reduceCtorEq, h0, h17, h18, h19]⟩
  · have hi' : ¬ (k : Int) < l.length := by omega
    have hkl : k = l.length := by omega
    subst hkl
    rw [List.take_length] at hrr hm
    have ht : (l.map fun c => ints (negF c)).take l.length = l.map fun c => ints (negF c) := List.take_of_length_le (by simp)
    simp only [go_sem, ↓reduceIte, Nat.reduceEqDiff, Nat.reduceAdd, Nat.reduceMul, Nat.reduceBEq, Option.getD_none, Int.reduceToNat, Nat.reduceSub, Nat.reduceLT, Nat.reduceLeDiff, Int.reduceLE, Int.reduceLT, reduceCtorEq, hi', hro, hrr, hm, h2, ht, h0, h17, h18, h19]

theorem impl_TwoOf.fc (v : Int) (l : List (List Int)) (hl : l.length ≤ 4294967296) (hr : ∀ c ∈ l, c.length ≤ 4294967296) : FCt prog F_impl_TwoOf [.ro, .ro] [Ii v, intss l] (twoOf v l) [] := by
  refine fct_run impl_TwoOf.ok rfl ?_
  unfold twoOf
  simp only [go_sem, ↓reduceIte, Nat.reduceEqDiff, Nat.reduceAdd, Nat.reduceMul, Nat.reduceBEq, Option.getD_none, Int.reduceToNat, Nat.reduceSub, Nat.reduceLT, Nat.reduceLeDiff, Int.reduceLE, Int.reduceLT, reduceCtorEq]
  refine fcW_bool (impl_in.fc ..) ?_
  cases hin : inB v 0 12
  · simp only [go_sem, ↓reduceIte, Nat.reduceEqDiff, Nat.reduceAdd, Nat.reduceMul, Nat.reduceBEq, Option.getD_none, Int.reduceToNat, Nat.reduceSub, Nat.reduceLT, Nat.reduceLeDiff, Int.reduceLE, Int.reduceLT, reduceCtorEq]
  have hv : 0 ≤ v ∧ v ≤ 4294967296 := by simp only [inB, Bool.and_eq_true, decide_eq_true_eq] at hin; omega
  by_cases h2 : l.length ≤ 60
  case neg =>
    have h2' : (l.length : Int) > 60 := by omega
    simp only [go_sem, ↓reduceIte, Nat.reduceEqDiff, Nat.reduceAdd, Nat.reduceMul, Nat.reduceBEq, Option.getD_none, Int.reduceToNat, Nat.reduceSub, Nat.reduceLT, Nat.reduceLeDiff, Int.reduceLE, Int.reduceLT, reduceCtorEq, h2, h2']
  have h2' : ¬ (l.length : Int) > 60 := by omega
  simp only [go_sem, ↓reduceIte, Nat.reduceEqDiff, Nat.reduceAdd, Nat.reduceMul, Nat.reduceBEq, Option.getD_none, Int.reduceToNat, Nat.reduceSub, Nat.reduceLT, Nat.reduceLeDiff, Int.reduceLE, Int.reduceLT, reduceCtorEq, h2, h2']
  refine R_loop (α := Nat) (fun k s' M' => k ≤ l.length ∧ s' 19 = aI k ∧ (l.take k).all (arcB v) = true ∧ ∃ w, s' 6 = .sl 2688 w 0 k 1 ∧ M'.m 2688 = some (.arr w true 1 ((l.take k).map fun c => ints (negF c)))) (fun k => l.length - k) 0 ⟨by omega, by simp only [go_sem, ↓reduceIte, Nat.reduceEqDiff, Nat.reduceAdd, Nat.reduceMul, Nat.reduceBEq, Option.getD_none, Int.reduceToNat, Nat.reduceSub, Nat.reduceLT, Nat.reduceLeDiff, Int.reduceLE, Int.reduceLT, reduceCtorEq]; rfl, by simp, _, by simp only [go_sem, ↓reduceIte, Nat.reduceEqDiff, Nat.reduceAdd, Nat.reduceMul, Nat.reduceBEq, Option.getD_none, Int.reduceToNat, Nat.reduceSub, Nat.reduceLT, Nat.reduceLeDiff, Int.reduceLE, Int.reduceLT, reduceCtorEq]; rfl, by simp only [go_sem, ↓reduceIte, Nat.reduceEqDiff, Nat.reduceAdd, Nat.reduceMul, Nat.reduceBEq, Option.getD_none, Int.reduceToNat, Nat.reduceSub, Nat.reduceLT, Nat.reduceLeDiff, Int.reduceLE, Int.reduceLT, reduceCtorEq]⟩ ?_
  rintro k s' M' ⟨hk, h19, hrr, w, hro, hm⟩ ho
  have h0 : s' 0 = aI v := by rw [ho 0 rfl]; simp only [go_sem, ↓reduceIte, Nat.reduceEqDiff, Nat.reduceAdd, Nat.reduceMul, Nat.reduceBEq, Option.getD_none, Int.reduceToNat, Nat.reduceSub, Nat.reduceLT, Nat.reduceLeDiff, Int.reduceLE, Int.reduceLT, reduceCtorEq]
  have h17 : s' 17 = .dat none (intss l) := by rw [ho 17 rfl]; simp only [go_sem, ↓reduceIte, Nat.reduceEqDiff, Nat.reduceAdd, Nat.reduceMul, Nat.reduceBEq, Option.getD_none, Int.reduceToNat, Nat.reduceSub, Nat.reduceLT, Nat.reduceLeDiff, Int.reduceLE, Int.reduceLT, reduceCtorEq]
  have h18 : s' 18 = aI l.length := by rw [ho 18 rfl]; simp only [go_sem, ↓reduceIte, Nat.reduceEqDiff, Nat.reduceAdd, Nat.reduceMul, Nat.reduceBEq, Option.getD_none, Int.reduceToNat, Nat.reduceSub, Nat.reduceLT, Nat.reduceLeDiff, Int.reduceLE, Int.reduceLT, reduceCtorEq]
  clear ho
  unfold impl_TwoOf.b0
  by_cases hlt : k < l.length
  · have hi' : (k : Int) < l.length := by omega
    have ga : l[k]? = some l[k] := List.getElem?_eq_getElem hlt
    have hw : IntKind.i64.wrap (k + 1) = ((k + 1 : Nat) : Int) := wrap_k hlt (by omega)
    simp only [go_sem, ↓reduceIte, Nat.reduceEqDiff, Nat.reduceAdd, Nat.reduceMul, Nat.reduceBEq, Option.getD_none, Int.reduceToNat, Nat.reduceSub, Nat.reduceLT, Nat.reduceLeDiff, Int.reduceLE, Int.reduceLT, reduceCtorEq, hi', ga, h0, h17, h18, h19]
    by_cases h2c : l[k].length = 2
    case neg =>
      have hne : ((l[k].length : Int) != 2) = true := by simp; omega
      have hf := not_all (p := arcB v) hlt (by simp [arcB, h2c])
      simp only [go_sem, ↓reduceIte, Nat.reduceEqDiff, Nat.reduceAdd, Nat.reduceMul, Nat.reduceBEq, Option.getD_none, Int.reduceToNat, Nat.reduceSub, Nat.reduceLT, Nat.reduceLeDiff, Int.reduceLE, Int.reduceLT, reduceCtorEq, hne, hf, h0, h17, h18, h19]
    have hne : ((l[k].length : Int) != 2) = false := by simp; omega
    simp only [go_sem, ↓reduceIte, Nat.reduceEqDiff, Nat.reduceAdd, Nat.reduceMul, Nat.reduceBEq, Option.getD_none, Int.reduceToNat, Nat.reduceSub, Nat.reduceLT, Nat.reduceLeDiff, Int.reduceLE, Int.reduceLT, reduceCtorEq, hne, h0, h17, h18, h19]
    refine fcW_bool (impl_isClause.fc _ _ hv (hr _ (List.getElem_mem hlt))) ?_
    cases hc : clauseB v l[k] with
    | false => simp only [go_sem, ↓reduceIte, Nat.reduceEqDiff, Nat.reduceAdd, Nat.reduceMul, Nat.reduceBEq, Option.getD_none, Int.reduceToNat, Nat.reduceSub, Nat.reduceLT, Nat.reduceLeDiff, Int.reduceLE, Int.reduceLT, reduceCtorEq, hne, not_all (p := arcB v) hlt (by simp [arcB, hc, h0, h17, h18, h19])]
    | true =>
      obtain ⟨x, y, hxy⟩ : ∃ x y, l[k] = [x, y] := by
        match l[k], h2c with
        | [x, y], _ => exact ⟨x, y, rfl⟩
      rw [hxy] at hc
      have hlit := cl_lit (v := v) (c := [x, y]) (k := 2) (by simp) (by simp only [clauseB, Bool.and_eq_true] at hc; exact hc.1) x (by simp)
      have hxw := neg_in (n := x) (by have := litB_in hv.2 hlit; omega)
      have harc : arcB v l[k] = true := by simp [arcB, hxy, hc]
      rw [hxy]
      have hlen : ((l.take k).map fun c => ints (negF c)).length = k := by rw [List.length_map, List.length_take]; omega
      have happ : ((l.take k).map fun c => ints (negF c)) ++ [D.sl 1 [D.int IntKind.i64 (-x), Ii y]] = (l.take (k + 1)).map fun c => ints (negF c) := by rw [take_succ' hlt, List.map_append]; simp only [List.map_cons, List.map_nil, hxy]; rfl
      have hb : (k + 1) * 24 ≤ 70368744177664 := by omega
      have htk : ((l.take k).map fun c => ints (negF c)).take k = (l.take k).map fun c => ints (negF c) := List.take_of_length_le (by omega)
      have hne2 : (((2 : Nat) : Int) != 2) = false := rfl
      have c2 : ((2 : Nat) : Int) = 2 := rfl
      simp only [go_sem, ↓reduceIte, Nat.reduceEqDiff, Nat.reduceAdd, Nat.reduceMul, Nat.reduceBEq, Option.getD_none, Int.reduceToNat, Nat.reduceSub, Nat.reduceLT, Nat.reduceLeDiff, Int.reduceLE, Int.reduceLT, reduceCtorEq, c2, hne2, hxw, hro, hm, hw, hlen, hb, htk, happ, h0, h17, h18, h19]
      exact ⟨k + 1, by dsimp only; omega, by omega, by simp only [go_sem, ↓reduceIte, Nat.reduceEqDiff, Nat.reduceAdd, Nat.reduceMul, Nat.reduceBEq, Option.getD_none, Int.reduceToNat, Nat.reduceSub, Nat.reduceLT, Nat.reduceLeDiff, Int.reduceLE, Int.reduceLT, reduceCtorEq, h0, h17, h18, h19], all_take hlt hrr harc, _, by simp only [go_sem, ↓reduceIte, Nat.reduceEqDiff, Nat.reduceAdd, Nat.reduceMul, Nat.reduceBEq, Option.getD_none, Int.reduceToNat, Nat.reduceSub, Nat.reduceLT, Nat.reduceLeDiff, Int.reduceLE, Int.reduceLT, reduceCtorEq, h0, h17, h18, h19]; rfl, by simp only [go_sem, ↓reduceIte, Nat.reduceEqDiff, Nat.reduceAdd, Nat.reduceMul, Nat.reduceBEq, Option.getD_none, Int.reduceToNat, Nat.reduceSub, Nat.reduceLT, Nat.reduceLeDiff, Int.reduceLE, Int.reduceLT, reduceCtorEq, h0, h17, h18, h19]⟩
  · have hi' : ¬ (k : Int) < l.length := by omega
    have hkl : k = l.length := by omega
    subst hkl
    rw [List.take_length] at hrr hm
    have ht : (l.map fun c => ints (negF c)).take l.length = l.map fun c => ints (negF c) := List.take_of_length_le (by simp)
    simp only [go_sem, ↓reduceIte, Nat.reduceEqDiff, Nat.reduceAdd, Nat.reduceMul, Nat.reduceBEq, Option.getD_none, Int.reduceToNat, Nat.reduceSub, Nat.reduceLT, Nat.reduceLeDiff, Int.reduceLE, Int.reduceLT, reduceCtorEq, hi', hro, hrr, hm, h2, ht, h0, h17, h18, h19]

theorem negF_len (c : List Int) : (negF c).length = c.length := by cases c <;> rfl
end Go.Vm.Ytdebllkmblakkaa
/- Plain law: what literals lead to, and their components. -/
namespace Go.Vm.Ytdebllkmblakkaa
open Go Go.Vm
set_option maxRecDepth 10000
set_option maxHeartbeats 4000000
set_option linter.unusedSimpArgs false
set_option linter.unusedVariables false

theorem arc_back {l : List (List Int)} {a b : Int} (h : Arc l a b) : Arc l (-b) (-a) := by
  obtain ⟨c, hc, k, hk, h1, h2⟩ := h
  refine ⟨c, hc, c.length - 1 - k, by omega, by rw [Int.neg_neg]; exact h2, ?_⟩
  rw [show c.length - 1 - (c.length - 1 - k) = k by omega]; exact h1
theorem reach_trans {l : List (List Int)} {x y z : Int} (h1 : Reach l x y) (h2 : Reach l y z) : Reach l x z := by
  induction h2 with
  | refl => exact h1
  | step _ ha ih => exact .step ih ha
theorem reach_back {l : List (List Int)} {x y : Int} (h : Reach l x y) : Reach l (-y) (-x) := by
  induction h with
  | refl => exact .refl
  | step _ ha ih => exact reach_trans (.step .refl (arc_back ha)) ih
theorem lit_neg {v : Nat} {x : Int} (h : Lit v x) : Lit v (-x) := by
  unfold Lit at *; omega
section
variable {v : Nat} {l : List (List Int)}
theorem rmem (h : TwoOk v l) {x y : Int} (hx : Lit v x) : y ∈ reachL v l x ↔ Reach l x y := reachL_mem fun y => reach_lit h.lits hx
theorem leads_back (h : TwoOk v l) {x y : Int} (hx : Lit v x) (hy : y ∈ reachL v l x) : -x ∈ reachL v l (-y) := by
  have h1 := (rmem h hx).1 hy
  exact (rmem h (lit_neg (reach_lit h.lits hx h1))).2 (reach_back h1)
theorem comp_mem (h : TwoOk v l) {x y : Int} (hx : Lit v x) : y ∈ compL v l x ↔ Reach l x y ∧ Reach l y x := by
  unfold compL
  rw [List.mem_filter, rmem h hx]
  constructor
  · rintro ⟨h1, h2⟩
    rw [List.any_eq_true] at h2
    obtain ⟨z, hz, e⟩ := h2
    obtain rfl : z = x := by simpa using e
    exact ⟨h1, (rmem h (reach_lit h.lits hx h1)).1 hz⟩
  · rintro ⟨h1, h2⟩
    exact ⟨h1, List.any_eq_true.2 ⟨x, (rmem h (reach_lit h.lits hx h1)).2 h2, by simp⟩⟩
theorem comp_inc (x : Int) : Inc (compL v l x) := (reachL_inc v l x).filter _
theorem comp_eq (h : TwoOk v l) {x y : Int} (hx : Lit v x) (hy : y ∈ compL v l x) : compL v l y = compL v l x := by
  obtain ⟨h1, h2⟩ := (comp_mem h hx).1 hy
  have ly := reach_lit h.lits hx h1
  refine inc_ext (comp_inc y) (comp_inc x) fun z => ?_
  rw [comp_mem h hx, comp_mem h ly]
  exact ⟨fun ⟨a, b⟩ => ⟨reach_trans h1 a, reach_trans b h2⟩, fun ⟨a, b⟩ => ⟨reach_trans h2 a, reach_trans b h1⟩⟩
/-- the literals, without zero -/
def litsZ (v : Nat) : List Int := (litsL v).filter (· != 0)
theorem litsZ_mem {x : Int} : x ∈ litsZ v ↔ Lit v x := by
  unfold litsZ Lit
  rw [List.mem_filter, litsL_mem, bne_iff_ne]
  exact ⟨fun h => ⟨h.2, h.1⟩, fun h => ⟨h.2, h.1⟩⟩
theorem litsZ_len : (litsZ v).length = 2 * v := by
  have e : litsZ v = (litsL v).erase 0 := by
    unfold litsZ
    have hn : (litsL v).Nodup := (litsL_inc v).imp fun h => by omega
    exact (hn.erase_eq_filter 0).symm
  rw [e, List.length_erase_of_mem (litsL_mem.2 (by omega))]
  simp [litsL]
theorem head_in {x : Int} (hl : 0 < (compL v l x).length) : (compL v l x).getD 0 0 ∈ compL v l x := by
  rw [List.getD_eq_getElem?_getD, List.getElem?_eq_getElem hl]
  exact List.getElem_mem hl
theorem loops_mem {r : List Int} (hr : r ∈ loopsL v l) : ∃ x, Lit v x ∧ r = compL v l x ∧ r.getD 0 0 = x := by
  unfold loopsL at hr
  obtain ⟨x, hx, rfl⟩ := List.mem_map.1 hr
  obtain ⟨h1, h2⟩ := List.mem_filter.1 hx
  unfold headB at h2
  rw [Bool.and_eq_true, bne_iff_ne, beq_iff_eq] at h2
  exact ⟨x, ⟨h2.1, (litsL_mem.1 h1)⟩, rfl, h2.2⟩
theorem loops_flat (h : TwoOk v l) : (loopsL v l).flatten.length = 2 * v := by
  rw [← litsZ_len (v := v)]
  apply List.Perm.length_eq
  refine (List.perm_ext_iff_of_nodup ?_ ?_).2 fun y => ?_
  · rw [List.Nodup, List.pairwise_flatten]
    constructor
    · intro r hr
      obtain ⟨x, hx, rfl, _⟩ := loops_mem hr
      exact (comp_inc x).imp fun h => by omega
    · unfold loopsL
      rw [List.pairwise_map]
      have hp : ((litsL v).filter (headB v l)).Pairwise (· < ·) := (litsL_inc v).filter _
      rw [List.pairwise_iff_getElem] at hp ⊢
      intro i j hi hj hij a ha b hb e
      subst e
      have m1 := List.mem_filter.1 (List.getElem_mem hi)
      have m2 := List.mem_filter.1 (List.getElem_mem hj)
      have lt := hp i j hi hj hij
      generalize ((litsL v).filter (headB v l))[i] = x at *
      generalize ((litsL v).filter (headB v l))[j] = z at *
      unfold headB at m1 m2
      rw [Bool.and_eq_true, bne_iff_ne, beq_iff_eq] at m1 m2
      have l1 : Lit v x := ⟨m1.2.1, litsL_mem.1 m1.1⟩
      have l2 : Lit v z := ⟨m2.2.1, litsL_mem.1 m2.1⟩
      have e1 := comp_eq h l1 ha
      have e2 := comp_eq h l2 hb
      have : x = z := by rw [← m1.2.2, ← m2.2.2, ← e1, ← e2]
      omega
  · exact (List.Pairwise.filter _ (litsL_inc v)).imp fun h => by omega
  · rw [litsZ_mem, List.mem_flatten]
    constructor
    · rintro ⟨r, hr, hy⟩
      obtain ⟨x, hx, rfl, _⟩ := loops_mem hr
      exact reach_lit h.lits hx ((comp_mem h hx).1 hy).1
    · intro hy
      have hs := compL_self h hy
      have hl : 0 < (compL v l y).length := List.length_pos_of_mem hs
      have hi := head_in hl
      have he := comp_eq h hy hi
      have hz := reach_lit h.lits hy ((comp_mem h hy).1 hi).1
      refine ⟨compL v l y, ?_, hs⟩
      unfold loopsL
      refine List.mem_map.2 ⟨(compL v l y).getD 0 0, List.mem_filter.2 ⟨litsL_mem.2 hz.2, ?_⟩, he⟩
      unfold headB
      rw [Bool.and_eq_true, bne_iff_ne, beq_iff_eq]
      exact ⟨hz.1, by rw [he]⟩
end
/-- the sum of the first lengths -/
def sumLen (l : List (List Int)) (k : Nat) : Nat := ((l.take k).flatten).length
theorem sumLen_succ {l : List (List Int)} {k : Nat} (h : k < l.length) : sumLen l (k + 1) = sumLen l k + l[k].length := by
  unfold sumLen
  rw [take_succ' h, List.flatten_append]
  simp
theorem sumLen_all {l : List (List Int)} : sumLen l l.length = l.flatten.length := by unfold sumLen; rw [List.take_length]
theorem loops_len {v : Nat} {l : List (List Int)} : (loopsL v l).length ≤ 2 * v + 1 := by
  rw [← loopsK_end]
  exact loopsK_len v l _
end Go.Vm.Ytdebllkmblakkaa
