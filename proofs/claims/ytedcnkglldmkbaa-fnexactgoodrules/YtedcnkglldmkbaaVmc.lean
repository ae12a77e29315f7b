/- An interpreter for loaded functions over plain data, and that it is right: part 3 (no condition). -/
import Derived.Test.YtedcnkglldmkbaaVmb
/- Using the interpreter: monotony, what stays, loops. -/
namespace Go.Vm
open Go
set_option linter.unusedSimpArgs false
set_option linter.unusedVariables false

/-- a plain operation of a region -/
def E0 (j : Nat) (d : Option Nat) (g : Option (Nat × Bool)) (k : KO) : Ent := { j := j, d := d, g := g, k := k }
/-- one that leaves memory as it is -/
def E2 (j : Nat) (d : Option Nat) (g : Option (Nat × Bool)) (k : KO) : Ent := { j := j, d := d, g := g, k := k, kd := 2 }

/-- one that reads -/
def ER (j : Nat) (d : Option Nat) (g : Option (Nat × Bool)) (x : I) : Ent := { j := j, d := d, g := g, k := .i x, kd := 2 }

section
variable {P : Program} {s : Nat → AV} {M : Mem} {nb ib : Nat}

theorem callR_mono {f : FuncId} {cold : Bool} {args : List (Md × X)} {K K' : AV → Mem → (Nat → Bool) → Prop} (h : callR P f s M nb ib cold args K) (hk : ∀ a N T, K a N T → K' a N T) : callR P f s M nb ib cold args K' := by
  unfold callR at h ⊢
  split at h
  · cases h
  split at h
  · cases h
  obtain ⟨r, outs, h1, h2, h⟩ := h
  refine ⟨r, outs, h1, h2, ?_⟩
  split at h
  · cases h
  exact ⟨h.1, hk _ _ _ h.2⟩
theorem kstR_mono {k : KO} {K K' : AV → Mem → (Nat → Bool) → Prop} (h : kstR P s M nb ib K k) (hk : ∀ a N T, K a N T → K' a N T) : kstR P s M nb ib K' k := by
  cases k with
  | i x => simp only [kstR] at h ⊢; split at h; exact hk _ _ _ h; cases h
  | call f cold args => exact callR_mono h hk
  | ccl x cold args =>
    simp only [kstR] at h ⊢
    split at h
    · exact callR_mono h hk
    · exact callR_mono h hk
    · cases h
theorem WpE_mono : ∀ (es : List Ent) (s : Nat → AV) (M : Mem) (lg : Lg) {K K' : (Nat → AV) → Mem → Prop}, WpE P nb ib es s M lg K → (∀ s M, K s M → K' s M) → WpE P nb ib es s M lg K'
  | [], s, M, lg, K, K', h, hk => hk _ _ h
  | e :: es, s, M, lg, K, K', h, hk => by
    simp only [WpE] at h ⊢
    split at h
    · rename_i hp
      rw [if_pos hp]
      unfold exP at h ⊢
      split at h
      · cases h
      · exact WpE_mono es _ _ _ h hk
      · exact kstR_mono h fun a N T hh => ⟨hh.1, hh.2.1, WpE_mono es _ _ _ hh.2.2 hk⟩
    · rename_i hp
      rw [if_neg hp]
      unfold exR at h ⊢
      split at h
      · cases h
      · exact WpE_mono es _ _ _ h hk
      · exact kstR_mono h fun a N T hh => ⟨hh.1, WpE_mono es _ _ _ hh.2 hk⟩
theorem Wp_mono : ∀ (c : KC) (s : Nat → AV) (M : Mem) {K K' : Post}, Wp P c K s M → (∀ e s M, K e s M → K' e s M) → Wp P c K' s M
  | .skip, s, M, K, K', h, hk => hk _ _ _ h
  | .reg nb n es, s, M, K, K', h, hk => WpE_mono es s M _ h fun s M => hk _ _ _
  | .seq a b, s, M, K, K', h, hk => Wp_mono a s M (K' := Post.seq (Wp P b K') K') h fun e s M he => by
    cases e with
    | n => exact Wp_mono b s M he hk
    | ex i => exact hk _ _ _ he
    | r => exact hk _ _ _ he
  | .cond x a b, s, M, K, K', h, hk => by
    simp only [Wp] at h ⊢
    split at h
    · exact Wp_mono a s M h hk
    · exact Wp_mono b s M h hk
    · cases h
  | .block i a, s, M, K, K', h, hk => Wp_mono a s M (K' := Post.blk i K') h fun e s M he => by
    cases e with
    | n => exact hk _ _ _ he
    | r => exact hk _ _ _ he
    | ex j => simp only [Post.blk] at he ⊢; split at he <;> rename_i q <;> simp only [q, if_true, if_false] <;> exact hk _ _ _ he
  | .loop a, s, M, K, K', h, hk => by
    obtain ⟨I, h0, hs⟩ := h
    refine ⟨I, h0, fun k s M hI => Wp_mono a s M (hs k s M hI) fun e s M he => ?_⟩
    cases e with
    | n => exact he
    | ex i => exact hk _ _ _ he
    | r => exact hk _ _ _ he
  | .exit i, s, M, K, K', h, hk => hk _ _ _ h
  | .ret, s, M, K, K', h, hk => hk _ _ _ h
  | .nrm t l sz a, s, M, K, K', h, hk => Wp_mono a _ _ (K := K) (K' := K') (by simpa only [Wp] using h) hk
  | .fz t a, s, M, K, K', h, hk => by
    simp only [Wp] at h ⊢
    split at h
    · exact Wp_mono a _ _ h hk
    · cases h

/-- the slots that code writes -/
def dsE : List Ent → List Nat
  | [] => []
  | e :: es => (match e.d with | some d => d :: dsE es | none => dsE es)
def KC.ws : KC → List Nat
  | .reg _ _ es => dsE es
  | .seq a b => a.ws ++ b.ws
  | .cond _ a b => a.ws ++ b.ws
  | .block _ a | .loop a => a.ws
  | .nrm t _ _ a | .fz t a => t :: a.ws
  | _ => []
/-- the same slots but for those written -/
def Off (ws : List Nat) (s s' : Nat → AV) : Prop := ∀ t, ws.contains t = false → s' t = s t
theorem Off.refl {ws : List Nat} {s : Nat → AV} : Off ws s s := fun _ _ => rfl
theorem Off.trans {ws : List Nat} {s s1 s2 : Nat → AV} (a : Off ws s s1) (b : Off ws s1 s2) : Off ws s s2 := fun t h => (b t h).trans (a t h)
theorem Off.mono {ws ws' : List Nat} {s s1 : Nat → AV} (a : Off ws s s1) (h : ∀ t, t ∈ ws → t ∈ ws') : Off ws' s s1 := fun t ht => a t (by
  simp only [List.contains_eq_mem, decide_eq_false_iff_not] at ht ⊢; exact fun hh => ht (h t hh))
theorem off_updO {d : Option Nat} {a : AV} {ws : List Nat} (h : ∀ x, d = some x → x ∈ ws) : Off ws s (updO s d a) := by
  intro t ht
  cases d with
  | none => rfl
  | some d =>
    simp only [updO, upd]
    split
    · rename_i e
      subst e
      have := h t rfl
      simp only [List.contains_eq_mem, decide_eq_false_iff_not] at ht
      exact absurd this ht
    · rfl
theorem WpE_off : ∀ (es : List Ent) (s : Nat → AV) (M : Mem) (lg : Lg) {K : (Nat → AV) → Mem → Prop}, WpE P nb ib es s M lg K → WpE P nb ib es s M lg (fun s' M' => K s' M' ∧ Off (dsE es) s s')
  | [], s, M, lg, K, h => ⟨h, Off.refl⟩
  | e :: es, s, M, lg, K, h => by
    have hm : ∀ x, e.d = some x → x ∈ dsE (e :: es) := by
      intro x hx; simp only [dsE]; rw [hx]; exact List.mem_cons_self
    have hs : ∀ t, t ∈ dsE es → t ∈ dsE (e :: es) := by
      intro t ht; simp only [dsE]; split
      · exact List.mem_cons_of_mem _ ht
      · exact ht
    have go : ∀ (a : AV) (M : Mem) (lg : Lg), WpE P nb ib es (updO s e.d a) M lg K → WpE P nb ib es (updO s e.d a) M lg (fun s' M' => K s' M' ∧ Off (dsE (e :: es)) s s') := fun a M lg h =>
      WpE_mono es _ _ _ (WpE_off es _ _ _ h) fun s' M' hh => ⟨hh.1, (off_updO hm).trans (hh.2.mono hs)⟩
    simp only [WpE] at h ⊢
    split at h
    · rename_i hp
      rw [if_pos hp]
      unfold exP at h ⊢
      split at h
      · cases h
      · exact go _ _ _ h
      · exact kstR_mono h fun a N T hh => ⟨hh.1, hh.2.1, go _ _ _ hh.2.2⟩
    · rename_i hp
      rw [if_neg hp]
      unfold exR at h ⊢
      split at h
      · cases h
      · exact go _ _ _ h
      · exact kstR_mono h fun a N T hh => ⟨hh.1, go _ _ _ hh.2⟩
theorem nrmS_off {t l sz : Nat} : Off [t] s (nrmS t l sz s M).1 := by
  unfold nrmS
  split
  · split
    · exact off_updO (d := some t) (by simp)
    · exact Off.refl
  · exact Off.refl
theorem fzS_off {t : Nat} {p : (Nat → AV) × Mem} (h : fzS t s M = some p) : Off [t] s p.1 := by
  unfold fzS at h
  split at h
  · cases h; exact off_updO (d := some t) (by simp)
  · cases h
/-- what code does not write stays -/
theorem Wp_off : ∀ (c : KC) (s : Nat → AV) (M : Mem) {K : Post}, Wp P c K s M → Wp P c (fun e s' M' => K e s' M' ∧ Off c.ws s s') s M
  | .skip, s, M, K, h => ⟨h, Off.refl⟩
  | .reg nb n es, s, M, K, h => WpE_mono es s M _ (WpE_off es s M _ h) fun s' M' hh => hh
  | .seq a b, s, M, K, h => Wp_mono a s M (K' := Post.seq (Wp P b (fun e s' M' => K e s' M' ∧ Off (KC.seq a b).ws s s')) (fun e s' M' => K e s' M' ∧ Off (KC.seq a b).ws s s')) (Wp_off a s M h) fun e s1 M1 he => by
    cases e with
    | n => exact Wp_mono b s1 M1 (Wp_off b s1 M1 he.1) fun e s2 M2 h2 => ⟨h2.1, (he.2.mono fun t ht => List.mem_append_left _ ht).trans (h2.2.mono fun t ht => List.mem_append_right _ ht)⟩
    | ex i => exact ⟨he.1, he.2.mono fun t ht => List.mem_append_left _ ht⟩
    | r => exact ⟨he.1, he.2.mono fun t ht => List.mem_append_left _ ht⟩
  | .cond x a b, s, M, K, h => by
    simp only [Wp] at h ⊢
    split at h
    · exact Wp_mono a s M (Wp_off a s M h) fun e s1 M1 h1 => ⟨h1.1, h1.2.mono fun t ht => List.mem_append_left _ ht⟩
    · exact Wp_mono b s M (Wp_off b s M h) fun e s1 M1 h1 => ⟨h1.1, h1.2.mono fun t ht => List.mem_append_right _ ht⟩
    · cases h
  | .block i a, s, M, K, h => Wp_mono a s M (K' := Post.blk i (fun e s' M' => K e s' M' ∧ Off (KC.block i a).ws s s')) (Wp_off a s M h) fun e s1 M1 he => by
    cases e with
    | n => exact he
    | r => exact he
    | ex j =>
      obtain ⟨he, ho⟩ := he
      simp only [Post.blk] at he ⊢
      split at he <;> rename_i q <;> simp only [q, if_true, if_false] <;> exact ⟨he, ho⟩
  | .loop a, s, M, K, h => by
    obtain ⟨I, ⟨k0, h0⟩, hs⟩ := h
    refine ⟨fun k s' M' => I k s' M' ∧ Off a.ws s s', ⟨k0, h0, Off.refl⟩, fun k s1 M1 hI => Wp_mono a s1 M1 (Wp_off a s1 M1 (hs k s1 M1 hI.1)) fun e s2 M2 he => ?_⟩
    obtain ⟨he, ho⟩ := he
    cases e with
    | n => obtain ⟨k', hlt, hI'⟩ := he; exact ⟨k', hlt, hI', hI.2.trans ho⟩
    | ex i => exact ⟨he, hI.2.trans ho⟩
    | r => exact ⟨he, hI.2.trans ho⟩
  | .exit i, s, M, K, h => ⟨h, Off.refl⟩
  | .ret, s, M, K, h => ⟨h, Off.refl⟩
  | .nrm t l sz a, s, M, K, h => by
    simp only [Wp] at h ⊢
    exact Wp_mono a _ _ (Wp_off a _ _ h) fun e s1 M1 h1 => ⟨h1.1, (nrmS_off.mono fun t ht => by simp at ht; subst ht; exact List.mem_cons_self).trans (h1.2.mono fun t ht => List.mem_cons_of_mem _ ht)⟩
  | .fz t a, s, M, K, h => by
    simp only [Wp] at h ⊢
    split at h
    · rename_i p hp
      exact Wp_mono a _ _ (Wp_off a _ _ h) fun e s1 M1 h1 => ⟨h1.1, ((fzS_off hp).mono fun t ht => by simp at ht; subst ht; exact List.mem_cons_self).trans (h1.2.mono fun t ht => List.mem_cons_of_mem _ ht)⟩
    · cases h

/-- a cut: what the piece leaves, in the user's words -/
theorem wp_cut {c : KC} {K : Post} (Q : Post) (h : Wp P c Q s M) (hk : ∀ e s' M', Q e s' M' → Off c.ws s s' → K e s' M') : Wp P c K s M :=
  Wp_mono c s M (Wp_off c s M h) fun e s' M' hh => hk e s' M' hh.1 hh.2
/-- the next round -/
def Rnd {α : Type} (I : α → (Nat → AV) → Mem → Prop) (μ : α → Nat) (a : α) (s : Nat → AV) (M : Mem) : Prop := ∃ a', μ a' < μ a ∧ I a' s M
@[congr] theorem Rnd_congr {α : Type} {I : α → (Nat → AV) → Mem → Prop} {μ : α → Nat} {a : α} {s : Nat → AV} {M : Mem} : Rnd I μ a s M = Rnd I μ a s M := rfl
/-- a loop: 'a' is what is known, 'μ' falls -/
theorem wp_loop' {c : KC} {K : Post} {α : Type} (I : α → (Nat → AV) → Mem → Prop) (μ : α → Nat) (a0 : α) (h0 : I a0 s M)
    (h : ∀ a s' M', I a s' M' → Off c.ws s s' → Wp P c (Post.seq (Rnd I μ a) K) s' M') : Wp P (.loop c) K s M := by
  refine ⟨fun k s' M' => ∃ a, μ a = k ∧ I a s' M' ∧ Off c.ws s s', ⟨μ a0, a0, rfl, h0, Off.refl⟩, ?_⟩
  rintro k s' M' ⟨a, rfl, hI, ho⟩
  refine Wp_mono c s' M' (Wp_off c s' M' (h a s' M' hI ho)) fun e s2 M2 he => ?_
  obtain ⟨he, ho2⟩ := he
  cases e with
  | n => obtain ⟨a', hlt, hI'⟩ := he; exact ⟨μ a', hlt, a', rfl, hI', ho.trans ho2⟩
  | ex i => exact he
  | r => exact he
end
end Go.Vm
/- Using the interpreter: how a run is reckoned. -/
namespace Go.Vm
open Go
set_option linter.unusedSimpArgs false
set_option linter.unusedVariables false

section
variable {P : Program} {s : Nat → AV} {M : Mem} {nb ib : Nat} {K : Post} {lg : Lg} {es : List Ent}

/-- what comes behind: not reckoned before its time (an instance is not looked into) -/
class CP where
  k : Post
class CE where
  k : (Nat → AV) → Mem → Prop
class CQ where
  p : Prop
class Cnt where
  k : AV → Mem → (Nat → Bool) → Prop
def R (P : Program) (c : KC) (s : Nat → AV) (M : Mem) [C : CP] : Prop := Wp P c C.k s M
def RE (P : Program) (nb ib : Nat) (es : List Ent) (s : Nat → AV) (M : Mem) (lg : Lg) [C : CE] : Prop := WpE P nb ib es s M lg C.k
theorem R_of {c : KC} (h : @R P c s M ⟨K⟩) : Wp P c K s M := h
@[go_sem ↓] theorem R_skip : @R P .skip s M ⟨K⟩ = K .n s M := (rfl)
@[go_sem ↓] theorem R_reg {n : Nat} : @R P (.reg nb n es) s M ⟨K⟩ = @RE P nb M.c es s M (fun _ _ => false) ⟨fun s' M' => K .n s' (M'.bump (64 * n))⟩ := (rfl)
@[go_sem ↓] theorem R_seq {a b : KC} : @R P (.seq a b) s M ⟨K⟩ = @R P a s M ⟨Post.seq (fun s M => @R P b s M ⟨K⟩) K⟩ := (rfl)
@[go_sem ↓] theorem R_block {i : Nat} {a : KC} : @R P (.block i a) s M ⟨K⟩ = @R P a s M ⟨Post.blk i K⟩ := (rfl)
@[go_sem ↓] theorem R_exit {i : Nat} : @R P (.exit i) s M ⟨K⟩ = K (.ex i) s M := (rfl)
@[go_sem ↓] theorem R_ret : @R P .ret s M ⟨K⟩ = K .r s M := (rfl)
/-- a slice that may be nil -/
def nmW (P : Program) (t l sz : Nat) (x : AV) (s : Nat → AV) (M : Mem) (a : KC) [C : CP] : Prop := match x with
  | .nil sz' => if sz' = sz then @R P a (upd s t (.sl l M.c 0 0 sz)) ((M.set l (some (.arr M.c true sz []))).bump 1) C else @R P a s M C
  | _ => @R P a s M C
@[go_sem ↓] theorem R_nrm {t l sz : Nat} {a : KC} : @R P (.nrm t l sz a) s M ⟨K⟩ = @nmW P t l sz (s t) s M a ⟨K⟩ := by
  simp only [R, Wp, nmW, nrmS]
  cases s t with
  | nil sz' => by_cases h : sz' = sz <;> simp [h]
  | _ => rfl
@[go_sem] theorem nmW_nil {t l sz : Nat} {a : KC} : @nmW P t l sz (.nil sz) s M a ⟨K⟩ = @R P a (upd s t (.sl l M.c 0 0 sz)) ((M.set l (some (.arr M.c true sz []))).bump 1) ⟨K⟩ := by simp only [nmW, if_true]
@[go_sem] theorem nmW_sl {t l sz l2 v o n sz2 : Nat} {a : KC} : @nmW P t l sz (.sl l2 v o n sz2) s M a ⟨K⟩ = @R P a s M ⟨K⟩ := (rfl)
@[go_sem] theorem nmW_dat {t l sz : Nat} {e : Option Nat} {d : D} {a : KC} : @nmW P t l sz (.dat e d) s M a ⟨K⟩ = @R P a s M ⟨K⟩ := (rfl)
@[congr] theorem nmW_congr {t l sz : Nat} {x x' : AV} {a : KC} {C : CP} (h : x = x') : @nmW P t l sz x s M a C = @nmW P t l sz x' s M a C := by rw [h]
/-- a slot's rows are written no more -/
def fzW (P : Program) (t : Nat) (o : Option (D × Mem)) (s : Nat → AV) (a : KC) [C : CP] : Prop := match o with
  | some (d, M') => @R P a (upd s t (bindRo (slD d))) M' C
  | none => False
@[go_sem ↓] theorem R_fz {t : Nat} {a : KC} : @R P (.fz t a) s M ⟨K⟩ = @fzW P t (tak 8 (s t) M) s a ⟨K⟩ := by
  simp only [R, Wp, fzS, fzW]
  cases tak 8 (s t) M <;> rfl
@[go_sem] theorem fzW_some {t : Nat} {d : D} {M' : Mem} {a : KC} : @fzW P t (some (d, M')) s a ⟨K⟩ = @R P a (upd s t (bindRo (slD d))) M' ⟨K⟩ := (rfl)
@[congr] theorem fzW_congr {t : Nat} {o o' : Option (D × Mem)} {a : KC} {C : CP} (h : o = o') : @fzW P t o s a C = @fzW P t o' s a C := by rw [h]
/-- a branch -/
def cdW (o : Option Bool) [A : CQ] [B : CQ] : Prop := match o with
  | some true => A.p
  | some false => B.p
  | none => False
@[go_sem ↓] theorem R_cond {x : X} {a b : KC} : @R P (.cond x a b) s M ⟨K⟩ = @cdW (asB (x.ev s)) ⟨@R P a s M ⟨K⟩⟩ ⟨@R P b s M ⟨K⟩⟩ := by
  simp only [R, Wp, cdW]
  cases asB (x.ev s) with
  | none => rfl
  | some t => cases t <;> rfl
@[go_sem] theorem cdW_true {A B : Prop} : @cdW (some true) ⟨A⟩ ⟨B⟩ = A := (rfl)
@[go_sem] theorem cdW_false {A B : Prop} : @cdW (some false) ⟨A⟩ ⟨B⟩ = B := (rfl)
@[congr] theorem cdW_congr {o o' : Option Bool} {A B : CQ} (h : o = o') : @cdW o A B = @cdW o' A B := by rw [h]
theorem cdW_any {A B : Prop} {t : Bool} (h1 : t = true → A) (h2 : t = false → B) : @cdW (some t) ⟨A⟩ ⟨B⟩ := by
  cases t
  · exact h2 rfl
  · exact h1 rfl
theorem cdW_dec {A B p : Prop} {i : Decidable p} (h1 : p → A) (h2 : ¬ p → B) : @cdW (some (@decide p i)) ⟨A⟩ ⟨B⟩ := by
  by_cases h : p
  · rw [decide_eq_true h]; exact h1 h
  · rw [decide_eq_false h]; exact h2 h
@[go_sem ↓] theorem seq_n {b : (Nat → AV) → Mem → Prop} : Post.seq b K .n s M = b s M := (rfl)
@[go_sem ↓] theorem seq_ex {b : (Nat → AV) → Mem → Prop} {i : Nat} : Post.seq b K (.ex i) s M = K (.ex i) s M := (rfl)
@[go_sem ↓] theorem seq_r {b : (Nat → AV) → Mem → Prop} : Post.seq b K .r s M = K .r s M := (rfl)
@[go_sem ↓] theorem blk_n {i : Nat} : Post.blk i K .n s M = K .n s M := (rfl)
@[go_sem ↓] theorem blk_r {i : Nat} : Post.blk i K .r s M = K .r s M := (rfl)
def bkW (b : Bool) [A : CQ] [B : CQ] : Prop := if b then A.p else B.p
@[go_sem ↓] theorem blk_ex {i j : Nat} : Post.blk i K (.ex j) s M = @bkW (decide (j = i)) ⟨K .n s M⟩ ⟨K (.ex j) s M⟩ := by
  simp only [Post.blk, bkW]
  by_cases h : j = i <;> simp [h]
@[go_sem] theorem bkW_true {A B : Prop} : @bkW true ⟨A⟩ ⟨B⟩ = A := (rfl)
@[go_sem] theorem bkW_false {A B : Prop} : @bkW false ⟨A⟩ ⟨B⟩ = B := by simp [bkW]
@[congr] theorem bkW_congr {o o' : Bool} {A B : CQ} (h : o = o') : @bkW o A B = @bkW o' A B := by rw [h]

@[go_sem ↓] theorem RE_nil {K : (Nat → AV) → Mem → Prop} : @RE P nb ib [] s M lg ⟨K⟩ = K s M := (rfl)
/-- a guard: what it says, if anything -/
def gB : AV → Option (Option Bool)
  | .dat none (.bool x) => some (some x)
  | .tup [] => some none
  | _ => none
def gdW (o : Option (Option Bool)) (b : Bool) [A : CQ] [B : CQ] : Prop := match o with
  | none => False
  | some none => B.p
  | some (some x) => if x = b then A.p else B.p
@[go_sem] theorem gB_b {x : Bool} : gB (.dat none (.bool x)) = some (some x) := (rfl)
@[go_sem] theorem gB_u : gB (.tup []) = some none := (rfl)
@[go_sem] theorem gdW_tt {A B : Prop} : @gdW (some (some true)) true ⟨A⟩ ⟨B⟩ = A := (rfl)
@[go_sem] theorem gdW_tf {A B : Prop} : @gdW (some (some true)) false ⟨A⟩ ⟨B⟩ = B := (rfl)
@[go_sem] theorem gdW_ft {A B : Prop} : @gdW (some (some false)) true ⟨A⟩ ⟨B⟩ = B := (rfl)
@[go_sem] theorem gdW_ff {A B : Prop} : @gdW (some (some false)) false ⟨A⟩ ⟨B⟩ = A := (rfl)
@[go_sem] theorem gdW_u {A B : Prop} {b : Bool} : @gdW (some none) b ⟨A⟩ ⟨B⟩ = B := (rfl)
@[congr] theorem gdW_congr {o o' : Option (Option Bool)} {b : Bool} {A B : CQ} (h : o = o') : @gdW o b A B = @gdW o' b A B := by rw [h]
theorem gdW_any {A B : Prop} {t b : Bool} (h1 : t = b → A) (h2 : t = !b → B) : @gdW (some (some t)) b ⟨A⟩ ⟨B⟩ := by
  cases t <;> cases b
  · exact h1 rfl
  · exact h2 rfl
  · exact h2 rfl
  · exact h1 rfl
theorem gdW_decT {A B p : Prop} {i : Decidable p} (h1 : p → A) (h2 : ¬ p → B) : @gdW (some (some (@decide p i))) true ⟨A⟩ ⟨B⟩ := by
  by_cases h : p
  · rw [decide_eq_true h]; exact h1 h
  · rw [decide_eq_false h]; exact h2 h
theorem gdW_decF {A B p : Prop} {i : Decidable p} (h1 : ¬ p → A) (h2 : p → B) : @gdW (some (some (@decide p i))) false ⟨A⟩ ⟨B⟩ := by
  by_cases h : p
  · rw [decide_eq_true h]; exact h2 h
  · rw [decide_eq_false h]; exact h1 h
/-- one operation of a region -/
def KS (P : Program) (s : Nat → AV) (M : Mem) (nb ib : Nat) (k : KO) [C : Cnt] : Prop := kstR P s M nb ib C.k k
theorem exP_gd {e : Ent} {K : AV → Mem → Lg → Prop} : exP P nb ib e s M lg K = match e.g with
    | none => kstR P s M (nb + 64 * e.j) (ib + 64 * e.j) (fun a N T =>
      (e.kd = 1 → ∀ l, inR nb e.j l = false → T l = false ∧ N.m l = M.m l) ∧ (e.kd = 2 → rdK e.k = false → (∀ l, T l = false) ∧ N = M) ∧ K a N (if e.w then upd lg e.j (wrt T M N) else lg)) e.k
    | some (t, b) => @gdW (gB (s t)) b ⟨kstR P s M (nb + 64 * e.j) (ib + 64 * e.j) (fun a N T =>
      (e.kd = 1 → ∀ l, inR nb e.j l = false → T l = false ∧ N.m l = M.m l) ∧ (e.kd = 2 → rdK e.k = false → (∀ l, T l = false) ∧ N = M) ∧ K a N (if e.w then upd lg e.j (wrt T M N) else lg)) e.k⟩ ⟨K (.tup []) M lg⟩ := by
  unfold exP
  cases hg : e.g with
  | none => rfl
  | some p =>
    obtain ⟨t, b⟩ := p
    simp only [gdS, gB]
    split
    · rename_i hx
      split at hx <;> first | (cases hx; done) | (rename_i h1; simp [h1, gdW])
    · rename_i hx
      split at hx
      · rename_i x h1
        simp only [h1, gdW]
        rw [if_neg (by simpa using hx)]
      · rename_i h1; simp [h1, gdW]
      · cases hx
    · rename_i hx
      split at hx
      · rename_i x h1
        simp only [h1, gdW]
        rw [if_pos (by simpa using hx)]
      · cases hx
      · cases hx
theorem RE_pl {e : Ent} {K : (Nat → AV) → Mem → Prop} (h : plE e = true) : @RE P nb ib (e :: es) s M lg ⟨K⟩ = exP P nb ib e s M lg fun a M' lg' => @RE P nb ib es (updO s e.d a) M' lg' ⟨K⟩ := by
  show WpE P nb ib (e :: es) s M lg K = _
  simp only [WpE, h, if_true]
  rfl
theorem kstR_eq {k : KO} {K K' : AV → Mem → (Nat → Bool) → Prop} (h : ∀ a N T, K a N T ↔ K' a N T) : kstR P s M nb ib K k = kstR P s M nb ib K' k := by
  have : K = K' := by funext a N T; exact propext (h a N T)
  rw [this]
theorem RE_step {e : Ent} {K : (Nat → AV) → Mem → Prop} {K' : AV → Mem → (Nat → Bool) → Prop} (h : plE e = true) (hk : ∀ a N T, ((e.kd = 1 → ∀ l, inR nb e.j l = false → T l = false ∧ N.m l = M.m l) ∧ (e.kd = 2 → rdK e.k = false → (∀ l, T l = false) ∧ N = M) ∧
      @RE P nb ib es (updO s e.d a) N (if e.w then upd lg e.j (wrt T M N) else lg) ⟨K⟩) ↔ K' a N T) :
    @RE P nb ib (e :: es) s M lg ⟨K⟩ = match e.g with
      | none => @KS P s M (nb + 64 * e.j) (ib + 64 * e.j) e.k ⟨K'⟩
      | some (t, b) => @gdW (gB (s t)) b ⟨@KS P s M (nb + 64 * e.j) (ib + 64 * e.j) e.k ⟨K'⟩⟩ ⟨@RE P nb ib es (updO s e.d (.tup [])) M lg ⟨K⟩⟩ := by
  rw [RE_pl h, exP_gd]
  have := kstR_eq (P := P) (s := s) (M := M) (nb := nb + 64 * e.j) (ib := ib + 64 * e.j) (k := e.k) hk
  cases e.g with
  | none => exact this
  | some p =>
    obtain ⟨t, b⟩ := p
    show @gdW (gB (s t)) b ⟨_⟩ ⟨_⟩ = _
    rw [this]
    rfl
@[go_sem ↓] theorem RE_E0n {j : Nat} {d : Nat} {k : KO} {K : (Nat → AV) → Mem → Prop} :
    @RE P nb ib (E0 j (some d) none k :: es) s M lg ⟨K⟩ = @KS P s M (nb + 64 * j) (ib + 64 * j) k ⟨fun a N _ => @RE P nb ib es (upd s d a) N lg ⟨K⟩⟩ :=
  RE_step (e := E0 j (some d) none k) rfl fun a N T => by simp [E0, updO]
@[go_sem ↓] theorem RE_E0n_ {j : Nat} {k : KO} {K : (Nat → AV) → Mem → Prop} :
    @RE P nb ib (E0 j none none k :: es) s M lg ⟨K⟩ = @KS P s M (nb + 64 * j) (ib + 64 * j) k ⟨fun a N _ => @RE P nb ib es (s) N lg ⟨K⟩⟩ :=
  RE_step (e := E0 j none none k) rfl fun a N T => by simp [E0, updO]
@[go_sem ↓] theorem RE_E0g {j t : Nat} {b : Bool} {d : Nat} {k : KO} {K : (Nat → AV) → Mem → Prop} :
    @RE P nb ib (E0 j (some d) (some (t, b)) k :: es) s M lg ⟨K⟩ = @gdW (gB (s t)) b ⟨@KS P s M (nb + 64 * j) (ib + 64 * j) k ⟨fun a N _ => @RE P nb ib es (upd s d a) N lg ⟨K⟩⟩⟩ ⟨@RE P nb ib es (upd s d (.tup [])) M lg ⟨K⟩⟩ :=
  RE_step (e := E0 j (some d) (some (t, b)) k) rfl fun a N T => by simp [E0, updO]
@[go_sem ↓] theorem RE_E0g_ {j t : Nat} {b : Bool} {k : KO} {K : (Nat → AV) → Mem → Prop} :
    @RE P nb ib (E0 j none (some (t, b)) k :: es) s M lg ⟨K⟩ = @gdW (gB (s t)) b ⟨@KS P s M (nb + 64 * j) (ib + 64 * j) k ⟨fun a N _ => @RE P nb ib es (s) N lg ⟨K⟩⟩⟩ ⟨@RE P nb ib es (s) M lg ⟨K⟩⟩ :=
  RE_step (e := E0 j none (some (t, b)) k) rfl fun a N T => by simp [E0, updO]
/-- a call that leaves memory as it is -/
def qtW (T : Nat → Bool) (N M : Mem) [A : CQ] : Prop := ((∀ l, T l = false) ∧ N = M) ∧ A.p
@[go_sem ↓] theorem qtW_same {n : Nat} {A : Prop} : @qtW (fun l => decide (n ≤ l) && decide (l < n + 0)) M M ⟨A⟩ = A := by
  unfold qtW
  refine propext ⟨fun h => h.2, fun h => ⟨⟨fun l => ?_, rfl⟩, h⟩⟩
  simp only [Nat.add_zero, Bool.and_eq_false_iff, decide_eq_false_iff_not]
  omega
@[go_sem ↓] theorem RE_E2n {j : Nat} {d : Nat} {f : FuncId} {c : Bool} {as : List (Md × X)} {K : (Nat → AV) → Mem → Prop} :
    @RE P nb ib (E2 j (some d) none (.call f c as) :: es) s M lg ⟨K⟩ = @KS P s M (nb + 64 * j) (ib + 64 * j) (.call f c as) ⟨fun a N T => @qtW T N M ⟨@RE P nb ib es (upd s d a) N lg ⟨K⟩⟩⟩ :=
  RE_step (e := E2 j (some d) none (.call f c as)) rfl fun a N T => by simp [E2, rdK, qtW, updO]
@[go_sem ↓] theorem RE_E2n_ {j : Nat} {f : FuncId} {c : Bool} {as : List (Md × X)} {K : (Nat → AV) → Mem → Prop} :
    @RE P nb ib (E2 j none none (.call f c as) :: es) s M lg ⟨K⟩ = @KS P s M (nb + 64 * j) (ib + 64 * j) (.call f c as) ⟨fun a N T => @qtW T N M ⟨@RE P nb ib es (s) N lg ⟨K⟩⟩⟩ :=
  RE_step (e := E2 j none none (.call f c as)) rfl fun a N T => by simp [E2, rdK, qtW, updO]
@[go_sem ↓] theorem RE_E2g {j t : Nat} {b : Bool} {d : Nat} {f : FuncId} {c : Bool} {as : List (Md × X)} {K : (Nat → AV) → Mem → Prop} :
    @RE P nb ib (E2 j (some d) (some (t, b)) (.call f c as) :: es) s M lg ⟨K⟩ = @gdW (gB (s t)) b ⟨@KS P s M (nb + 64 * j) (ib + 64 * j) (.call f c as) ⟨fun a N T => @qtW T N M ⟨@RE P nb ib es (upd s d a) N lg ⟨K⟩⟩⟩⟩ ⟨@RE P nb ib es (upd s d (.tup [])) M lg ⟨K⟩⟩ :=
  RE_step (e := E2 j (some d) (some (t, b)) (.call f c as)) rfl fun a N T => by simp [E2, rdK, qtW, updO]
@[go_sem ↓] theorem RE_E2g_ {j t : Nat} {b : Bool} {f : FuncId} {c : Bool} {as : List (Md × X)} {K : (Nat → AV) → Mem → Prop} :
    @RE P nb ib (E2 j none (some (t, b)) (.call f c as) :: es) s M lg ⟨K⟩ = @gdW (gB (s t)) b ⟨@KS P s M (nb + 64 * j) (ib + 64 * j) (.call f c as) ⟨fun a N T => @qtW T N M ⟨@RE P nb ib es (s) N lg ⟨K⟩⟩⟩⟩ ⟨@RE P nb ib es (s) M lg ⟨K⟩⟩ :=
  RE_step (e := E2 j none (some (t, b)) (.call f c as)) rfl fun a N T => by simp [E2, rdK, qtW, updO]
@[go_sem ↓] theorem RE_E2cn {j : Nat} {d : Nat} {x : X} {c : Bool} {as : List X} {K : (Nat → AV) → Mem → Prop} :
    @RE P nb ib (E2 j (some d) none (.ccl x c as) :: es) s M lg ⟨K⟩ = @KS P s M (nb + 64 * j) (ib + 64 * j) (.ccl x c as) ⟨fun a N T => @qtW T N M ⟨@RE P nb ib es (upd s d a) N lg ⟨K⟩⟩⟩ :=
  RE_step (e := E2 j (some d) none (.ccl x c as)) rfl fun a N T => by simp [E2, rdK, qtW, updO]
@[go_sem ↓] theorem RE_E2cn_ {j : Nat} {x : X} {c : Bool} {as : List X} {K : (Nat → AV) → Mem → Prop} :
    @RE P nb ib (E2 j none none (.ccl x c as) :: es) s M lg ⟨K⟩ = @KS P s M (nb + 64 * j) (ib + 64 * j) (.ccl x c as) ⟨fun a N T => @qtW T N M ⟨@RE P nb ib es (s) N lg ⟨K⟩⟩⟩ :=
  RE_step (e := E2 j none none (.ccl x c as)) rfl fun a N T => by simp [E2, rdK, qtW, updO]
@[go_sem ↓] theorem RE_E2cg {j t : Nat} {b : Bool} {d : Nat} {x : X} {c : Bool} {as : List X} {K : (Nat → AV) → Mem → Prop} :
    @RE P nb ib (E2 j (some d) (some (t, b)) (.ccl x c as) :: es) s M lg ⟨K⟩ = @gdW (gB (s t)) b ⟨@KS P s M (nb + 64 * j) (ib + 64 * j) (.ccl x c as) ⟨fun a N T => @qtW T N M ⟨@RE P nb ib es (upd s d a) N lg ⟨K⟩⟩⟩⟩ ⟨@RE P nb ib es (upd s d (.tup [])) M lg ⟨K⟩⟩ :=
  RE_step (e := E2 j (some d) (some (t, b)) (.ccl x c as)) rfl fun a N T => by simp [E2, rdK, qtW, updO]
@[go_sem ↓] theorem RE_E2cg_ {j t : Nat} {b : Bool} {x : X} {c : Bool} {as : List X} {K : (Nat → AV) → Mem → Prop} :
    @RE P nb ib (E2 j none (some (t, b)) (.ccl x c as) :: es) s M lg ⟨K⟩ = @gdW (gB (s t)) b ⟨@KS P s M (nb + 64 * j) (ib + 64 * j) (.ccl x c as) ⟨fun a N T => @qtW T N M ⟨@RE P nb ib es (s) N lg ⟨K⟩⟩⟩⟩ ⟨@RE P nb ib es (s) M lg ⟨K⟩⟩ :=
  RE_step (e := E2 j none (some (t, b)) (.ccl x c as)) rfl fun a N T => by simp [E2, rdK, qtW, updO]
/-- one that reads -/
def rdW (x : I) [A : CQ] : Prop := rdI x = true ∧ A.p
theorem RE_ER {j : Nat} {d : Option Nat} {g : Option (Nat × Bool)} {x : I} {K : (Nat → AV) → Mem → Prop} (hx : rdI x = true) : ∀ a N T, (((ER j d g x).kd = 1 → ∀ l, inR nb (ER j d g x).j l = false → T l = false ∧ N.m l = M.m l) ∧
      ((ER j d g x).kd = 2 → rdK (ER j d g x).k = false → (∀ l, T l = false) ∧ N = M) ∧ @RE P nb ib es (updO s (ER j d g x).d a) N (if (ER j d g x).w then upd lg (ER j d g x).j (wrt T M N) else lg) ⟨K⟩) ↔ @RE P nb ib es (updO s d a) N lg ⟨K⟩ :=
  fun a N T => by simp [ER, rdK, hx]
@[go_sem ↓] theorem ERn_load {j : Nat} {d : Nat} {h ag : Bool} {n : Nat} {p : X} {K : (Nat → AV) → Mem → Prop} :
    @RE P nb ib (ER j (some d) none (.load h ag n p) :: es) s M lg ⟨K⟩ = @KS P s M (nb + 64 * j) (ib + 64 * j) (.i (.load h ag n p)) ⟨fun a N _ => @RE P nb ib es (upd s d a) N lg ⟨K⟩⟩ := RE_step (e := ER j (some d) none (.load h ag n p)) rfl (RE_ER rfl)
@[go_sem ↓] theorem ERg_load {j t : Nat} {b : Bool} {d : Nat} {h ag : Bool} {n : Nat} {p : X} {K : (Nat → AV) → Mem → Prop} :
    @RE P nb ib (ER j (some d) (some (t, b)) (.load h ag n p) :: es) s M lg ⟨K⟩ = @gdW (gB (s t)) b ⟨@KS P s M (nb + 64 * j) (ib + 64 * j) (.i (.load h ag n p)) ⟨fun a N _ => @RE P nb ib es (upd s d a) N lg ⟨K⟩⟩⟩ ⟨@RE P nb ib es (upd s d (.tup [])) M lg ⟨K⟩⟩ := RE_step (e := ER j (some d) (some (t, b)) (.load h ag n p)) rfl (RE_ER rfl)
@[go_sem ↓] theorem ERn_slc {j : Nat} {d : Nat} {n : Nat} {p : X} {lo hi : Option X} {K : (Nat → AV) → Mem → Prop} :
    @RE P nb ib (ER j (some d) none (.slc n p lo hi) :: es) s M lg ⟨K⟩ = @KS P s M (nb + 64 * j) (ib + 64 * j) (.i (.slc n p lo hi)) ⟨fun a N _ => @RE P nb ib es (upd s d a) N lg ⟨K⟩⟩ := RE_step (e := ER j (some d) none (.slc n p lo hi)) rfl (RE_ER rfl)
@[go_sem ↓] theorem ERg_slc {j t : Nat} {b : Bool} {d : Nat} {n : Nat} {p : X} {lo hi : Option X} {K : (Nat → AV) → Mem → Prop} :
    @RE P nb ib (ER j (some d) (some (t, b)) (.slc n p lo hi) :: es) s M lg ⟨K⟩ = @gdW (gB (s t)) b ⟨@KS P s M (nb + 64 * j) (ib + 64 * j) (.i (.slc n p lo hi)) ⟨fun a N _ => @RE P nb ib es (upd s d a) N lg ⟨K⟩⟩⟩ ⟨@RE P nb ib es (upd s d (.tup [])) M lg ⟨K⟩⟩ := RE_step (e := ER j (some d) (some (t, b)) (.slc n p lo hi)) rfl (RE_ER rfl)
@[go_sem ↓] theorem ERn_fad {j : Nat} {d : Nat} {n : Nat} {p : X} {K : (Nat → AV) → Mem → Prop} :
    @RE P nb ib (ER j (some d) none (.fad n p) :: es) s M lg ⟨K⟩ = @KS P s M (nb + 64 * j) (ib + 64 * j) (.i (.fad n p)) ⟨fun a N _ => @RE P nb ib es (upd s d a) N lg ⟨K⟩⟩ := RE_step (e := ER j (some d) none (.fad n p)) rfl (RE_ER rfl)
@[go_sem ↓] theorem ERg_fad {j t : Nat} {b : Bool} {d : Nat} {n : Nat} {p : X} {K : (Nat → AV) → Mem → Prop} :
    @RE P nb ib (ER j (some d) (some (t, b)) (.fad n p) :: es) s M lg ⟨K⟩ = @gdW (gB (s t)) b ⟨@KS P s M (nb + 64 * j) (ib + 64 * j) (.i (.fad n p)) ⟨fun a N _ => @RE P nb ib es (upd s d a) N lg ⟨K⟩⟩⟩ ⟨@RE P nb ib es (upd s d (.tup [])) M lg ⟨K⟩⟩ := RE_step (e := ER j (some d) (some (t, b)) (.fad n p)) rfl (RE_ER rfl)
@[go_sem ↓] theorem ERn_iad {j : Nat} {d : Nat} {n : Nat} {p q : X} {K : (Nat → AV) → Mem → Prop} :
    @RE P nb ib (ER j (some d) none (.iad n p q) :: es) s M lg ⟨K⟩ = @KS P s M (nb + 64 * j) (ib + 64 * j) (.i (.iad n p q)) ⟨fun a N _ => @RE P nb ib es (upd s d a) N lg ⟨K⟩⟩ := RE_step (e := ER j (some d) none (.iad n p q)) rfl (RE_ER rfl)
@[go_sem ↓] theorem ERg_iad {j t : Nat} {b : Bool} {d : Nat} {n : Nat} {p q : X} {K : (Nat → AV) → Mem → Prop} :
    @RE P nb ib (ER j (some d) (some (t, b)) (.iad n p q) :: es) s M lg ⟨K⟩ = @gdW (gB (s t)) b ⟨@KS P s M (nb + 64 * j) (ib + 64 * j) (.i (.iad n p q)) ⟨fun a N _ => @RE P nb ib es (upd s d a) N lg ⟨K⟩⟩⟩ ⟨@RE P nb ib es (upd s d (.tup [])) M lg ⟨K⟩⟩ := RE_step (e := ER j (some d) (some (t, b)) (.iad n p q)) rfl (RE_ER rfl)
@[go_sem ↓] theorem ERn_ext {j : Nat} {d : Nat} {n : Nat} {p : X} {K : (Nat → AV) → Mem → Prop} :
    @RE P nb ib (ER j (some d) none (.ext n p) :: es) s M lg ⟨K⟩ = @KS P s M (nb + 64 * j) (ib + 64 * j) (.i (.ext n p)) ⟨fun a N _ => @RE P nb ib es (upd s d a) N lg ⟨K⟩⟩ := RE_step (e := ER j (some d) none (.ext n p)) rfl (RE_ER rfl)
@[go_sem ↓] theorem ERg_ext {j t : Nat} {b : Bool} {d : Nat} {n : Nat} {p : X} {K : (Nat → AV) → Mem → Prop} :
    @RE P nb ib (ER j (some d) (some (t, b)) (.ext n p) :: es) s M lg ⟨K⟩ = @gdW (gB (s t)) b ⟨@KS P s M (nb + 64 * j) (ib + 64 * j) (.i (.ext n p)) ⟨fun a N _ => @RE P nb ib es (upd s d a) N lg ⟨K⟩⟩⟩ ⟨@RE P nb ib es (upd s d (.tup [])) M lg ⟨K⟩⟩ := RE_step (e := ER j (some d) (some (t, b)) (.ext n p)) rfl (RE_ER rfl)
@[go_sem ↓] theorem ERn_len {j : Nat} {d : Nat} {p : X} {K : (Nat → AV) → Mem → Prop} :
    @RE P nb ib (ER j (some d) none (.len p) :: es) s M lg ⟨K⟩ = @KS P s M (nb + 64 * j) (ib + 64 * j) (.i (.len p)) ⟨fun a N _ => @RE P nb ib es (upd s d a) N lg ⟨K⟩⟩ := RE_step (e := ER j (some d) none (.len p)) rfl (RE_ER rfl)
@[go_sem ↓] theorem ERg_len {j t : Nat} {b : Bool} {d : Nat} {p : X} {K : (Nat → AV) → Mem → Prop} :
    @RE P nb ib (ER j (some d) (some (t, b)) (.len p) :: es) s M lg ⟨K⟩ = @gdW (gB (s t)) b ⟨@KS P s M (nb + 64 * j) (ib + 64 * j) (.i (.len p)) ⟨fun a N _ => @RE P nb ib es (upd s d a) N lg ⟨K⟩⟩⟩ ⟨@RE P nb ib es (upd s d (.tup [])) M lg ⟨K⟩⟩ := RE_step (e := ER j (some d) (some (t, b)) (.len p)) rfl (RE_ER rfl)
@[go_sem ↓] theorem ERn_bld {j : Nat} {d : Nat} {ps : List X} {K : (Nat → AV) → Mem → Prop} :
    @RE P nb ib (ER j (some d) none (.bld ps) :: es) s M lg ⟨K⟩ = @KS P s M (nb + 64 * j) (ib + 64 * j) (.i (.bld ps)) ⟨fun a N _ => @RE P nb ib es (upd s d a) N lg ⟨K⟩⟩ := RE_step (e := ER j (some d) none (.bld ps)) rfl (RE_ER rfl)
@[go_sem ↓] theorem ERg_bld {j t : Nat} {b : Bool} {d : Nat} {ps : List X} {K : (Nat → AV) → Mem → Prop} :
    @RE P nb ib (ER j (some d) (some (t, b)) (.bld ps) :: es) s M lg ⟨K⟩ = @gdW (gB (s t)) b ⟨@KS P s M (nb + 64 * j) (ib + 64 * j) (.i (.bld ps)) ⟨fun a N _ => @RE P nb ib es (upd s d a) N lg ⟨K⟩⟩⟩ ⟨@RE P nb ib es (upd s d (.tup [])) M lg ⟨K⟩⟩ := RE_step (e := ER j (some d) (some (t, b)) (.bld ps)) rfl (RE_ER rfl)
@[go_sem] theorem updO_some {d : Nat} {a : AV} : updO s (some d) a = upd s d a := (rfl)
@[go_sem] theorem updO_none {a : AV} : updO s none a = s := (rfl)
@[go_sem] theorem upd_app {α : Type} {f : Nat → α} {i j : Nat} {x : α} : upd f i x j = if j = i then x else f j := (rfl)
@[go_sem] theorem ev_t {n : Nat} : X.ev s (.t n) = s n := (rfl)
@[go_sem] theorem ev_k {a : AV} : X.ev s (.k a) = a := (rfl)
@[go_sem] theorem asB_b {b : Bool} : asB (.dat none (.bool b)) = some b := (rfl)
@[go_sem] theorem asI_i {k : IntKind} {n : Int} : asI (.dat none (.int k n)) = some n := (rfl)
@[go_sem] theorem asI_I {n : Int} : asI (I64 n) = some n := (rfl)
@[go_sem] theorem I64_def {n : Int} : I64 n = .dat none (.int .i64 n) := (rfl)

/-- one instruction -/
def iW (o : Option (AV × Mem)) (T : Nat → Bool) [C : Cnt] : Prop := match o with
  | some p => C.k p.1 p.2 T
  | none => False
@[go_sem ↓] theorem KS_i {x : I} {K : AV → Mem → (Nat → Bool) → Prop} : @KS P s M nb ib (.i x) ⟨K⟩ = @iW (stp s M nb ib x) (tgt s nb x) ⟨K⟩ := (rfl)
@[go_sem] theorem iW_some {a : AV} {N : Mem} {T : Nat → Bool} {K : AV → Mem → (Nat → Bool) → Prop} : @iW (some (a, N)) T ⟨K⟩ = K a N T := (rfl)
@[congr] theorem iW_congr {o o' : Option (AV × Mem)} {T : Nat → Bool} {C : Cnt} (h : o = o') : @iW o T C = @iW o' T C := by rw [h]
/-- a call -/
def CR (P : Program) (f : FuncId) (s : Nat → AV) (M : Mem) (nb ib : Nat) (cold : Bool) (args : List (Md × X)) [C : Cnt] : Prop := callR P f s M nb ib cold args C.k
@[go_sem ↓] theorem KS_call {f : FuncId} {cold : Bool} {args : List (Md × X)} {K : AV → Mem → (Nat → Bool) → Prop} : @KS P s M nb ib (.call f cold args) ⟨K⟩ = @CR P f s M nb ib cold args ⟨K⟩ := (rfl)
/-- a function value is called -/
def cW (P : Program) (x : AV) (s : Nat → AV) (M : Mem) (nb ib : Nat) (cold : Bool) (args : List X) [C : Cnt] : Prop := match x with
  | .clo f caps => @CR P f s M nb ib cold (roA (args ++ caps.map X.k)) C
  | .dat none (.clo f caps) => @CR P f s M nb ib cold (roA (args ++ caps.map fun c => X.k (.dat none c))) C
  | _ => False
@[go_sem ↓] theorem KS_ccl {x : X} {cold : Bool} {args : List X} {K : AV → Mem → (Nat → Bool) → Prop} : @KS P s M nb ib (.ccl x cold args) ⟨K⟩ = @cW P (x.ev s) s M nb ib cold args ⟨K⟩ := (rfl)
theorem cW_clo {f : FuncId} {caps : List AV} {cold : Bool} {args : List X} {K : AV → Mem → (Nat → Bool) → Prop} : @cW P (.clo f caps) s M nb ib cold args ⟨K⟩ = @CR P f s M nb ib cold (roA (args ++ caps.map X.k)) ⟨K⟩ := (rfl)
@[congr] theorem cW_congr {x x' : AV} {cold : Bool} {args : List X} {C : Cnt} (h : x = x') : @cW P x s M nb ib cold args C = @cW P x' s M nb ib cold args C := by rw [h]

/-- a call that is handed nothing to write -/
def roW (P : Program) (f : FuncId) (ms : List Md) (o : Option (List D)) (cold cOk : Bool) (nb ib : Nat) (M : Mem) [C : Cnt] : Prop := match o with
  | none => False
  | some all => ∃ r outs, FCt P f ms all r outs ∧ (if cold then cOk else noRs r && noRsL outs) = true ∧ ((bindD nb ib r 0 M).2.1 ≤ 64 ∧ isBad (bindD nb ib r 0 M).1 = false) ∧
      C.k (bindD nb ib r 0 M).1 (bindD nb ib r 0 M).2.2 (fun l => decide (nb ≤ l) && decide (l < nb + (bindD nb ib r 0 M).2.1))
def frzR (s : Nat → AV) (M : Mem) : List X → Option (List D)
  | [] => some []
  | x :: xs => match frz M 8 (x.ev s), frzR s M xs with
    | some d, some ds => some (d :: ds)
    | _, _ => none
theorem takA_roA : ∀ (xs : List X), takA s (roA xs) M = some ([], M)
  | [] => rfl
  | x :: xs => by have := takA_roA xs; simp only [roA] at this ⊢; simpa [takA, Md.own] using this
theorem frzA_roA : ∀ (xs : List X), frzA s M (roA xs) [] = frzR s M xs
  | [] => rfl
  | x :: xs => by
    have := frzA_roA xs
    simp only [roA] at this ⊢
    simp only [List.map_cons, frzA, Md.own, Bool.false_eq_true, if_false, this, frzR]
    cases frz M 8 (x.ev s) <;> cases frzR s M xs <;> rfl
theorem putA_roA : ∀ (xs : List X) (outs : List D) (k : Nat), putA s nb ib (roA xs) outs k M = some (k, M)
  | [], _, _ => by simp [roA, putA]
  | x :: xs, outs, k => by have := putA_roA xs outs k; simp only [roA] at this ⊢; simpa [putA] using this
theorem ioNames_roA : ∀ (xs : List X), ioNames s (roA xs) = []
  | [] => rfl
  | x :: xs => by have := ioNames_roA xs; simp only [roA] at this ⊢; simpa [ioNames] using this
/-- a call, all of its arguments read alone -/
@[go_sem ↓] theorem CR_ro {f : FuncId} {cold : Bool} {xs : List X} {K : AV → Mem → (Nat → Bool) → Prop} :
    @CR P f s M nb ib cold (roA xs) ⟨K⟩ = @roW P f (xs.map fun _ => Md.ro) (frzR s M xs) cold (xs.all fun x => coldA (x.ev s)) nb ib M ⟨K⟩ := by
  have hany : (roA xs).any (·.1.own) = false := by simp [roA, Md.own]
  have hms : (roA xs).map (·.1) = xs.map fun _ => Md.ro := by simp [roA]
  have hcold : (roA xs).all (fun p => p.1.own || coldA (p.2.ev s)) = xs.all fun x => coldA (x.ev s) := by simp [roA, Md.own, List.all_map, Function.comp_def]
  show callR P f s M nb ib cold (roA xs) K = _
  unfold callR roW
  rw [takA_roA]
  simp only [hany, Bool.false_eq_true, if_false, frzA_roA, hms, hcold, putA_roA, ioNames_roA]
  cases frzR s M xs with
  | none => rfl
  | some all => simp
@[congr] theorem roW_congr {f : FuncId} {ms ms' : List Md} {o o' : Option (List D)} {cold cOk cOk' : Bool} {C : Cnt} (hm : ms = ms') (h : o = o') (hc : cOk = cOk') : @roW P f ms o cold cOk nb ib M C = @roW P f ms' o' cold cOk' nb ib M C := by rw [h, hm, hc]
/-- a contract at a call -/
def fcW (P : Program) (f : FuncId) (ms : List Md) (all : List D) (cold cOk : Bool) (nb ib : Nat) (M : Mem) [C : Cnt] : Prop :=
  ∃ r outs, FCt P f ms all r outs ∧ (if cold then cOk else noRs r && noRsL outs) = true ∧ ((bindD nb ib r 0 M).2.1 ≤ 64 ∧ isBad (bindD nb ib r 0 M).1 = false) ∧
      C.k (bindD nb ib r 0 M).1 (bindD nb ib r 0 M).2.2 (fun l => decide (nb ≤ l) && decide (l < nb + (bindD nb ib r 0 M).2.1))
@[go_sem] theorem roW_fc {f : FuncId} {ms : List Md} {all : List D} {cold cOk : Bool} {K : AV → Mem → (Nat → Bool) → Prop} : @roW P f ms (some all) cold cOk nb ib M ⟨K⟩ = @fcW P f ms all cold cOk nb ib M ⟨K⟩ := (rfl)
/-- the contract is 'h' -/
theorem fcW_of {f : FuncId} {ms : List Md} {all : List D} {cOk : Bool} {K : AV → Mem → (Nat → Bool) → Prop} {r : D} (h : FCt P f ms all r []) {a : AV} {k : Nat} {N : Mem} (hb : bindD nb ib r 0 M = (a, k, N)) (hr : noRs r = true) (hk : k ≤ 64) (ha : isBad a = false)
    (hK : K a N (fun l => decide (nb ≤ l) && decide (l < nb + k))) : @fcW P f ms all false cOk nb ib M ⟨K⟩ := by
  refine ⟨r, [], h, by simp [hr, noRsL], ?_, ?_⟩
  · rw [hb]; exact ⟨hk, ha⟩
  · rw [hb]; exact hK
/-- .. its result may hold frozen rows -/
theorem fcW_cold {f : FuncId} {ms : List Md} {all : List D} {K : AV → Mem → (Nat → Bool) → Prop} {r : D} (h : FCt P f ms all r []) {a : AV} {k : Nat} {N : Mem} (hb : bindD nb ib r 0 M = (a, k, N)) (hk : k ≤ 64) (ha : isBad a = false)
    (hK : K a N (fun l => decide (nb ≤ l) && decide (l < nb + k))) : @fcW P f ms all true true nb ib M ⟨K⟩ := by
  refine ⟨r, [], h, by simp, ?_, ?_⟩
  · rw [hb]; exact ⟨hk, ha⟩
  · rw [hb]; exact hK
/-- .. and it returns single values -/
theorem fcW_int {f : FuncId} {ms : List Md} {all : List D} {cOk : Bool} {K : AV → Mem → (Nat → Bool) → Prop} {k : IntKind} {n : Int} (h : FCt P f ms all (.int k n) []) (hK : K (.dat none (.int k n)) M (fun l => decide (nb ≤ l) && decide (l < nb + 0))) : @fcW P f ms all false cOk nb ib M ⟨K⟩ :=
  fcW_of h (by simp only [bindD]) rfl (by omega) rfl hK
theorem fcW_bool {f : FuncId} {ms : List Md} {all : List D} {cOk : Bool} {K : AV → Mem → (Nat → Bool) → Prop} {b : Bool} (h : FCt P f ms all (.bool b) []) (hK : K (.dat none (.bool b)) M (fun l => decide (nb ≤ l) && decide (l < nb + 0))) : @fcW P f ms all false cOk nb ib M ⟨K⟩ :=
  fcW_of h (by simp only [bindD]) rfl (by omega) rfl hK
theorem fcW_str {f : FuncId} {ms : List Md} {all : List D} {cOk : Bool} {K : AV → Mem → (Nat → Bool) → Prop} {b : ByteArray} (h : FCt P f ms all (.str b) []) (hK : K (.dat none (.str b)) M (fun l => decide (nb ≤ l) && decide (l < nb + 0))) : @fcW P f ms all false cOk nb ib M ⟨K⟩ :=
  fcW_of h (by simp only [bindD]) rfl (by omega) rfl hK

/-! ### reading -/
@[go_sem] theorem vD_none : vD M none = true := (rfl)
@[go_sem] theorem frz_dat {n : Nat} {d : D} : frz M (n + 1) (.dat none d) = some d := (rfl)
@[go_sem] theorem frz_dp {n : Nat} {d : D} : frz M (n + 1) (.dp none d) = some (.ptr d) := (rfl)
@[go_sem] theorem frz_nil {n sz : Nat} : frz M (n + 1) (.nil sz) = some (.sl sz []) := (rfl)
@[go_sem] theorem frz_agg {n : Nat} {xs : List AV} : frz M (n + 1) (.agg xs) = (optL (xs.map (frz M n))).map .agg := (rfl)
theorem frz_clo {n : Nat} {f : FuncId} {xs : List AV} : frz M (n + 1) (.clo f xs) = (optL (xs.map (frz M n))).map (.clo f) := (rfl)
/-- what a function value holds, as it comes in -/
def bindC : D → AV := fun c => match c with | .ptr d => .dp none d | c => .dat none c
@[go_sem] theorem bindC_ptr {d : D} : bindC (.ptr d) = .dp none d := (rfl)
@[go_sem] theorem bindC_int {k : IntKind} {n : Int} : bindC (.int k n) = .dat none (.int k n) := (rfl)
@[go_sem] theorem bindC_bool {b : Bool} : bindC (.bool b) = .dat none (.bool b) := (rfl)
@[go_sem] theorem bindC_sl {sz : Nat} {xs : List D} : bindC (.sl sz xs) = .dat none (.sl sz xs) := (rfl)
@[go_sem] theorem bindRo_ptr {d : D} : bindRo (.ptr d) = .dp none d := (rfl)
@[go_sem] theorem bindRo_clo {f : FuncId} {caps : List D} : bindRo (.clo f caps) = .clo f (caps.map bindC) := (rfl)
@[go_sem] theorem bindRo_int {k : IntKind} {n : Int} : bindRo (.int k n) = .dat none (.int k n) := (rfl)
@[go_sem] theorem bindRo_bool {b : Bool} : bindRo (.bool b) = .dat none (.bool b) := (rfl)
@[go_sem] theorem bindRo_str {b : ByteArray} : bindRo (.str b) = .dat none (.str b) := (rfl)
@[go_sem] theorem bindRo_sl {sz : Nat} {xs : List D} : bindRo (.sl sz xs) = .dat none (.sl sz xs) := (rfl)
@[go_sem] theorem bindRo_agg {xs : List D} : bindRo (.agg xs) = .dat none (.agg xs) := (rfl)
@[go_sem] theorem bindRo_tup {xs : List D} : bindRo (.tup xs) = .dat none (.tup xs) := (rfl)
@[go_sem] theorem frz_bindC {n : Nat} {d : D} : frz M (n + 1) (bindC d) = some d := by cases d <;> rfl
theorem optL_frzC {n : Nat} : ∀ {caps : List D}, optL ((caps.map bindC).map (frz M (n + 1))) = some caps
  | [] => rfl
  | c :: caps => by simp only [List.map_cons, frz_bindC, optL, optL_frzC (caps := caps)]
@[go_sem] theorem frz_cloC {n : Nat} {f : FuncId} {caps : List D} : frz M (n + 2) (.clo f (caps.map bindC)) = some (.clo f caps) := by
  rw [frz_clo, optL_frzC]; rfl
@[go_sem] theorem frz_clo0 {n : Nat} {f : FuncId} : frz M (n + 1) (.clo f []) = some (.clo f []) := (rfl)
@[go_sem] theorem frz_clo1 {n : Nat} {f : FuncId} {a : AV} : frz M (n + 1) (.clo f [a]) = (optL [frz M n a]).map (.clo f) := (rfl)
@[go_sem] theorem frz_clo2 {n : Nat} {f : FuncId} {a b : AV} : frz M (n + 1) (.clo f [a, b]) = (optL [frz M n a, frz M n b]).map (.clo f) := (rfl)
@[go_sem] theorem frz_clo3 {n : Nat} {f : FuncId} {a b c : AV} : frz M (n + 1) (.clo f [a, b, c]) = (optL [frz M n a, frz M n b, frz M n c]).map (.clo f) := (rfl)
@[go_sem] theorem frz_clo4 {n : Nat} {f : FuncId} {a b c d : AV} : frz M (n + 1) (.clo f [a, b, c, d]) = (optL [frz M n a, frz M n b, frz M n c, frz M n d]).map (.clo f) := (rfl)
@[go_sem] theorem frz_ptr {n l v i : Nat} {j : Option Nat} : frz M (n + 1) (.ptr l v i j) = match M.m l with
    | some (.arr v' _ _ xs) => if v' = v then ((xs[i]?).bind (fldD · j)).map .ptr else none
    | some (.box v' x) => if v' = v ∧ i = 0 then match fldA M x j with | some y => (frz M n y).map .ptr | none => none else none
    | none => none := (rfl)
@[go_sem] theorem frz_slr {n l v off len sz : Nat} : frz M (n + 1) (.sl l v off len sz) = match M.m l with
    | some (.arr v' _ sz' xs) => if v' = v ∧ sz' = sz ∧ off + len ≤ xs.length then some (.sl sz ((xs.drop off).take len)) else none
    | _ => none := (rfl)
@[go_sem] theorem frz_ref {n l v r i : Nat} {j : Option Nat} : frz M (n + 1) (.ref l v r i j) = if r = M.r ∧ r ≠ 0 then (placeD M l v i j).map (·.2) else none := (rfl)
@[go_sem] theorem frz_date {n e : Nat} {d : D} : frz M (n + 1) (.dat (some e) d) = if vD M (some e) then some d else none := (rfl)
@[go_sem] theorem frz_dpe {n e : Nat} {d : D} : frz M (n + 1) (.dp (some e) d) = if vD M (some e) then some (.ptr d) else none := (rfl)
@[go_sem] theorem vD_some {e : Nat} : vD M (some e) = (e == M.e) := (rfl)

/-! ### memory -/
@[go_sem] theorem set_m {l l' : Nat} {o : Option Obj} : (M.set l o).m l' = if l' = l then o else M.m l' := (rfl)
@[go_sem] theorem set_e {l : Nat} {o : Option Obj} : (M.set l o).e = M.e := (rfl)
@[go_sem] theorem set_r {l : Nat} {o : Option Obj} : (M.set l o).r = M.r := (rfl)
@[go_sem] theorem set_c {l : Nat} {o : Option Obj} : (M.set l o).c = M.c := (rfl)
@[go_sem] theorem bump_m {k l : Nat} : (M.bump k).m l = M.m l := (rfl)
@[go_sem] theorem bump_e {k : Nat} : (M.bump k).e = M.e := (rfl)
@[go_sem] theorem bump_r {k : Nat} : (M.bump k).r = M.r := (rfl)
@[go_sem] theorem bump_c {k : Nat} : (M.bump k).c = M.c + k := (rfl)
@[go_sem] theorem tickR_m {l : Nat} : M.tickR.m l = M.m l := (rfl)
@[go_sem] theorem tickR_e : M.tickR.e = M.e := (rfl)
@[go_sem] theorem tickR_r : M.tickR.r = M.r + 1 := (rfl)
@[go_sem] theorem tickR_c : M.tickR.c = M.c := (rfl)
@[go_sem] theorem M00_m {l : Nat} : M00.m l = none := (rfl)
@[go_sem] theorem M00_e : M00.e = 0 := (rfl)
@[go_sem] theorem M00_r : M00.r = 1 := (rfl)
@[go_sem] theorem M00_c : M00.c = 0 := (rfl)
end

section
variable {P : Program} {s : Nat → AV} {M : Mem}
@[go_sem] theorem slots_app {as : List AV} {t : Nat} : slots0 as t = (as[t]?).getD .bad := (rfl)
@[go_sem] theorem bindA_nil {nb ib k : Nat} {ds : List D} : bindA nb ib [] ds k M = ([], k, M) := by simp [bindA]
@[go_sem] theorem bindA_ro {nb ib k : Nat} {ms : List Md} {d : D} {ds : List D} : bindA nb ib (.ro :: ms) (d :: ds) k M = (bindRo d :: (bindA nb ib ms ds k M).1, (bindA nb ib ms ds k M).2) := by simp [bindA, Md.own]
@[go_sem] theorem bindA_io {nb ib k : Nat} {ms : List Md} {d : D} {ds : List D} : bindA nb ib (.io :: ms) (d :: ds) k M =
    ((bindD nb ib d k M).1 :: (bindA nb ib ms ds (bindD nb ib d k M).2.1 (bindD nb ib d k M).2.2).1, (bindA nb ib ms ds (bindD nb ib d k M).2.1 (bindD nb ib d k M).2.2).2) := by simp [bindA, Md.own]
@[go_sem] theorem bindA_co {nb ib k : Nat} {ms : List Md} {d : D} {ds : List D} : bindA nb ib (.co :: ms) (d :: ds) k M =
    ((bindD nb ib d k M).1 :: (bindA nb ib ms ds (bindD nb ib d k M).2.1 (bindD nb ib d k M).2.2).1, (bindA nb ib ms ds (bindD nb ib d k M).2.1 (bindD nb ib d k M).2.2).2) := by simp [bindA, Md.own]
/-- the end of a function -/
def endW (o : Option (List AV)) (ios : List AV) (M : Mem) (r : D) (outs : List D) : Prop := match o with
  | none => False
  | some xs => match takL (tak 8) (xs ++ ios) M with
    | none => False
    | some (all, _) => mkR (all.take xs.length) = r ∧ all.drop xs.length = outs
@[go_sem ↓] theorem finP_n {res : List RV} {ios : List AV} {r : D} {outs : List D} : finP res ios r outs .n s M = endW (optL (res.map (resV1 s M))) ios M r outs := by
  simp only [finP, endW, true_and]
  cases optL (res.map (resV1 s M)) <;> rfl
@[go_sem ↓] theorem finP_r {res : List RV} {ios : List AV} {r : D} {outs : List D} : finP res ios r outs .r s M = endW (optL (res.map (resV1 s M))) ios M r outs := by
  simp only [finP, endW, true_and]
  cases optL (res.map (resV1 s M)) <;> rfl
end
/-- a function's run -/
def RunF (P : Program) (code : KC) (res : List RV) (ms : List Md) (b : List AV × Nat × Mem) (r : D) (outs : List D) : Prop := Wp P code (finP res (ioA ms b.1) r outs) (slots0 b.1) (b.2.2.bump b.2.1)
section
variable {P : Program} {s : Nat → AV} {M : Mem}
@[go_sem] theorem RunF_run {code : KC} {res : List RV} {ms : List Md} {as : List AV} {k : Nat} {r : D} {outs : List D} : RunF P code res ms (as, k, M) r outs = @R P code (slots0 as) (M.bump k) ⟨finP res (ioA ms as) r outs⟩ := (rfl)
@[congr] theorem RunF_congr {code : KC} {res : List RV} {ms : List Md} {b b' : List AV × Nat × Mem} {r : D} {outs : List D} (h : b = b') : RunF P code res ms b r outs = RunF P code res ms b' r outs := by rw [h]
theorem fct_run {f : FuncId} {fi : FI} {ms : List Md} {ds : List D} {r : D} {outs : List D} {res : List RV} {code : KC} (hc : chkF P f ms.length fi = true) (hfi : fi = { res := res, code := code })
    (h : RunF P code res ms (bindA 0 0 ms ds 0 M00) r outs) : FCt P f ms ds r outs := by
  subst hfi
  exact fct_of hc h
end
@[go_sem] theorem mkR_one {d : D} : mkR [d] = d := (rfl)
@[go_sem] theorem mkR_two {a b : D} : mkR [a, b] = .tup [a, b] := (rfl)
@[go_sem] theorem mkR_three {a b c : D} : mkR [a, b, c] = .tup [a, b, c] := (rfl)
@[go_sem] theorem mkR_nil : mkR [] = .tup [] := (rfl)
attribute [go_sem] endW resV1 ioA
section
variable {P : Program} {s : Nat → AV} {M : Mem}
/-- a loop: 'a' is what is known, 'μ' falls -/
theorem R_loop {c : KC} {K : Post} {α : Type} (I : α → (Nat → AV) → Mem → Prop) (μ : α → Nat) (a0 : α) (h0 : I a0 s M)
    (h : ∀ a s' M', I a s' M' → Off c.ws s s' → @R P c s' M' ⟨Post.seq (Rnd I μ a) K⟩) : @R P (.loop c) s M ⟨K⟩ := wp_loop' I μ a0 h0 h
/-- a cut: what the piece leaves, in the user's words -/
theorem R_cut {c : KC} {K : Post} (Q : Post) (h : @R P c s M ⟨Q⟩) (hk : ∀ e s' M', Q e s' M' → Off c.ws s s' → K e s' M') : @R P c s M ⟨K⟩ := wp_cut Q h hk
/-- .. of a region -/
theorem RE_cut {nb ib : Nat} {es : List Ent} {lg : Lg} {K : (Nat → AV) → Mem → Prop} (Q : (Nat → AV) → Mem → Prop) (h : @RE P nb ib es s M lg ⟨Q⟩) (hk : ∀ s' M', Q s' M' → Off (dsE es) s s' → K s' M') : @RE P nb ib es s M lg ⟨K⟩ :=
  WpE_mono es s M lg (WpE_off es s M lg h) fun s' M' hh => hk s' M' hh.1 hh.2
end
theorem wrap_in {x : Int} (h1 : -9223372036854775808 ≤ x) (h2 : x ≤ 9223372036854775807) : IntKind.i64.wrap x = x := by
  simp [IntKind.wrap, IntKind.signed, IntKind.bits, Int.bmod]; omega
attribute [go_sem] stp stpLoad stpLen stpIad stpStore stpSlc stpSls stpApp mvE bindD isBad isAg isAgD AV.size D.size fldA fldD setA setD gd isSc isSc1 ldD dbin ibin isShift dun frzR coldA coldA1 noRs noRsL optL
  oneA oneD okA tak takL rsOk rsOk1 rsD rs1 slD sl1 hasRs hasRs1 placeD lsOf opI nrmS fldsOf eqL eqS1
end Go.Vm
