/- An interpreter for loaded functions over plain data, and that it is right: part 4 (no condition). -/
import Derived.Test.YtmbhjcgikblpiaaGreatVmc
namespace Go.Vm
open Go
set_option linter.unusedSimpArgs false
set_option linter.unusedVariables false
section
variable {P:Program}
theorem callR_det {f:FuncId} {s:Nat→AV} {M:Mem} {nb ib:Nat} {cold:Bool} {args:List (Md×X)} {K:AV→Mem→(Nat→Bool)→Prop} (h:callR P f s M nb ib cold args K) :
 ∃ a N T,K a N T∧callR P f s M nb ib cold args (fun a1 N1 T1=>a1=a∧N1=N∧T1=T):=by
 revert h
 unfold callR
 cases takA s args M with
 | none=>intro h;cases h
 | some p =>
  obtain ⟨ds,M1⟩:=p
  dsimp only
  cases frzA s (if args.any (·.1.own) then M1.tick else M1) args ds with
  | none=>intro h;cases h
  | some all =>
   rintro ⟨r,outs,h1,h2,h3⟩
   cases hq:putA s nb ib M args outs 0 (if args.any (·.1.own) then M1.tick else M1) with
   | none=>rw [hq] at h3;cases h3
   | some q =>
    obtain ⟨k,M3⟩:=q
    rw [hq] at h3
    exact ⟨_,_,_,h3.2,r,outs,h1,h2,by rw [hq];exact ⟨h3.1,rfl,rfl,rfl⟩⟩
theorem kstR_det {s:Nat→AV} {M:Mem} {nb ib:Nat} {K:AV→Mem→(Nat→Bool)→Prop}:∀ {k:KO},kstR P s M nb ib K k→∃ a N T,K a N T∧kstR P s M nb ib (fun a1 N1 T1=>a1=a∧N1=N∧T1=T) k
 | .i x,h=>by
  simp only [kstR] at h ⊢
  split at h
  · exact ⟨_,_,_,h,rfl,rfl,rfl⟩
  · cases h
 | .call f cold args,h=>callR_det h
 | .ccl x cold args,h=>by
  simp only [kstR] at h ⊢
  split at h
  · exact callR_det h
  · exact callR_det h
  · cases h
 | .fcl f x y,h=>by
  simp only [kstR] at h ⊢
  split at h
  · obtain ⟨j,h1,h2⟩:=h
    split at h2
    · rename_i hq
      exact ⟨_,_,_,h2,j,h1,by rw [hq];exact ⟨rfl,rfl,rfl⟩⟩
    · cases h2
  · cases h
theorem exR_det {nb ib:Nat} {e:Ent} {s:Nat→AV} {M:Mem} {lg:Lg} {K:AV→Mem→Lg→Prop} (h:exR P nb ib e s M lg K):∃ a N l,K a N l∧exR P nb ib e s M lg (fun a1 N1 l1=>a1=a∧N1=N∧l1=l):=by
 unfold exR at h ⊢
 split at h
 · cases h
 · exact ⟨_,_,_,h,rfl,rfl,rfl⟩
 · obtain ⟨a,N,T,⟨h1,hb,h2⟩,h3⟩:=kstR_det h
   exact ⟨_,_,_,h2,kstR_mono h3 fun a1 N1 T1 ⟨e1,e2,e3⟩=>by subst e1 e2 e3;exact ⟨h1,hb,rfl,rfl,rfl⟩⟩
theorem exP_det {nb ib:Nat} {e:Ent} {s:Nat→AV} {M:Mem} {lg:Lg} {K:AV→Mem→Lg→Prop} (h:exP P nb ib e s M lg K):∃ a N l,K a N l∧exP P nb ib e s M lg (fun a1 N1 l1=>a1=a∧N1=N∧l1=l):=by
 unfold exP at h ⊢
 split at h
 · cases h
 · exact ⟨_,_,_,h,rfl,rfl,rfl⟩
 · obtain ⟨a,N,T,⟨h1,h2,hb,h4⟩,h3⟩:=kstR_det h
   exact ⟨_,_,_,h4,kstR_mono h3 fun a1 N1 T1 ⟨e1,e2,e3⟩=>by subst e1 e2 e3;exact ⟨h1,h2,hb,rfl,rfl,rfl⟩⟩
theorem exR_mono {nb ib:Nat} {e:Ent} {s:Nat→AV} {M:Mem} {lg:Lg} {K K':AV→Mem→Lg→Prop} (h:exR P nb ib e s M lg K) (hk:∀ a N l,K a N l→K' a N l):exR P nb ib e s M lg K':=by
 unfold exR at h ⊢
 split at h
 · cases h
 · exact hk _ _ _ h
 · exact kstR_mono h fun a N T hh=>⟨hh.1,hh.2.1,hk _ _ _ hh.2.2⟩
theorem exP_mono {nb ib:Nat} {e:Ent} {s:Nat→AV} {M:Mem} {lg:Lg} {K K':AV→Mem→Lg→Prop} (h:exP P nb ib e s M lg K) (hk:∀ a N l,K a N l→K' a N l):exP P nb ib e s M lg K':=by
 unfold exP at h ⊢
 split at h
 · cases h
 · exact hk _ _ _ h
 · exact kstR_mono h fun a N T hh=>⟨hh.1,hh.2.1,hh.2.2.1,hk _ _ _ hh.2.2.2⟩
theorem WpE_det {nb ib:Nat}:∀ (es:List Ent) (s:Nat→AV) (M:Mem) (lg:Lg) {K:(Nat→AV)→Mem→Prop},WpE P nb ib es s M lg K→∃ s1 M1,K s1 M1∧WpE P nb ib es s M lg (fun s2 M2=>s2=s1∧M2=M1)
 | [],s,M,lg,K,h=>⟨_,_,h,rfl,rfl⟩
 | e::es,s,M,lg,K,h=>by
  simp only [WpE] at h ⊢
  split at h
  · rename_i hp
    obtain ⟨a,N,l,h1,h2⟩:=exP_det h
    obtain ⟨s1,M1,h3,h4⟩:=WpE_det es _ _ _ h1
    exact ⟨s1,M1,h3,by rw [if_pos hp];exact exP_mono h2 fun a1 N1 l1 ⟨e1,e2,e3⟩=>by subst e1 e2 e3;exact h4⟩
  · rename_i hp
    obtain ⟨a,N,l,h1,h2⟩:=exR_det h
    obtain ⟨s1,M1,h3,h4⟩:=WpE_det es _ _ _ h1
    exact ⟨s1,M1,h3,by rw [if_neg hp];exact exR_mono h2 fun a1 N1 l1 ⟨e1,e2,e3⟩=>by subst e1 e2 e3;exact h4⟩
def ends (e:KEx) (s:Nat→AV) (M:Mem):Post:=fun e1 s1 M1=>e1=e∧s1=s∧M1=M
theorem ends_all {e:KEx} {s:Nat→AV} {M:Mem} {K:Post} (h:K e s M):∀ e1 s1 M1,ends e s M e1 s1 M1→K e1 s1 M1:=by
 rintro _ _ _ ⟨rfl,rfl,rfl⟩;exact h
def KC.det:KC→Bool
 | .condu _ _ _=>false
 | .seq a b|.cond _ a b=>a.det&&b.det
 | .block _ a|.loop a|.nrm _ _ _ a|.fz _ a=>a.det
 | _=>true
theorem Wp_det:∀ (c:KC) (s:Nat→AV) (M:Mem) {K:Post},c.det=true→Wp P c K s M→∃ e s1 M1,K e s1 M1∧Wp P c (ends e s1 M1) s M
 | .skip,s,M,K,hd,h=>⟨_,_,_,h,rfl,rfl,rfl⟩
 | .reg nb n es,s,M,K,hd,h=>by
  obtain ⟨s1,M1,h1,h2⟩:=WpE_det es s M _ h
  exact ⟨_,_,_,h1,WpE_mono es s M _ h2 fun s2 M2 ⟨e1,e2⟩=>by subst e1 e2;exact ⟨rfl,rfl,rfl⟩⟩
 | .seq a b,s,M,K,hd,h=>by
  simp only [KC.det,Bool.and_eq_true] at hd
  obtain ⟨e,s1,M1,h1,h2⟩:=Wp_det a s M hd.1 h
  cases e with
  | n =>
   obtain ⟨e2,s2,M2,h3,h4⟩:=Wp_det b s1 M1 hd.2 h1
   exact ⟨e2,s2,M2,h3,Wp_mono a s M h2 (ends_all (K:=Post.seq (Wp P b (ends e2 s2 M2)) (ends e2 s2 M2)) h4)⟩
  | ex i=>exact ⟨_,s1,M1,h1,Wp_mono a s M h2 (ends_all (K:=Post.seq (Wp P b (ends (.ex i) s1 M1)) (ends (.ex i) s1 M1)) ⟨rfl,rfl,rfl⟩)⟩
  | r=>exact ⟨_,s1,M1,h1,Wp_mono a s M h2 (ends_all (K:=Post.seq (Wp P b (ends .r s1 M1)) (ends .r s1 M1)) ⟨rfl,rfl,rfl⟩)⟩
 | .cond x a b,s,M,K,hd,h=>by
  simp only [KC.det,Bool.and_eq_true] at hd
  simp only [Wp] at h ⊢
  split at h
  · exact Wp_det a s M hd.1 h
  · exact Wp_det b s M hd.2 h
  · cases h
  · cases h
 | .block i a,s,M,K,hd,h=>by
  simp only [KC.det] at hd
  obtain ⟨e,s1,M1,h1,h2⟩:=Wp_det a s M hd h
  cases e with
  | n=>exact ⟨.n,s1,M1,h1,Wp_mono a s M h2 (ends_all (K:=Post.blk i (ends .n s1 M1)) ⟨rfl,rfl,rfl⟩)⟩
  | r=>exact ⟨.r,s1,M1,h1,Wp_mono a s M h2 (ends_all (K:=Post.blk i (ends .r s1 M1)) ⟨rfl,rfl,rfl⟩)⟩
  | ex j =>
   simp only [Post.blk] at h1
   split at h1
   · rename_i q
     refine ⟨.n,s1,M1,h1,Wp_mono a s M h2 (ends_all (K:=Post.blk i (ends .n s1 M1)) ?_)⟩
     simp only [Post.blk];rw [if_pos q];exact ⟨rfl,rfl,rfl⟩
   · rename_i q
     refine ⟨.ex j,s1,M1,h1,Wp_mono a s M h2 (ends_all (K:=Post.blk i (ends (.ex j) s1 M1)) ?_)⟩
     simp only [Post.blk];rw [if_neg q];exact ⟨rfl,rfl,rfl⟩
 | .loop a,s,M,K,hd,h=>by
  simp only [KC.det] at hd
  obtain ⟨I,⟨k0,h0⟩,hs⟩:=h
  have key:∀ k s M,I k s M→∃ e s1 M1,K e s1 M1∧Wp P (.loop a) (ends e s1 M1) s M:=by
   intro k
   induction k using Nat.strongRecOn with
   | _ k ih =>
    intro s M hI
    obtain ⟨e,s1,M1,h1,h2⟩:=Wp_det a s M hd (hs k s M hI)
    have out:∀ e,e≠.n→K e s1 M1→Wp P a (ends e s1 M1) s M→∃ e s1 M1,K e s1 M1∧Wp P (.loop a) (ends e s1 M1) s M:=by
     intro e hn h1 h2
     refine ⟨e,s1,M1,h1,fun k s' M'=>s'=s∧M'=M,⟨0,rfl,rfl⟩,?_⟩
     rintro k _ _ ⟨rfl,rfl⟩
     refine Wp_mono a _ _ h2 (ends_all ?_)
     cases e with
     | n=>exact absurd rfl hn
     | ex i=>exact ⟨rfl,rfl,rfl⟩
     | r=>exact ⟨rfl,rfl,rfl⟩
    cases e with
    | ex i=>exact out (.ex i) (by simp) h1 h2
    | r=>exact out .r (by simp) h1 h2
    | n =>
     obtain ⟨k1,hlt,hI1⟩:=h1
     obtain ⟨e2,s2,M2,h3,h4⟩:=ih k1 hlt s1 M1 hI1
     refine ⟨e2,s2,M2,h3,?_⟩
     obtain ⟨J,⟨j0,hj0⟩,hJ⟩:=h4
     refine ⟨fun k s' M'=>J k s' M'∨(k=j0+1∧s'=s∧M'=M),⟨j0+1,.inr ⟨rfl,rfl,rfl⟩⟩,?_⟩
     rintro k s' M' (hk|⟨rfl,rfl,rfl⟩)
     · refine Wp_mono a _ _ (hJ k s' M' hk) fun e s3 M3 he=>?_
       cases e with
       | n=>obtain ⟨k',q1,q2⟩:=he;exact ⟨k',q1,.inl q2⟩
       | ex i=>exact he
       | r=>exact he
     · exact Wp_mono a _ _ h2 (ends_all (K:=Post.seq _ _) ⟨j0,by omega,.inl hj0⟩)
  exact key k0 s M h0
 | .exit i,s,M,K,hd,h=>⟨_,_,_,h,rfl,rfl,rfl⟩
 | .ret,s,M,K,hd,h=>⟨_,_,_,h,rfl,rfl,rfl⟩
 | .nrm t l sz a,s,M,K,hd,h=>by
  simp only [KC.det] at hd
  simp only [Wp] at h ⊢
  exact Wp_det a _ _ hd h
 | .fz t a,s,M,K,hd,h=>by
  simp only [KC.det] at hd
  simp only [Wp] at h ⊢
  split at h
  · exact Wp_det a _ _ hd h
  · cases h
 | .condu x a b,s,M,K,hd,h=>by simp only [KC.det] at hd;cases hd
end
def finX (res:List RV) (ios:List AV) (Q:D→List D→Prop):Post:=fun e s M =>
 (match e with|.ex _=>False|_=>True)∧match optL (res.map (resV1 s M)) with
  | none=>False
  | some xs=>match takL (tak 8) (xs++ios) M with
   | none=>False
   | some (all,_)=>Q (mkR (all.take xs.length)) (all.drop xs.length)
theorem finX_P {res:List RV} {ios:List AV} {Q:D→List D→Prop} {e:KEx} {s:Nat→AV} {M:Mem} (h:finX res ios Q e s M):∃ r outs,Q r outs∧finP res ios r outs e s M:=by
 obtain ⟨h1,h2⟩:=h
 cases hx:optL (res.map (resV1 s M)) with
 | none=>rw [hx] at h2;cases h2
 | some xs =>
  rw [hx] at h2
  dsimp only at h2
  cases ht:takL (tak 8) (xs++ios) M with
  | none=>rw [ht] at h2;cases h2
  | some p =>
   obtain ⟨all,N⟩:=p
   rw [ht] at h2
   refine ⟨_,_,h2,?_⟩
   unfold finP
   rw [hx]
   dsimp only
   rw [ht]
   exact ⟨h1,rfl,rfl⟩
def endX (o:Option (List AV)) (ios:List AV) (M:Mem) (Q:D→List D→Prop):Prop:=match o with
 | none=>False
 | some xs=>match takL (tak 8) (xs++ios) M with
  | none=>False
  | some (all,_)=>Q (mkR (all.take xs.length)) (all.drop xs.length)
section
variable {P:Program} {s:Nat→AV} {M:Mem}
@[go_sem ↓] theorem finX_n {res:List RV} {ios:List AV} {Q:D→List D→Prop}:finX res ios Q .n s M=endX (optL (res.map (resV1 s M))) ios M Q:=by
 simp only [finX,endX,true_and]
 all_goals (cases optL (res.map (resV1 s M))<;>rfl)
@[go_sem ↓] theorem finX_r {res:List RV} {ios:List AV} {Q:D→List D→Prop}:finX res ios Q .r s M=endX (optL (res.map (resV1 s M))) ios M Q:=by
 simp only [finX,endX,true_and]
 all_goals (cases optL (res.map (resV1 s M))<;>rfl)
def RunX (P:Program) (code:KC) (res:List RV) (ms:List Md) (b:List AV×Nat×Mem) (Q:D→List D→Prop):Prop:=Wp P code (finX res (ioA ms b.1) Q) (slots0 b.1) (b.2.2.bump b.2.1)
@[go_sem] theorem RunX_run {code:KC} {res:List RV} {ms:List Md} {as:List AV} {k:Nat} {Q:D→List D→Prop}:RunX P code res ms (as,k,M) Q = @R P code (slots0 as) (M.bump k) ⟨finX res (ioA ms as) Q⟩:=(rfl)
@[congr] theorem RunX_congr {code : KC} {res : List RV} {ms : List Md} {b b' : List AV × Nat × Mem} {Q : D → List D → Prop} (h : b = b') : RunX P code res ms b Q = RunX P code res ms b' Q := by rw [h]
theorem fct_ex {f:FuncId} {fi:FI} {ms:List Md} {ds:List D} {res:List RV} {code:KC} (Q:D→List D→Prop) (hc:chkF P f ms.length fi=true) (hfi:fi = { res:=res,code:=code }) (hd:code.det=true)
 (h:RunX P code res ms (bindA 0 0 ms ds 0 M00) Q):∃ r outs,Q r outs∧FCt P f ms ds r outs:=by
 obtain ⟨e,s1,M1,h1,h2⟩:=Wp_det code _ _ hd h
 obtain ⟨r,outs,hq,hf⟩:=finX_P h1
 exact ⟨r,outs,hq,fct_run hc hfi (Wp_mono code _ _ h2 (ends_all hf))⟩
end
attribute [go_sem] endX
theorem cdW_cut {P:Program} {o:Option Bool} {a b:KC} {s:Nat→AV} {M:Mem} {K:Post} (Q:Post) (h:@cdW o ⟨@R P a s M ⟨Q⟩⟩ ⟨@R P b s M ⟨Q⟩⟩) (hk:∀ e s' M',Q e s' M'→Off (a.ws++b.ws) s s'→K e s' M'):@cdW o ⟨@R P a s M ⟨K⟩⟩ ⟨@R P b s M ⟨K⟩⟩:=by
 unfold cdW at h ⊢
 split at h
 · exact wp_cut Q h fun e s' M' h1 h2=>hk e s' M' h1 (h2.mono fun t ht=>List.mem_append_left _ ht)
 · exact wp_cut Q h fun e s' M' h1 h2=>hk e s' M' h1 (h2.mono fun t ht=>List.mem_append_right _ ht)
 · cases h
theorem R_then {P:Program} {a b:KC} {s:Nat→AV} {M:Mem} {K:Post} (Q:(Nat→AV)→Mem→Prop) (h:@R P a s M ⟨fun e s' M'=>e=.n∧Q s' M'⟩) (hk:∀ s' M',Q s' M'→Off a.ws s s'→@R P b s' M' ⟨K⟩):@R P (.seq a b) s M ⟨K⟩:=by
 refine wp_cut (c:=a) (fun e s' M'=>e=.n∧Q s' M') h ?_
 rintro e s' M' ⟨rfl,hq⟩ ho
 exact hk s' M' hq ho
theorem R_seqcut {P:Program} {a b:KC} {s:Nat→AV} {M:Mem} {K:Post} (Q:Post) (h:@R P a s M ⟨Q⟩) (hk:∀ e s' M',Q e s' M'→Off a.ws s s'→Post.seq (fun s M=>@R P b s M ⟨K⟩) K e s' M'):@R P (.seq a b) s M ⟨K⟩ :=
 wp_cut (c:=a) Q h hk
@[go_sem] theorem mkR_four {a b c d:D}:mkR [a,b,c,d]=.tup [a,b,c,d]:=(rfl)
@[go_sem] theorem mkR_five {a b c d e:D}:mkR [a,b,c,d,e]=.tup [a,b,c,d,e]:=(rfl)
section
variable {P:Program} {s:Nat→AV} {M:Mem} {nb ib:Nat} {lg:Lg} {es:List Ent}
@[go_sem ↓] theorem RE_EPgf {j d t:Nat} {b:Bool} {k:KO} {kd:Nat} {K:(Nat→AV)→Mem→Prop} :
 @RE P nb ib (EP j (some d) (some (t,b)) k kd false::es) s M lg ⟨K⟩ = @gdW (gB (s t)) b ⟨@KS P s M (nb+64 * j) (ib+64 * j) k ⟨fun a N T=>@okP kd nb j k M N T ⟨@RE P nb ib es (upd s d a) N lg ⟨K⟩⟩⟩⟩ ⟨@RE P nb ib es (upd s d (.tup [])) M lg ⟨K⟩⟩ :=
 RE_step (e:=EP j (some d) (some (t,b)) k kd false) rfl fun a N T=>and_assoc.symm
@[go_sem ↓] theorem RE_EPgt {j d t:Nat} {b:Bool} {k:KO} {kd:Nat} {K:(Nat→AV)→Mem→Prop} :
 @RE P nb ib (EP j (some d) (some (t,b)) k kd true::es) s M lg ⟨K⟩ = @gdW (gB (s t)) b ⟨@KS P s M (nb+64 * j) (ib+64 * j) k ⟨fun a N T=>@okP kd nb j k M N T ⟨@RE P nb ib es (upd s d a) N (upd lg j (wrt T M N)) ⟨K⟩⟩⟩⟩ ⟨@RE P nb ib es (upd s d (.tup [])) M lg ⟨K⟩⟩ :=
 RE_step (e:=EP j (some d) (some (t,b)) k kd true) rfl fun a N T=>and_assoc.symm
end
end Go.Vm
