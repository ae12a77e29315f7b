/- An interpreter for loaded functions over plain data, and that it is right: part 3 (no condition). -/
import Derived.Test.YtmbhjcgikblpiaaGreatVmb
import Derived.WalkKit
import Derived.ProofKit
import Derived.OpenShut
import Derived.ShutString
import Derived.ChangeOld
import Derived.Below
import Derived.Carry
import Derived.SizedLaws
namespace Go.Vm
open Go
set_option linter.unusedSimpArgs false
set_option linter.unusedVariables false
structure Ent where
 j:Nat
 d:Option Nat
 g:Option (Nat×Bool)
 k:KO
 kd:Nat:=0
 hs:List Nat:=[]
 hd:List Nat:=[]
 w:Bool:=false
 b:Bool:=false
 deriving Inhabited
abbrev Lg:=Nat→Nat→Bool
def gdS (s:Nat→AV):Option (Nat×Bool)→Option Bool
 | none=>some true
 | some (t,b)=>match s t with
  | .dat none (.bool x)=>some (x == b)
  | .tup []=>some false
  | _=>none
def updO (s:Nat→AV):Option Nat→AV→Nat→AV
 | none,_=>s
 | some d,a=>upd s d a
def inR (nb j l:Nat):Bool:=decide (nb+64 * j≤l)&&decide (l < nb+64 * j+64)
def hidB (nb:Nat) (lg:Lg) (e:Ent) (l:Nat):Bool:=e.hs.any (inR nb · l)||e.hd.any (lg · l)
def hid (nb:Nat) (lg:Lg) (e:Ent) (M:Mem):Mem:={ M with m:=fun l=>if hidB nb lg e l then none else M.m l,r:=if e.b=true then M.r else if e.hd=[] then M.r else 0 }
def mrg (T:Nat→Bool) (e:Ent) (Mh M1 M:Mem):Mem:={ m:=fun l=>if wrt T Mh M1 l then M1.m l else M.m l,e:=M1.e,r:=if e.hd=[] then M1.r else M.r,c:=M.c }
def calm:KO→Bool
 | .i (.apr _ _ _ _)=>false
 | .i _=>true
 | .call _ _ args=>args.all fun p=>!p.1.own
 | .ccl _ _ _=>true
 | .fcl _ _ _=>true
 | .tkl _ _=>false
def still:KO→Bool
 | .i (.store _ _ _)=>false
 | .i (.clr _ _ _)=>false
 | .i (.cpy _ _ _)=>false
 | k=>calm k
def zkK:KO→Bool
 | .i x=>zk x
 | _=>false
def OkK (nb:Nat) (e:Ent) (Mh M1:Mem) (T:Nat→Bool):Prop :=
 (e.kd=1→∀ l,inR nb e.j l=false→T l=false∧M1.m l=Mh.m l)∧(e.kd=2→∀ l,T l=false∧M1.m l=Mh.m l)
def noE:AV→Bool
 | .dat (some _) _|.dp (some _) _|.bad=>false
 | _=>true
def OkB (e:Ent) (a:AV) (Mh M1:Mem):Prop:=e.b=true→(e.kd=2→noE a=true)∧M1.r=Mh.r
open Classical in
noncomputable def core (den:Den) (nb ib:Nat) (e:Ent) (s:Nat→AV) (M:Mem) (lg:Lg):Option (AV×Mem×Lg) :=
 match gdS s e.g with
 | none=>none
 | some false=>some (.tup [],M,lg)
 | some true=>match kst den s (hid nb lg e M) (nb+64 * e.j) (ib+64 * e.j) e.k with
  | none=>none
  | some (a,M1,T)=>if OkK nb e (hid nb lg e M) M1 T∧OkB e a (hid nb lg e M) M1 then
   some (a,mrg T e (hid nb lg e M) M1 M,if e.w then upd lg e.j (wrt T (hid nb lg e M) M1) else lg) else none
def gUs:Option (Nat×Bool)→List Nat
 | none=>[]
 | some (t,_)=>[t]
def Ent.us (e:Ent):List Nat:=gUs e.g++e.k.us
def apartE (x y:Ent):Bool :=
 (match x.d with|some d=>!y.us.contains d&&y.d != some d|none=>true)&&(match y.d with|some d=>!x.us.contains d|none=>true)
def pairOk (i x:Ent):Bool :=
 (!x.b||still i.k||i.b)&&calm i.k&&still x.k&&(x.kd == 1||x.kd == 2)&&(x.kd == 2||i.hs.contains x.j)&&!i.hd.contains x.j&&i.j != x.j &&
 ((i.kd == 0&&i.w&&x.hd.contains i.j&&(i.hd == []||still i.k))||(i.kd == 2&&still i.k)||(i.kd == 1&&still i.k&&x.hs.contains i.j))
def boxK:KO→Bool
 | .i (.box (.k _))=>true
 | _=>false
def boxOk (i x:Ent):Bool:=boxK i.k&&i.kd == 1&&i.hd == []&&!i.w&&x.hs.contains i.j&&i.j != x.j
def rdB:KO→Bool
 | .i (.load ..)=>true
 | .i (.iad ..)=>true
 | .i (.fad ..)=>true
 | _=>false
def pairB (i x:Ent):Bool:=x.b&&x.kd == 2&&rdB x.k&&x.hd.contains i.j&&!x.w&&i.b&&i.w&&i.j != x.j
def zkE (e:Ent):Bool:=zkK e.k&&e.hs == []&&e.hd == []&&!e.w
def swapOk (i x:Ent):Bool:=apartE i x&&(zkE i||zkE x||pairOk i x||boxOk i x||pairB i x)
section
variable {M M' Mc Mc' N N':Mem} {s s':Nat→AV} {nb ib:Nat} {a:AV} {den:Den} {lg:Lg} {T W:Nat→Bool}
theorem Zik {e:Ent} (h:∀ t∈e.us,s t=s' t):core den nb ib e s M lg=core den nb ib e s' M lg:=by
 have h1:gdS s e.g=gdS s' e.g:=by
  unfold Ent.us at h
  cases hg:e.g with
  | none=>rfl
  | some p=>obtain ⟨t,b⟩:=p;rw [hg] at h;simp only [gdS];rw [h t (by simp [gUs])]
 have h2:∀ M nb ib,kst den s M nb ib e.k=kst den s' M nb ib e.k:=fun M nb ib=>Znu fun t ht=>h t (List.mem_append_right _ ht)
 simp only [core,h1,h2]
theorem Up.det (h1:Up W M N Mc N') (h2:Up W M N Mc Mc') (hr:Mc.r=M.r):N'=Mc':=by
 obtain ⟨m1,e1,r1,c1⟩:=N'
 obtain ⟨m2,e2,r2,c2⟩:=Mc'
 have a1:m1=m2:=by
  funext l
  cases hw:W l with
  | true=>exact (h1.i l hw).trans (h2.i l hw).symm
  | false=>exact (h1.o l hw).1.trans (h2.o l hw).1.symm
 have a2:e1=e2:=h1.e.trans h2.e.symm
 have a3:r1=r2:=(h1.r hr).trans (h2.r hr).symm
 have a4:c1=c2:=h1.c.1.trans h2.c.1.symm
 rw [a1,a2,a3,a4]
theorem ZoL (k:Le M Mc) (h:Up (wrt T M N) M N Mc N'):wrt T Mc N'=wrt T M N:=by
 funext l
 cases hw:wrt T M N l with
 | true =>
  have h1:=h.i l hw
  simp only [wrt,Bool.or_eq_true,Bool.and_eq_true] at hw ⊢
  rcases hw with ⟨a1,a2⟩|a
  · left
    obtain ⟨o,ho⟩:=Option.isSome_iff_exists.1 a1
    rw [h1,k.m l o ho];exact ⟨rfl,a2⟩
  · exact .inr a
 | false =>
  obtain ⟨h1,h2⟩:=h.o l hw
  simp only [wrt,Bool.or_eq_false_iff] at hw ⊢
  refine ⟨?_,hw.2⟩
  rw [h1];cases Mc.m l<;>rfl
def isApr:I→Bool
 | .apr _ _ _ _=>true
 | _=>false
theorem Zoy (i:I) (h:stp s M nb ib i=some (a,N)):(calm (.i i)=true→N.e=M.e)∧(still (.i i)=true→N.r=M.r):=by
 suffices H:isApr i=true∨(N.e=M.e∧(still (.i i)=true→N.r=M.r)) by
  rcases H with H|H
  · cases i<;>cases H
    exact ⟨fun (q:calm (.i (.apr _ _ _ _))=true)=>(by cases q),fun (q:still (.i (.apr _ _ _ _))=true)=>(by cases q)⟩
  · exact ⟨fun _=>H.1,H.2⟩
 cases hq:isApr i with
 | true=>exact .inl rfl
 | false =>
 right
 have key:∀ (n:Nat) (a:AV) (M M':Mem) (d:D),tak n a M=some (d,M')→M'.e=M.e∧M'.r=M.r:=by
  intro n a M M' d h
  obtain ⟨_,_,r⟩:=Zbq n a M M' M d h (Le.refl M)
  exact ⟨r.e.1,r.r.1⟩
 have keyL:∀ (xs:List AV) (M M':Mem) (ds:List D),takL (tak 8) xs M=some (ds,M')→M'.e=M.e∧M'.r=M.r:=by
  intro xs
  induction xs with
  | nil=>intro M M' ds h;simp only [takL] at h;cases h;exact ⟨rfl,rfl⟩
  | cons x xs ih =>
   intro M M' ds h
   simp only [takL] at h
   split at h
   · rename_i d M1 h1
     split at h
     · rename_i ds' M2 h2
       cases h
       exact ⟨(ih _ _ _ h2).1.trans (key _ _ _ _ _ h1).1,(ih _ _ _ h2).2.trans (key _ _ _ _ _ h1).2⟩
     · cases h
   · cases h
 have keyE:∀ (sz:Nat) (a:AV) (own:Bool) (ys:List D) (M M':Mem),mvE M sz a=some (own,ys,M')→M'.e=M.e∧M'.r=M.r:=by
  intro sz a own ys M M' h
  obtain ⟨_,_,r⟩:=Zdz h (Le.refl M)
  exact ⟨r.e.1,r.r.1⟩
 have wrE:∀ (l v sz off:Nat) (ys:List D) (M2:Mem),stpWr M l v sz off ys=some M2→M2.e=M.e:=by
  intro l v sz off ys M2 h
  unfold stpWr at h
  split at h
  · split at h<;>cases h
    rfl
  · cases h
 cases i with
 | store n p v =>
  refine ⟨?_,fun q=>by simp [still] at q⟩
  simp only [stp,Option.map_eq_some_iff] at h
  obtain ⟨M',h,hh⟩:=h
  cases hh
  unfold stpStore at h
  split at h
  · cases h
  split at h
  case h_2=>cases h
  split at h
  · split at h
    · split at h
      · split at h<;>cases h
        rfl
      · cases h
    · cases h
  · split at h
    case h_2=>cases h
    rename_i d M1 htk
    have h1:=(key _ _ _ _ _ htk).1
    split at h
    case h_2=>cases h
    split at h
    case isFalse=>cases h
    split at h
    case h_2=>cases h
    split at h
    case h_2=>cases h
    split at h<;>cases h
    simp only [Mem.tickR,Mem.set,h1]
  · cases h
 | bsl fr sz xs =>
  simp only [stp] at h
  split at h
  case h_2=>cases h
  rename_i ds M1 h1
  have h2:=keyL _ _ _ _ h1
  split at h
  case isFalse=>cases h
  split at h
  · split at h<;>cases h
    exact ⟨h2.1,fun _=>h2.2⟩
  · cases h;exact ⟨h2.1,fun _=>h2.2⟩
 | clr sz z x =>
  refine ⟨?_,fun q=>by simp [still] at q⟩
  simp only [stp] at h
  split at h
  · split at h<;>cases h;rfl
  · split at h
    · cases h;rfl
    · split at h
      · simp only [Option.map_eq_some_iff,Prod.mk.injEq] at h
        obtain ⟨M2,hw,_,rfl⟩:=h
        exact wrE _ _ _ _ _ _ hw
      · cases h
  · cases h
 | cpy sz d x =>
  refine ⟨?_,fun q=>by simp [still] at q⟩
  simp only [stp] at h
  split at h
  · split at h
    · cases h;rfl
    · split at h
      · simp only [Option.map_eq_some_iff,Prod.mk.injEq] at h
        obtain ⟨M2,hw,_,rfl⟩:=h
        exact wrE _ _ _ _ _ _ hw
      · cases h
  · cases h
 | apr sz bytes t x=>cases hq
 | app sz bytes t x =>
  simp only [stp] at h
  unfold stpApp at h
  split at h
  case h_2=>cases h
  rename_i own ys M1 hm
  have h1:=(keyE _ _ _ _ _ _ hm)
  split at h
  · split at h<;>cases h;exact ⟨h1.1,fun _=>h1.2⟩
  · split at h
    · split at h<;>cases h;exact ⟨h1.1,fun _=>h1.2⟩
    · cases h
  · cases h
 | box x=>simp only [stp] at h;split at h<;>cases h;exact ⟨rfl,fun _=>rfl⟩
 | mks sz bytes z l c =>
  simp only [stp] at h
  split at h
  · split at h<;>cases h;exact ⟨rfl,fun _=>rfl⟩
  · cases h
 | apz sz bytes z l c =>
  simp only [stp] at h
  split at h
  · split at h<;>cases h;exact ⟨rfl,fun _=>rfl⟩
  · cases h
 | _ =>
  suffices hN:N=M by subst hN;exact ⟨rfl,fun _=>rfl⟩
  simp only [stp] at h
  first
  | (cases h;rfl)
  | (simp only [Option.map_eq_some_iff,Prod.mk.injEq] at h;obtain ⟨_,_,_,rfl⟩:=h;rfl)
  | (simp only [Option.bind_eq_some_iff,Option.map_eq_some_iff,Prod.mk.injEq] at h;obtain ⟨_,_,_,_,_,rfl⟩:=h;rfl)
  | (repeat' split at h)<;>first
   | (cases h;done)
   | (cases h;rfl)
   | (simp only [Option.map_eq_some_iff,Prod.mk.injEq] at h;obtain ⟨_,_,_,rfl⟩:=h;rfl)
   | (simp only [Option.bind_eq_some_iff] at h;obtain ⟨_,_,h⟩:=h;split at h<;>cases h;rfl)
end
end Go.Vm
namespace Go.Vm
open Go
set_option linter.unusedSimpArgs false
set_option linter.unusedVariables false
section
variable {M M' Mc Mc' N N':Mem} {s s':Nat→AV} {nb ib:Nat} {a:AV} {den:Den} {lg:Lg} {T W:Nat→Bool}
theorem Rm.dom {l:Nat} (r:Rm M N Mc Mc') (h:(N.m l).isSome=true):(M.m l).isSome=true:=by
 rcases r.m l with ⟨a1,_,_⟩|⟨a1,_⟩
 · rw [a1] at h;cases h
 · rw [← a1];exact h
theorem Zmx {n:Nat} {a:AV} {p:D×Mem} (h:tak n a M=some p):∀ l∈ioN1 a,(M.m l).isSome=true:=by
 intro l hl
 cases n with
 | zero=>simp [tak] at h
 | succ n =>
  cases a with
  | ptr l' v i j =>
   simp only [ioN1,List.mem_singleton] at hl
   subst hl
   simp only [tak] at h
   split at h
   · rename_i hm;rw [hm];rfl
   · cases h
  | sl l' v off len sz =>
   simp only [ioN1,List.mem_singleton] at hl
   subst hl
   simp only [tak] at h
   split at h
   · rename_i hm;rw [hm];rfl
   · cases h
  | ref l' v r i j =>
   simp only [ioN1,List.mem_singleton] at hl
   subst hl
   simp only [tak] at h
   split at h
   case isFalse=>cases h
   split at h
   case h_2=>cases h
   rename_i hp
   simp only [placeD] at hp
   split at hp
   · rename_i hm;rw [hm];rfl
   · cases hp
  | _=>simp [ioN1] at hl
theorem Zmc {n:Nat}:∀ {xs:List AV} {M:Mem} {p:List D×Mem},takL (tak n) xs M=some p→∀ l∈(xs.map ioN1).flatten,(M.m l).isSome=true
 | [],M,p,h,l,hl=>by simp at hl
 | x::xs,M,p,h,l,hl=>by
  simp only [takL] at h
  split at h
  case h_2=>cases h
  rename_i d M' h1
  split at h
  case h_2=>cases h
  rename_i ds' M'' h2
  simp only [List.map_cons,List.flatten_cons,List.mem_append] at hl
  rcases hl with hl|hl
  · exact Zmx h1 l hl
  · obtain ⟨_,_,r⟩:=Zbq n _ _ _ M _ h1 (Le.refl M)
    exact r.dom (Zmc h2 l hl)
theorem Zpg {n:Nat} {a:AV} {p:D×Mem} (h:tak n a M=some p):∀ l∈ioN a,(M.m l).isSome=true:=by
 cases a with
 | agg xs =>
  cases n with
  | zero=>simp [tak] at h
  | succ n =>
   simp only [tak] at h
   split at h
   case h_2=>cases h
   rename_i h1
   exact Zmc h1
 | _=>exact Zmx h
theorem Zi4:∀ (as:List (Md×X)) (M N:Mem) (ds:List D),takA s as M=some (ds,N)→∀ l∈ioNames s as,(M.m l).isSome=true
 | [],_,_,_,_,_,hl=>by simp [ioNames] at hl
 | (md,x)::as,M,N,ds,h,l,hl=>by
  simp only [takA] at h
  simp only [ioNames] at hl
  split at h
  · rename_i hown
    split at h
    case h_2=>cases h
    rename_i d M1 h1
    split at h
    case h_2=>cases h
    rename_i ds' M2 h2
    obtain ⟨_,_,r⟩:=Zbq 8 _ _ _ M _ h1 (Le.refl M)
    have ih:=Zi4 as _ _ _ h2
    split at hl
    · rcases List.mem_append.1 hl with hl|hl
      · exact Zpg h1 l hl
      · exact r.dom (ih l hl)
    · exact r.dom (ih l hl)
  · rename_i hown
    have ih:=Zi4 as _ _ _ h
    have:md≠.io:=fun e=>by subst e;simp [Md.own] at hown
    rw [if_neg this] at hl
    exact ih l hl
theorem Zmd {M0:Mem}:∀ {as:List (Md×X)} {outs:List D} {k k':Nat} {M M':Mem},as.any (·.1.own)=false→putA s nb ib M0 as outs k M=some (k',M')→M'=M
 | [],outs,k,k',M,M',_,h=>by simp only [putA] at h;cases h;rfl
 | (md,x)::as,outs,k,k',M,M',ha,h=>by
  simp only [List.any_cons,Bool.or_eq_false_iff] at ha
  simp only [putA] at h
  rw [if_neg (fun e:md=.io=>by rw [e] at ha;simp [Md.own] at ha)] at h
  exact Zmd ha.2 h
theorem Zdb {den:List D→Option (D×List D)} {cold:Bool} {args:List (Md×X)} (h:stpCall den s M nb ib cold args=some (a,N,T)) :
 (∀ l,T l=true→(M.m l).isSome=true∨(nb≤l∧l < nb+64))∧(args.all (fun p=>!p.1.own)=true→N.e=M.e∧N.r=M.r):=by
 unfold stpCall at h
 split at h
 case h_2=>cases h
 rename_i ds M1 htk
 simp only at h
 split at h
 case h_2=>cases h
 rename_i all hall
 split at h
 case h_2=>cases h
 rename_i r outs hd
 generalize (if cold=true then args.all (fun p=>p.1.own||coldA (p.2.ev s)) else noRs r&&noRsL outs)=hcold at h
 cases hcold
 case false=>cases h
 simp only [if_true] at h
 split at h
 case h_2=>cases h
 rename_i k0 M3 hput
 rcases hb:bindD nb ib r k0 M3 with ⟨x,k',M4⟩
 rw [hb] at h
 simp only at h
 split at h
 case isFalse=>cases h
 rename_i hk'
 cases h
 simp only [Bool.and_eq_true,decide_eq_true_eq] at hk'
 refine ⟨fun l hl=>?_,fun hro=>?_⟩
 · simp only [Bool.or_eq_true,Bool.and_eq_true,decide_eq_true_eq,List.contains_iff_mem] at hl
   rcases hl with hl|hl
   · exact .inl (Zi4 args M M1 ds htk l hl)
   · exact .inr ⟨hl.1,by omega⟩
 · have hany:args.any (·.1.own)=false:=by
    rw [List.any_eq_false]
    intro p hp
    have:=List.all_eq_true.1 hro p hp
    simpa using this
   obtain ⟨_,_,r1⟩:=Zc5 args M M1 M ds htk (Le.refl M)
   have u3:=Zmd hany hput
   obtain ⟨_,_,q3⟩:=Zb5 (nb:=nb) (ib:=ib) r k0 M3 M
   rw [hany] at u3
   have q4:=ZlK (nb:=nb) (ib:=ib) r k0 M3
   rw [hb] at q3 q4
   subst u3
   exact ⟨q3.e.1.trans r1.e.1,q4.trans r1.r.1⟩
theorem ZdI {k:KO} (h:kst den s M nb ib k=some (a,N,T)) :
 (∀ l,wrt T M N l=true→(M.m l).isSome=true∨(nb≤l∧l < nb+64))∧(calm k=true→N.e=M.e)∧(still k=true→N.r=M.r):=by
 have go:∀ {T:Nat→Bool},(∀ l,T l=true→(M.m l).isSome=true∨(nb≤l∧l < nb+64))→∀ l,wrt T M N l=true→(M.m l).isSome=true∨(nb≤l∧l < nb+64):=by
  intro T hT l hl
  simp only [wrt,Bool.or_eq_true,Bool.and_eq_true] at hl
  rcases hl with hl|hl
  · exact .inl hl.1
  · exact hT l hl
 have roAll:∀ xs:List X,(roA xs).all (fun p=>!p.1.own)=true:=by intro xs;simp [roA,Md.own]
 cases k with
 | i x =>
  simp only [kst,Option.map_eq_some_iff] at h
  obtain ⟨⟨a',N'⟩,h,hh⟩:=h
  cases hh
  obtain ⟨h1,h2⟩:=Zoy x h
  refine ⟨go fun l hl=>?_,h1,h2⟩
  cases x<;>simp only [tgt] at hl<;>try (cases hl;done)
  case box=>simp at hl;exact .inr ⟨by omega,by omega⟩
  case mks=>simp at hl;exact .inr ⟨by omega,by omega⟩
  case apz=>simp at hl;exact .inr ⟨by omega,by omega⟩
  case bsl=>simp at hl;exact .inr ⟨by omega,by omega⟩
  case store n p v =>
   simp only [stp,Option.map_eq_some_iff] at h
   obtain ⟨M',h,hh⟩:=h
   cases hh
   unfold stpStore at h
   split at h
   · cases h
   split at h
   case h_2=>cases h
   rename_i l' v' i' j' hp
   rw [hp] at hl
   simp [ptrAt] at hl
   subst hl
   split at h
   · rename_i hm;rw [hm];exact .inl rfl
   · rename_i hm;rw [hm];exact .inl rfl
   · cases h
  case clr sz z x =>
   simp only [stp] at h
   split at h
   · rename_i hx;rw [hx] at hl;cases hl
   · rename_i l' v off len sz' hx
     rw [hx] at hl
     simp at hl
     rw [if_neg hl.1] at h
     split at h
     · simp only [Option.map_eq_some_iff,Prod.mk.injEq] at h
       obtain ⟨M2,hw,_,_⟩:=h
       unfold stpWr at hw
       split at hw
       · rename_i hm;rw [hl.2,hm];exact .inl rfl
       · cases hw
     · cases h
   · cases h
  case cpy sz d x =>
   simp only [stp] at h
   split at h
   · rename_i l' v off len sz' _ hx
     rw [hx] at hl
     simp at hl
     rw [if_neg hl.1] at h
     split at h
     · simp only [Option.map_eq_some_iff,Prod.mk.injEq] at h
       obtain ⟨M2,hw,_,_⟩:=h
       unfold stpWr at hw
       split at hw
       · rename_i hm;rw [hl.2,hm];exact .inl rfl
       · cases hw
     · cases h
   · cases h
  case apr sz bytes t x =>
   simp only [stp] at h
   unfold stpApr at h
   split at h
   case h_2=>cases h
   rename_i l' v r i j ht
   rw [ht] at hl
   simp at hl
   split at h
   case h_2=>cases h
   rename_i a1 M1 hto
   rcases hl with rfl|rfl
   · left
     unfold takeOut at hto
     split at hto
     case isFalse=>cases hto
     split at hto
     case h_2=>cases hto
     rename_i hm
     rw [hm];rfl
   · exact .inr ⟨by omega,by omega⟩
  case app sz bytes t x =>
   simp only [stp] at h
   unfold stpApp at h
   split at h
   case h_2=>cases h
   rename_i own ys M1 hm
   obtain ⟨_,_,r⟩:=Zdz hm (Le.refl M)
   split at h
   · rename_i ht;rw [ht] at hl;simp at hl;exact .inr ⟨by omega,by omega⟩
   · rename_i ht
     rw [ht] at hl;simp at hl;subst hl
     split at h
     · rename_i hm1;exact .inl (r.dom (by rw [hm1];rfl))
     · cases h
   · cases h
 | call f cold args =>
  obtain ⟨h1,h2⟩:=Zdb h
  exact ⟨go h1,fun q=>(h2 q).1,fun q=>(h2 q).2⟩
 | ccl x cold args =>
  simp only [kst] at h
  split at h
  · obtain ⟨h1,h2⟩:=Zdb h
    exact ⟨go h1,fun q=>(h2 (roAll _)).1,fun q=>(h2 (roAll _)).2⟩
  · obtain ⟨h1,h2⟩:=Zdb h
    exact ⟨go h1,fun q=>(h2 (roAll _)).1,fun q=>(h2 (roAll _)).2⟩
  · cases h
 | tkl n x =>
  simp only [kst] at h
  unfold stpTkl at h
  split at h
  case h_2=>cases h
  split at h
  case h_2=>cases h
  split at h
  case isFalse=>cases h
  split at h
  case h_2=>cases h
  split at h
  case isFalse=>cases h
  rename_i hc
  cases h
  refine ⟨go fun l hl=>?_,fun q=>(by cases q),fun q=>(by cases q)⟩
  simp only [Bool.and_eq_true,decide_eq_true_eq] at hl
  exact .inr ⟨hl.1,by omega⟩
 | fcl f x y =>
  simp only [kst] at h
  split at h
  case h_2=>cases h
  split at h
  case h_2=>cases h
  rename_i j _
  simp only [Option.map_eq_some_iff] at h
  obtain ⟨⟨a',N'⟩,h,hh⟩:=h
  cases hh
  obtain ⟨h1,h2⟩:=Zoy (.fad j x) h
  exact ⟨go fun l hl=>by simp [tgt] at hl,fun _=>h1 rfl,fun _=>h2 rfl⟩
theorem Zjc {x y:Ent} (h:apartE x y=true):(∀ d,x.d=some d→d ∉ y.us)∧(∀ d,x.d=some d→y.d≠some d)∧(∀ d,y.d=some d→d ∉ x.us):=by
 refine ⟨fun d hd=>?_,fun d hd=>?_,fun d hd=>?_⟩<;>simp [apartE,hd] at h
 · exact h.1.1
 · exact h.1.2
 · exact h.2
theorem Zkf {o:Option Nat} {a:AV} {us:List Nat} (h:∀ d,o=some d→d ∉ us):∀ t∈us,updO s o a t=s t:=by
 intro t ht
 cases o with
 | none=>rfl
 | some d =>
  have:t≠d:=fun e=>h d rfl (e▸ht)
  simp [updO,upd,this]
theorem Zjz {α:Type} {f:Nat→α} {i j:Nat} {x y:α} (h:i≠j):upd (upd f i x) j y=upd (upd f j y) i x:=by
 funext t
 simp only [upd]
 by_cases h1:t=i
 · subst h1;simp [h]
 · by_cases h2:t=j
   · subst h2;simp [h1]
   · simp [h1,h2]
theorem ZmA {o p:Option Nat} {a b:AV} (h:∀ d,o=some d→p≠some d):updO (updO s o a) p b=updO (updO s p b) o a:=by
 cases o with
 | none=>rfl
 | some d=>cases p with
  | none=>rfl
  | some e=>exact Zjz fun he=>h d rfl (by rw [he])
theorem ZiW {e:Ent} {l:Nat}:(hid nb lg e M).m l=if hidB nb lg e l then none else M.m l:=rfl
theorem Zho {e:Ent} {Mh M1:Mem} {l:Nat}:(mrg T e Mh M1 M).m l=if wrt T Mh M1 l then M1.m l else M.m l:=rfl
theorem ZaK {e:Ent} {a:AV} {M M':Mem} {lg lg':Lg} (hg:gdS s e.g=some true):core den nb ib e s M lg=some (a,M',lg') ↔
 ∃ N T,kst den s (hid nb lg e M) (nb+64 * e.j) (ib+64 * e.j) e.k=some (a,N,T)∧OkK nb e (hid nb lg e M) N T∧M'=mrg T e (hid nb lg e M) N M ∧
  lg'=(if e.w then upd lg e.j (wrt T (hid nb lg e M) N) else lg)∧OkB e a (hid nb lg e M) N:=by
 unfold core
 rw [hg]
 simp only
 constructor
 · intro h
   split at h
   · cases h
   rename_i a' N T hk
   by_cases ok:OkK nb e (hid nb lg e M) N T∧OkB e a' (hid nb lg e M) N
   · rw [if_pos ok] at h
     simp only [Option.some.injEq,Prod.mk.injEq] at h
     obtain ⟨rfl,h2,h3⟩:=h
     exact ⟨N,T,hk,ok.1,h2.symm,h3.symm,ok.2⟩
   · rw [if_neg ok] at h;cases h
 · rintro ⟨N,T,hk,ok,rfl,rfl,ob⟩
   rw [hk];simp only;rw [if_pos ⟨ok,ob⟩]
theorem Zl3 {den2:Den} {i x:Ent} (hp:pairOk i x=true) (hlg:∀ l,lg i.j l=false) {ai ax:AV} {M1 M2:Mem} {lg1 lg2:Lg}
 (h1:core den nb ib i s M lg=some (ai,M1,lg1)) (h2:core den2 nb ib x s M1 lg1=some (ax,M2,lg2)) :
 ∃ M1' lg1',core den2 nb ib x s M lg=some (ax,M1',lg1')∧core den nb ib i s M1' lg1'=some (ai,M2,lg2):=by
 simp only [pairOk,Bool.and_eq_true,Bool.or_eq_true,beq_iff_eq,bne_iff_ne,ne_eq,Bool.not_eq_true',List.contains_iff_mem] at hp
 obtain ⟨⟨⟨⟨⟨⟨⟨hbb,ci⟩,sx⟩,kx⟩,sxi⟩,hdx⟩,hne⟩,hk⟩:=hp
 have hdx:x.j ∉ i.hd:=fun h=>by
  rw [← Bool.not_eq_true] at hdx;exact hdx (by simpa using h)
 have cx:calm x.k=true:=by
  unfold still at sx
  split at sx<;>first|exact sx|cases sx
 have hjx:x.j≠i.j:=fun h=>hne h.symm
 unfold core at h1
 split at h1
 · cases h1
 · rename_i hg
   cases h1
   refine ⟨M2,lg2,h2,?_⟩
   unfold core;rw [hg]
 rename_i hgi
 have h1':core den nb ib i s M lg=some (ai,M1,lg1):=by unfold core;rw [hgi];exact h1
 obtain ⟨Ni,Ti,hki,oki,eM1,eL1,obi⟩:=(ZaK hgi).1 h1'
 have h2':=h2
 unfold core at h2
 split at h2
 · cases h2
 · rename_i hg
   cases h2
   exact ⟨M,lg,by unfold core;rw [hg],h1'⟩
 rename_i hgx
 obtain ⟨Nx,Tx,hkx,okx,eM2,eL2,obx⟩:=(ZaK hgx).1 h2'
 clear h1 h2 h1' h2'
 subst eM1
 subst eM2
 obtain ⟨di,ei,ri⟩:=ZdI hki
 obtain ⟨dx,ex,rx⟩:=ZdI hkx
 have ei:=ei ci
 have ex:=ex cx
 have rx:=rx sx
 have wi0:∀ l,hidB nb lg1 x l=false→wrt Ti (hid nb lg i M) Ni l=false∧hidB nb lg x l=false:=by
  intro l hl
  simp only [hidB,Bool.or_eq_false_iff,List.any_eq_false] at hl
  obtain ⟨hl1,hl2⟩:=hl
  constructor
  · rcases hk with (⟨⟨⟨hk0,hw⟩,hkd⟩,_⟩|⟨hk2,_⟩)|⟨⟨hk1,_⟩,hks⟩
    · have:=hl2 i.j hkd
      rw [eL1,if_pos hw] at this
      simpa [upd] using this
    · have:=oki.2 hk2 l
      simp only [wrt,this.1,this.2,Bool.or_false]
      cases (hid nb lg i M).m l<;>rfl
    · have hr:inR nb i.j l=false:=by simpa using hl1 i.j hks
      have:=oki.1 hk1 l hr
      simp only [wrt,this.1,this.2,Bool.or_false]
      cases (hid nb lg i M).m l<;>rfl
  · simp only [hidB,Bool.or_eq_false_iff,List.any_eq_false]
    refine ⟨hl1,fun j hj=>?_⟩
    have:=hl2 j hj
    by_cases hji:j=i.j
    · subst hji;rw [hlg];simp
    · rw [eL1] at this
      split at this
      · simpa [upd,hji] using this
      · exact this
 have wx0:∀ l,wrt Tx (hid nb lg1 x (mrg Ti i (hid nb lg i M) Ni M)) Nx l=true→x.kd=1∧inR nb x.j l=true:=by
  intro l hl
  rcases kx with kx|kx
  · refine ⟨kx,?_⟩
    cases hr:inR nb x.j l with
    | true=>rfl
    | false =>
     have:=okx.1 kx l hr
     simp only [wrt,this.1,this.2,Bool.or_false] at hl
     cases hm:(hid nb lg1 x (mrg Ti i (hid nb lg i M) Ni M)).m l<;>rw [hm] at hl<;>cases hl
  · have:=okx.2 kx l
    simp only [wrt,this.1,this.2,Bool.or_false] at hl
    cases hm:(hid nb lg1 x (mrg Ti i (hid nb lg i M) Ni M)).m l<;>rw [hm] at hl<;>cases hl
 have hir:i.hd=[]→still i.k=true→Ni.r=M.r:=fun q q2=>by rw [ri q2];simp only [hid,q,if_true,ite_self]
 have hir2:i.hd=[]→i.b=true→Ni.r=M.r:=fun q q2=>by rw [(obi q2).2];simp only [hid,q2,if_true]
 have lex:Le (hid nb lg1 x (mrg Ti i (hid nb lg i M) Ni M)) (hid nb lg x M):=by
  refine ⟨fun l o ho=>?_,?_,?_⟩
  · rw [ZiW] at ho ⊢
    split at ho
    · cases ho
    rename_i hh
    obtain ⟨q1,q2⟩:=wi0 l (by simpa using hh)
    rw [Zho,q1] at ho
    rw [q2]
    exact ho
  · simp only [hid,mrg];exact ei.symm
  · by_cases hxb:x.b=true
    · right
      simp only [hid,mrg,hxb,if_true]
      split
      · rename_i hid0
        rcases hbb with (hbb|hbb)|hbb
        · rw [hxb] at hbb;cases hbb
        · exact (hir hid0 hbb).symm
        · exact (hir2 hid0 hbb).symm
      · rfl
    by_cases hxd:x.hd=[]
    · right
      simp only [hid,mrg,hxd,if_true,ite_self]
      split
      · rename_i hid0
        rcases hk with (⟨⟨⟨_,_⟩,hkd⟩,_⟩|⟨_,q⟩)|⟨⟨_,q⟩,_⟩
        · rw [hxd] at hkd;cases hkd
        · exact (hir hid0 q).symm
        · exact (hir hid0 q).symm
      · rfl
    · left;simp only [hid,hxd,hxb,if_false,Bool.false_eq_true]
 obtain ⟨Nx',hkx',ux⟩:=ZcK hkx lex
 have wxe:=ZoL lex ux
 have okx':OkK nb x (hid nb lg x M) Nx' Tx:=by
  refine ⟨fun q l hl=>?_,fun q l=>?_⟩
  · have:=okx.1 q l hl
    refine ⟨this.1,(ux.o l ?_).1⟩
    cases hw:wrt Tx (hid nb lg1 x (mrg Ti i (hid nb lg i M) Ni M)) Nx l with
    | false=>rfl
    | true=>rw [(wx0 l hw).2] at hl;cases hl
  · have:=okx.2 q l
    refine ⟨this.1,(ux.o l ?_).1⟩
    cases hw:wrt Tx (hid nb lg1 x (mrg Ti i (hid nb lg i M) Ni M)) Nx l with
    | false=>rfl
    | true=>have:=(wx0 l hw).1;omega
 obtain ⟨_,ex',rx'⟩:=ZdI hkx'
 have ex':=ex' cx
 have rx':=rx' sx
 refine ⟨mrg Tx x (hid nb lg x M) Nx' M,if x.w then upd lg x.j (wrt Tx (hid nb lg x M) Nx') else lg,?_,?_⟩
 · exact (ZaK hgx).2 ⟨Nx',Tx,hkx',okx',rfl,rfl,fun q=>⟨(obx q).1,rx'⟩⟩
 have hm1r:(mrg Tx x (hid nb lg x M) Nx' M).r=M.r:=by
  simp only [mrg]
  split
  · rename_i q;rw [rx'];simp only [hid,q,if_true,ite_self]
  · rfl
 have lei:Le (hid nb lg i M) (hid nb (if x.w then upd lg x.j (wrt Tx (hid nb lg x M) Nx') else lg) i (mrg Tx x (hid nb lg x M) Nx' M)):=by
  refine ⟨fun l o ho=>?_,?_,.inr ?_⟩
  · rw [ZiW] at ho
    split at ho
    · cases ho
    rename_i hh
    have hh:hidB nb lg i l=false:=by simpa using hh
    have hh2:hidB nb (if x.w then upd lg x.j (wrt Tx (hid nb lg x M) Nx') else lg) i l=false:=by
     simp only [hidB,Bool.or_eq_false_iff,List.any_eq_false] at hh ⊢
     refine ⟨hh.1,fun j hj=>?_⟩
     have hjx:j≠x.j:=fun e=>hdx (e▸hj)
     split
     · simpa [upd,hjx] using hh.2 j hj
     · exact hh.2 j hj
    rw [ZiW,hh2,Zho,wxe]
    cases hw:wrt Tx (hid nb lg1 x (mrg Ti i (hid nb lg i M) Ni M)) Nx l with
    | false=>simpa using ho
    | true =>
     obtain ⟨q1,q2⟩:=wx0 l hw
     simp only [hidB,Bool.or_eq_false_iff,List.any_eq_false] at hh
     have:=hh.1 x.j (by rcases sxi with q|q;omega;exact q)
     rw [q2] at this;simp at this
  · simp only [hid,mrg];exact ex'
  · show (if i.b=true then (mrg Tx x (hid nb lg x M) Nx' M).r else if i.hd=[] then (mrg Tx x (hid nb lg x M) Nx' M).r else 0)=(if i.b=true then M.r else if i.hd=[] then M.r else 0)
    rw [hm1r]
 obtain ⟨Ni',hki',ui⟩:=ZcK hki lei
 have wie:=ZoL lei ui
 have oki':OkK nb i (hid nb (if x.w then upd lg x.j (wrt Tx (hid nb lg x M) Nx') else lg) i (mrg Tx x (hid nb lg x M) Nx' M)) Ni' Ti:=by
  refine ⟨fun q l hl=>?_,fun q l=>?_⟩
  · have:=oki.1 q l hl
    refine ⟨this.1,(ui.o l ?_).1⟩
    simp only [wrt,this.1,this.2,Bool.or_false]
    cases (hid nb lg i M).m l<;>rfl
  · have:=oki.2 q l
    refine ⟨this.1,(ui.o l ?_).1⟩
    simp only [wrt,this.1,this.2,Bool.or_false]
    cases (hid nb lg i M).m l<;>rfl
 rw [ZaK hgi]
 have hrr:(hid nb (if x.w then upd lg x.j (wrt Tx (hid nb lg x M) Nx') else lg) i (mrg Tx x (hid nb lg x M) Nx' M)).r=(hid nb lg i M).r:=by
  show (if i.b=true then (mrg Tx x (hid nb lg x M) Nx' M).r else if i.hd=[] then (mrg Tx x (hid nb lg x M) Nx' M).r else 0)=(if i.b=true then M.r else if i.hd=[] then M.r else 0)
  rw [hm1r]
 refine ⟨Ni',Ti,hki',oki',?_,?_,fun q=>⟨(obi q).1,by rw [ui.r hrr,hrr];exact (obi q).2⟩⟩
 have hdis:∀ l,wrt Ti (hid nb lg i M) Ni l=true→wrt Tx (hid nb lg1 x (mrg Ti i (hid nb lg i M) Ni M)) Nx l=true→False:=by
  intro l h1 h2
  obtain ⟨q1,q2⟩:=wx0 l h2
  have hs:x.j∈i.hs:=by rcases sxi with q|q;omega;exact q
  rcases di l h1 with h3|h3
  · rw [ZiW] at h3
    have:hidB nb lg i l=true:=by
     simp only [hidB,Bool.or_eq_true,List.any_eq_true]
     exact .inl ⟨x.j,hs,q2⟩
    rw [this] at h3;cases h3
  · simp only [inR,Bool.and_eq_true,decide_eq_true_eq] at q2
    omega
 · have a1:∀ (A B:Mem),A.m=B.m→A.e=B.e→A.r=B.r→A.c=B.c→A=B:=by
    intro A B;cases A;cases B;simp only [Mem.mk.injEq];exact fun h1 h2 h3 h4=>⟨h1,h2,h3,h4⟩
   refine a1 _ _ ?_ ?_ ?_ rfl
   · funext l
     rw [Zho,Zho,Zho,Zho,wie,wxe]
     cases h1:wrt Ti (hid nb lg i M) Ni l<;>cases h2:wrt Tx (hid nb lg1 x (mrg Ti i (hid nb lg i M) Ni M)) Nx l
     · rfl
     · exact (ux.i l h2).symm
     · exact (ui.i l h1).symm
     · exact (hdis l h1 h2).elim
   · show Nx.e=Ni'.e
     rw [ui.e,ex];rfl
   · show (if x.hd=[] then Nx.r else (mrg Ti i (hid nb lg i M) Ni M).r)=(if i.hd=[] then Ni'.r else (mrg Tx x (hid nb lg x M) Nx' M).r)
     rw [hm1r]
     have q0:(if i.hd=[] then Ni'.r else M.r)=(mrg Ti i (hid nb lg i M) Ni M).r:=by
      show _=if i.hd=[] then Ni.r else M.r
      split
      · rename_i q
        exact ui.r hrr
      · rfl
     rw [q0]
     split
     · rename_i q
       rw [rx]
       show (if x.b=true then (mrg Ti i (hid nb lg i M) Ni M).r else if x.hd=[] then (mrg Ti i (hid nb lg i M) Ni M).r else 0)=_
       rw [if_pos q,ite_self]
     · rfl
 · rw [eL2,eL1,wie,wxe]
   cases hiw:i.w<;>cases hxw:x.w<;>simp only [hiw,if_true,Bool.false_eq_true,if_false] at eL1 ⊢<;>rw [← eL1]<;>try rfl
   rw [eL1]
   exact Zjz fun h=>hjx h.symm
end
end Go.Vm
namespace Go.Vm
open Go
set_option linter.unusedSimpArgs false
set_option linter.unusedVariables false
abbrev RSt:=(Nat→AV)×Mem×Lg
noncomputable def exE (nb ib:Nat) (p:Den×Ent) (st:RSt):Option RSt :=
 (core p.1 nb ib p.2 st.1 st.2.1 st.2.2).map fun r=>(updO st.1 p.2.d r.1,r.2.1,r.2.2)
noncomputable def runE (nb ib:Nat):List (Den×Ent)→RSt→Option RSt
 | [],st=>some st
 | p::ps,st=>match exE nb ib p st with
  | some st'=>runE nb ib ps st'
  | none=>none
section
variable {M M':Mem} {s s':Nat→AV} {nb ib:Nat} {a:AV} {den:Den} {lg lg':Lg} {T W:Nat→Bool}
theorem ZcF {e:Ent} (h1:e.hs=[]) (h2:e.hd=[]):hid nb lg e M=M:=by
 cases M
 simp [hid,hidB,h1,h2]
theorem Zrd {x:I} (h:zk x=true):∀ l,tgt s nb x l=false:=by
 intro l;cases x<;>simp [zk] at h<;>rfl
theorem Zmp {e:Ent} (hz:zkE e=true) (h:core den nb ib e s M lg=some (a,M',lg')):M'=M∧lg'=lg∧∀ M2 lg2,core den nb ib e s M2 lg2=some (a,M2,lg2):=by
 simp only [zkE,Bool.and_eq_true,beq_iff_eq,Bool.not_eq_true'] at hz
 obtain ⟨⟨⟨hk,h1⟩,h2⟩,hw⟩:=hz
 unfold core at h
 split at h
 · cases h
 · rename_i hg
   cases h
   exact ⟨rfl,rfl,fun M2 lg2=>by unfold core;rw [hg]⟩
 rename_i hg
 have h':core den nb ib e s M lg=some (a,M',lg'):=by unfold core;rw [hg];exact h
 clear h
 obtain ⟨N,T,hkst,ok,eM,eL,ob⟩:=(ZaK hg).1 h'
 rw [ZcF h1 h2] at hkst ok eM eL
 cases hek:e.k with
 | call _ _ _=>rw [hek] at hk;cases hk
 | ccl _ _ _=>rw [hek] at hk;cases hk
 | fcl _ _ _=>rw [hek] at hk;cases hk
 | tkl _ _=>rw [hek] at hk;cases hk
 | i x =>
  rw [hek] at hk hkst
  simp only [zkK] at hk
  simp only [kst,Option.map_eq_some_iff] at hkst
  obtain ⟨⟨a',N'⟩,hs,hh⟩:=hkst
  cases hh
  obtain ⟨rfl,hs2⟩:=Zm3 hk hs M
  have ht:=Zrd (s:=s) (nb:=nb+64 * e.j) hk
  have hm:∀ M2:Mem,mrg (tgt s (nb+64 * e.j) x) e M2 M2 M2=M2:=by
   intro M2
   cases M2
   simp only [mrg,h2,if_true,Mem.mk.injEq,and_true,true_and]
   funext l;simp
  refine ⟨by rw [eM,hm],by rw [eL,hw];rfl,fun M2 lg2=>?_⟩
  rw [ZaK hg]
  refine ⟨M2,tgt s (nb+64 * e.j) x,?_,⟨fun _ l _=>⟨ht l,?_⟩,fun _ l=>⟨ht l,?_⟩⟩,?_,by rw [hw];rfl,fun q=>⟨(ob q).1,by rw [ZcF h1 h2]⟩⟩
  · rw [ZcF h1 h2,hek]
    simp only [kst,(Zm3 hk hs M2).2,Option.map_some]
  · rw [ZcF h1 h2]
  · rw [ZcF h1 h2]
  · rw [ZcF h1 h2,hm]
theorem Zm2 {e:Ent} (h:core den nb ib e s M lg=some (a,M',lg')) {j:Nat} (hj:j≠e.j):lg' j=lg j:=by
 unfold core at h
 split at h
 · cases h
 · cases h;rfl
 rename_i hg
 have h':core den nb ib e s M lg=some (a,M',lg'):=by unfold core;rw [hg];exact h
 obtain ⟨N,T,_,_,_,eL,_⟩:=(ZaK hg).1 h'
 rw [eL]
 split
 · simp [upd,hj]
 · rfl
theorem Zmj {A B:Mem} (h1:∀ l,A.m l=B.m l) (h2:A.e=B.e) (h3:A.r=B.r) (h4:A.c=B.c):A=B:=by
 cases A;cases B
 simp only at h1 h2 h3 h4
 have:=funext h1
 subst this h2 h3 h4
 rfl
theorem ZnM {i:Ent} (hk:boxK i.k=true) (h1:i.kd=1) (h2:i.hd=[]) (h3:i.w=false) (hg:gdS s i.g=some true) {ai:AV} {M1:Mem} {lg1:Lg} (h:core den nb ib i s M lg=some (ai,M1,lg1)) :
 ∃ a,∀ M' lg',core den nb ib i s M' lg'=some (ai,M'.set (nb+64 * i.j) (some (.box (ib+64 * i.j) a)),lg'):=by
 obtain ⟨N,T,hkst,ok,eM,eL,ob⟩:=(ZaK hg).1 h
 unfold boxK at hk
 split at hk
 case h_2=>cases hk
 rename_i a hik
 rw [hik] at hkst
 have hst:∀ Q:Mem,stp s Q (nb+64 * i.j) (ib+64 * i.j) (.box (.k a))=if isBad a then none else some (.ptr (nb+64 * i.j) (ib+64 * i.j) 0 none,Q.set (nb+64 * i.j) (some (.box (ib+64 * i.j) a))):=fun Q=>rfl
 simp only [kst,hst] at hkst
 cases hb:isBad a with
 | true=>rw [hb] at hkst;cases hkst
 | false =>
 rw [hb] at hkst
 simp only [Bool.false_eq_true,if_false,Option.map_some,Option.some.injEq,Prod.mk.injEq] at hkst
 obtain ⟨rfl,_,_⟩:=hkst
 refine ⟨a,fun M' lg'=>(ZaK hg).2 ⟨_,_,by rw [hik];simp only [kst,hst,hb];rfl,⟨fun _ l hl=>?_,fun q=>?_⟩,?_,by rw [h3];rfl,fun q=>⟨(ob q).1,?_⟩⟩⟩
 · have hne:l≠nb+64 * i.j:=by
    rintro rfl
    simp [inR] at hl
   simp [tgt,Mem.set,upd,hne]
 · omega
 · have hm:∀ l,wrt (tgt s (nb+64 * i.j) (.box (.k a))) (hid nb lg' i M') ((hid nb lg' i M').set (nb+64 * i.j) (some (.box (ib+64 * i.j) a))) l=decide (l=nb+64 * i.j):=by
    intro l
    by_cases hl:l=nb+64 * i.j
    · simp [wrt,tgt,hl]
    · have hl2:(l == nb+64 * i.j)=false:=by simpa using hl
      simp only [wrt,tgt,Mem.set,upd,hl,hl2,if_false,decide_false,Bool.or_false]
      cases (hid nb lg' i M').m l<;>rfl
   refine Zmj (fun l=>?_) rfl ?_ rfl
   · have:=hm l
     simp only [mrg,this,decide_eq_true_eq]
     by_cases hl:l=nb+64 * i.j<;>simp [hl,Mem.set,upd]
   · simp [mrg,Mem.set,upd,hid,h2]
 · rfl
theorem ZnP {den2:Den} {i x:Ent} (hp:boxOk i x=true) {ai ax:AV} {M1 M2:Mem} {lg1 lg2:Lg}
 (h1:core den nb ib i s M lg=some (ai,M1,lg1)) (h2:core den2 nb ib x s M1 lg1=some (ax,M2,lg2)) :
 ∃ M1' lg1',core den2 nb ib x s M lg=some (ax,M1',lg1')∧core den nb ib i s M1' lg1'=some (ai,M2,lg2):=by
 simp only [boxOk,Bool.and_eq_true,beq_iff_eq,bne_iff_ne,ne_eq,Bool.not_eq_true',List.contains_iff_mem] at hp
 obtain ⟨⟨⟨⟨⟨hk,hkd⟩,hhd⟩,hw⟩,hhs⟩,hne⟩:=hp
 have h1':=h1
 unfold core at h1
 split at h1
 · cases h1
 · rename_i hg
   cases h1
   exact ⟨M2,lg2,h2,by unfold core;rw [hg]⟩
 rename_i hgi
 clear h1
 obtain ⟨a,hbx⟩:=ZnM hk hkd hhd hw hgi h1'
 have e0:=hbx M lg
 rw [e0] at h1'
 simp only [Option.some.injEq,Prod.mk.injEq,true_and] at h1'
 obtain ⟨rfl,rfl⟩:=h1'
 have h2':=h2
 unfold core at h2
 split at h2
 · cases h2
 · rename_i hg
   cases h2
   exact ⟨M,lg,by unfold core;rw [hg],e0⟩
 rename_i hgx
 clear h2
 obtain ⟨Nx,Tx,hkx,okx,eM2,eL2,obx⟩:=(ZaK hgx).1 h2'
 have hn:hidB nb lg x (nb+64 * i.j)=true:=by
  simp only [hidB,Bool.or_eq_true,List.any_eq_true]
  exact .inl ⟨i.j,hhs,by simp [inR]⟩
 have hh:hid nb lg x (M.set (nb+64 * i.j) (some (.box (ib+64 * i.j) a)))=hid nb lg x M:=by
  simp only [hid,Mem.set,upd]
  congr 1
  funext l
  by_cases hl:l=nb+64 * i.j
  · subst hl;simp [hn]
  · simp [hl]
 rw [hh] at hkx okx eM2 eL2 obx
 have hwf:wrt Tx (hid nb lg x M) Nx (nb+64 * i.j)=false:=by
  cases hq:wrt Tx (hid nb lg x M) Nx (nb+64 * i.j) with
  | false=>rfl
  | true =>
   rcases (ZdI hkx).1 _ hq with q|q
   · simp [hid,hn] at q
   · omega
 refine ⟨mrg Tx x (hid nb lg x M) Nx M,lg2,(ZaK hgx).2 ⟨Nx,Tx,hkx,okx,rfl,eL2,obx⟩,?_⟩
 rw [hbx,eM2]
 refine congrArg (fun z=>some (ai,z,lg2)) (Zmj (fun l=>?_) rfl rfl rfl)
 by_cases hl:l=nb+64 * i.j
 · subst hl;simp [mrg,Mem.set,upd,hwf]
 · simp [mrg,Mem.set,upd,hl]
theorem Zmq {x:I} {A A' B:Mem} {n1 i1 n2 i2:Nat} (hx:rdB (.i x)=true) (h:stp s A n1 i1 x=some (a,A')) (hn:noE a=true)
 (hm:∀ l o,A.m l=some o→B.m l=some o) (hr:A.r=B.r):A'=A∧stp s B n2 i2 x=some (a,B):=by
 have vd:∀ e:Option Nat,e=none→vD A e=true∧vD B e=true:=by rintro _ rfl;exact ⟨rfl,rfl⟩
 have fA:∀ (y:AV) (j:Option Nat) (r:AV),fldA A y j=some r→noE r=true→fldA B y j=some r:=by
  intro y j r h hn
  cases j with
  | none=>simpa [fldA] using h
  | some j =>
   cases y with
   | dat e d =>
    cases d with
    | agg fs =>
     cases e with
     | none=>simpa [fldA,vD] using h
     | some e =>
      simp only [fldA] at h
      split at h
      · split at h
        · split at h<;>cases h
          simp [noE] at hn
        · cases h
      · cases h
    | _=>simp [fldA] at h
   | agg xs=>simpa [fldA] using h
   | _=>simp [fldA] at h
 have gdn:∀ M:Mem,gd M a=(match a with|.ref ..=>false|_=>true):=by
  intro M
  cases a with
  | dat e d=>cases e<;>simp [gd,vD,noE] at hn ⊢
  | dp e d=>cases e<;>simp [gd,vD,noE] at hn ⊢
  | bad=>simp [noE] at hn
  | _=>simp [gd]
 cases x with
 | load hh ag n p =>
  simp only [stp] at h ⊢
  split at h
  case h_2=>cases h
  rename_i b hb
  split at h
  case isFalse=>cases h
  rename_i hc
  cases h
  refine ⟨rfl,?_⟩
  have e1:stpLoad B hh (p.ev s)=some a:=by
   unfold stpLoad at hb ⊢
   split at hb
   · rename_i l v i j
     split at hb
     · rename_i v' own sz xs ho
       simp only [hm _ _ ho]
       split at hb
       case isFalse=>cases hb
       rename_i hv
       rw [if_pos hv]
       simp only [Option.bind_eq_some_iff] at hb ⊢
       obtain ⟨d,⟨y,h1,h2⟩,h3⟩:=hb
       refine ⟨d,⟨y,h1,h2⟩,?_⟩
       cases hh with
       | true=>rw [← hr];exact h3
       | false =>
        simp only [Bool.false_eq_true,if_false,Option.some.injEq] at h3 ⊢
        rw [← h3] at hn ⊢
        unfold ldD at hn ⊢
        split at hn
        · simp [noE] at hn
        · rename_i q;rw [if_neg q,if_neg q]
     · rename_i v' y ho
       simp only [hm _ _ ho]
       split at hb
       case isFalse=>cases hb
       rename_i hv
       rw [if_pos hv]
       exact fA _ _ _ hb hn
     · cases hb
   · exact hb
   · cases hb
  rw [e1]
  simp only
  rw [gdn A] at hc
  rw [gdn B,if_pos hc]
 | fad j y =>
  simp only [stp] at h ⊢
  split at h
  · cases h;exact ⟨rfl,rfl⟩
  · rename_i e fs hy
    split at h
    case isFalse=>cases h
    split at h
    case h_2=>cases h
    rename_i d hd
    split at h<;>cases h
    rename_i q
    refine ⟨rfl,?_⟩
    cases e with
    | some e=>simp [noE] at hn
    | none=>simp [vD,hd,q]
  · cases h
 | iad sz y i =>
  simp only [stp,Option.bind_eq_some_iff,Option.map_eq_some_iff,Prod.mk.injEq] at h ⊢
  obtain ⟨k,hk,b,hb,rfl,rfl⟩:=h
  refine ⟨rfl,k,hk,b,?_,rfl,trivial⟩
  unfold stpIad at hb ⊢
  split at hb
  · exact hb
  · rename_i e sz' xs hy
    split at hb
    case isFalse=>cases hb
    rename_i hc
    simp only [Option.map_eq_some_iff] at hb
    obtain ⟨d,hd,rfl⟩:=hb
    cases e with
    | some e=>simp [noE] at hn
    | none=>rw [if_pos ⟨rfl,hc.2⟩,hd];rfl
  · split at hb
    case isFalse=>cases hb
    split at hb
    case h_2=>cases hb
    split at hb
    case isFalse=>cases hb
    simp only [Option.map_eq_some_iff] at hb
    obtain ⟨d,hd,rfl⟩:=hb
    simp [noE] at hn
  · cases hb
 | _=>simp [rdB] at hx
theorem Zk2 {den2:Den} {i x:Ent} (hp:pairB i x=true) (hlg:∀ l,lg i.j l=false) {ai ax:AV} {M1 M2:Mem} {lg1 lg2:Lg}
 (h1:core den nb ib i s M lg=some (ai,M1,lg1)) (h2:core den2 nb ib x s M1 lg1=some (ax,M2,lg2)) :
 ∃ M1' lg1',core den2 nb ib x s M lg=some (ax,M1',lg1')∧core den nb ib i s M1' lg1'=some (ai,M2,lg2):=by
 simp only [pairB,Bool.and_eq_true,beq_iff_eq,bne_iff_ne,ne_eq,Bool.not_eq_true',List.contains_iff_mem] at hp
 obtain ⟨⟨⟨⟨⟨⟨⟨hxb,hkd⟩,hrd⟩,hxd⟩,hxw⟩,hib⟩,hiw⟩,hne⟩:=hp
 have h1':=h1
 unfold core at h1
 split at h1
 · cases h1
 · rename_i hg
   cases h1
   exact ⟨M2,lg2,h2,by unfold core;rw [hg]⟩
 rename_i hgi
 clear h1
 have h2':=h2
 unfold core at h2
 split at h2
 · cases h2
 · rename_i hg
   cases h2
   exact ⟨M,lg,by unfold core;rw [hg],h1'⟩
 rename_i hgx
 clear h2
 obtain ⟨Ni,Ti,hki,oki,eM1,eL1,obi⟩:=(ZaK hgi).1 h1'
 obtain ⟨Nx,Tx,hkx,okx,eM2,eL2,obx⟩:=(ZaK hgx).1 h2'
 cases hxk:x.k with
 | call _ _ _=>rw [hxk] at hrd;cases hrd
 | ccl _ _ _=>rw [hxk] at hrd;cases hrd
 | fcl _ _ _=>rw [hxk] at hrd;cases hrd
 | tkl _ _=>rw [hxk] at hrd;cases hrd
 | i xi =>
 rw [hxk] at hrd hkx
 simp only [kst,Option.map_eq_some_iff] at hkx
 obtain ⟨⟨a',N'⟩,hs,hh⟩:=hkx
 cases hh
 have hnE:=(obx hxb).1 hkd
 have hr1:M1.r=M.r:=by
  rw [eM1]
  show (if i.hd=[] then Ni.r else M.r)=M.r
  split
  · rw [(obi hib).2];simp only [hid,hib,if_true]
  · rfl
 have hle:∀ l o,(hid nb lg1 x M1).m l=some o→(hid nb lg x M).m l=some o:=by
  intro l o ho
  rw [ZiW] at ho
  split at ho
  · cases ho
  rename_i hh
  have hh:hidB nb lg1 x l=false:=by simpa using hh
  simp only [hidB,Bool.or_eq_false_iff,List.any_eq_false] at hh
  have hwi:wrt Ti (hid nb lg i M) Ni l=false:=by
   have:=hh.2 i.j hxd
   rw [eL1,if_pos hiw] at this
   simpa [upd] using this
  have hv:hidB nb lg x l=false:=by
   simp only [hidB,Bool.or_eq_false_iff,List.any_eq_false]
   refine ⟨hh.1,fun j hj=>?_⟩
   have:=hh.2 j hj
   by_cases hji:j=i.j
   · subst hji;rw [hlg];simp
   · rw [eL1,if_pos hiw] at this
     simpa [upd,hji] using this
  rw [eM1,Zho,hwi] at ho
  rw [ZiW,hv]
  exact ho
 obtain ⟨hN,hs2⟩:=Zmq (n2:=nb+64 * x.j) (i2:=ib+64 * x.j) hrd hs hnE hle (by simp only [hid,hxb,if_true,hr1])
 subst hN
 have hT:∀ l,tgt s (nb+64 * x.j) xi l=false:=fun l=>(okx.2 hkd l).1
 have hhd:x.hd≠[]:=fun q=>by rw [q] at hxd;cases hxd
 have hmr:∀ (Q:Mem) (g:Lg),mrg (tgt s (nb+64 * x.j) xi) x (hid nb g x Q) (hid nb g x Q) Q=Q:=by
  intro Q g
  refine Zmj (fun l=>?_) rfl ?_ rfl
  · have hw:wrt (tgt s (nb+64 * x.j) xi) (hid nb g x Q) (hid nb g x Q) l=false:=by
     simp only [wrt,hT,Bool.or_false]
     cases (hid nb g x Q).m l<;>rfl
    rw [Zho,hw];rfl
  · simp only [mrg,hhd,if_false]
 rw [hmr] at eM2
 rw [hxw] at eL2
 simp only [Bool.false_eq_true,if_false] at eL2
 subst eM2 eL2
 refine ⟨M,lg,(ZaK hgx).2 ⟨hid nb lg x M,tgt s (nb+64 * x.j) xi,by rw [hxk];simp only [kst,hs2,Option.map_some],⟨fun _ l _=>⟨hT l,rfl⟩,fun _ l=>⟨hT l,rfl⟩⟩,(hmr M lg).symm,by rw [hxw];rfl,fun _=>⟨fun _=>hnE,rfl⟩⟩,h1'⟩
theorem swapE {p q:Den×Ent} {st st1 st2:RSt} (h:swapOk p.2 q.2=true) (hlg:∀ l,st.2.2 p.2.j l=false) (h1:exE nb ib p st=some st1) (h2:exE nb ib q st1=some st2) :
 ∃ st1',exE nb ib q st=some st1'∧exE nb ib p st1'=some st2:=by
 obtain ⟨s,M,lg⟩:=st
 simp only [swapOk,Bool.and_eq_true,Bool.or_eq_true] at h
 obtain ⟨hap,h⟩:=h
 obtain ⟨a1,a2,a3⟩:=Zjc hap
 simp only [exE,Option.map_eq_some_iff] at h1 h2 ⊢
 obtain ⟨⟨ai,M1,lg1⟩,c1,rfl⟩:=h1
 obtain ⟨⟨ax,M2,lg2⟩,c2,rfl⟩:=h2
 simp only at c1 c2 hlg ⊢
 rw [Zik (s':=s) (Zkf a1)] at c2
 have fin:(∃ M1' lg1',core q.1 nb ib q.2 s M lg=some (ax,M1',lg1')∧core p.1 nb ib p.2 s M1' lg1'=some (ai,M2,lg2)) →
  ∃ st1':RSt,(∃ r,core q.1 nb ib q.2 s M lg=some r∧(updO s q.2.d r.1,r.2.1,r.2.2)=st1') ∧
   ∃ r,core p.1 nb ib p.2 st1'.1 st1'.2.1 st1'.2.2=some r∧(updO st1'.1 p.2.d r.1,r.2.1,r.2.2)=(updO (updO s p.2.d ai) q.2.d ax,M2,lg2):=by
  rintro ⟨M1',lg1',k1,k2⟩
  refine ⟨_,⟨_,k1,rfl⟩,(ai,M2,lg2),?_,?_⟩
  · simp only
    rw [Zik (s':=s) (Zkf a3)]
    exact k2
  · simp only
    rw [ZmA a2]
 apply fin
 rcases h with (((h|h)|h)|h)|h
 · obtain ⟨rfl,rfl,hz⟩:=Zmp h c1
   exact ⟨M2,lg2,c2,hz M2 lg2⟩
 · obtain ⟨rfl,rfl,hz⟩:=Zmp h c2
   exact ⟨M,lg,hz M lg,c1⟩
 · obtain ⟨M1',lg1',k1,k2⟩:=Zl3 h hlg c1 c2
   exact ⟨M1',lg1',k1,k2⟩
 · obtain ⟨M1',lg1',k1,k2⟩:=ZnP h c1 c2
   exact ⟨M1',lg1',k1,k2⟩
 · obtain ⟨M1',lg1',k1,k2⟩:=Zk2 h hlg c1 c2
   exact ⟨M1',lg1',k1,k2⟩
theorem Zrk {p:Den×Ent} {st st':RSt} (h:exE nb ib p st=some st') {j:Nat} (hj:j≠p.2.j):st'.2.2 j=st.2.2 j:=by
 simp only [exE,Option.map_eq_some_iff] at h
 obtain ⟨⟨_,_,_⟩,c,rfl⟩:=h
 exact Zm2 c hj
theorem bubble {p:Den×Ent}:∀ (pre post:List (Den×Ent)) (st r:RSt),(∀ q∈pre,swapOk q.2 p.2=true)→(∀ q∈pre,∀ l,st.2.2 q.2.j l=false)→(pre.map (·.2.j)).Nodup →
 runE nb ib (pre++p::post) st=some r→∃ st1,exE nb ib p st=some st1∧runE nb ib (pre++post) st1=some r
 | [],post,st,r,_,_,_,h=>by
  simp only [List.nil_append,runE] at h ⊢
  split at h
  · rename_i st1 h1;exact ⟨st1,h1,h⟩
  · cases h
 | q::pre,post,st,r,hs,hl,hn,h=>by
  simp only [List.cons_append,runE] at h ⊢
  split at h
  case h_2=>cases h
  rename_i st1 h1
  simp only [List.map_cons,List.nodup_cons] at hn
  obtain ⟨st2,k1,k2⟩:=bubble pre post st1 r (fun x hx=>hs x (List.mem_cons_of_mem _ hx)) (fun x hx l=>by
   have:x.2.j≠q.2.j:=fun e=>hn.1 (e▸List.mem_map_of_mem (f:=fun y:Den×Ent=>y.2.j) hx)
   rw [Zrk h1 this];exact hl x (List.mem_cons_of_mem _ hx) l) hn.2 h
  obtain ⟨st1',m1,m2⟩:=swapE (hs q List.mem_cons_self) (hl q List.mem_cons_self) h1 k1
  exact ⟨st1',m1,by rw [m2];exact k2⟩
end
end Go.Vm
namespace Go.Vm
open Go
set_option linter.unusedSimpArgs false
set_option linter.unusedVariables false
def RI (g0:G) (M0:Mem) (w0:World) (Y:Nat→Prop) (ib n:Nat) (dl:List Deferred) (L:Nat→Prop) (s:Nat→AV) (M:Mem) (a:Act) (w:World):Prop :=
 ∃ g,Inv g Y M w∧Stp g0 M0 w0 g M w∧Slots g Y M w s a.eval∧(∀ b,¬ g.P b)∧(∀ id,g.U id→id < ib∨∃ j,L j∧ib+64 * j≤id∧id < ib+64 * j+64)∧a.tmps.size=n∧a.defers=dl
def gOk (ops:Array Oper) (n:Nat):Option (Nat×Bool)→Option (Nat×Bool)→Bool
 | none,none=>true
 | some (j,b),some (t,b')=>b == b'&&(match (ops[j]?).bind (·.dst) with|some t'=>t == t'&&t < n|none=>false)
 | _,_=>false
def chkE (P:Program) (ops:Array Oper) (n:Nat) (e:Ent):Bool :=
 match ops[e.j]? with
 | some o=>e.d == o.dst&&(match e.d with|some d=>d < n|none=>true)&&gOk ops n o.guard e.g&&chkK P o e.k&&(e.hd == []||still e.k)
 | none=>false
section
variable {P:Program} {ops:Array Oper} {g0:G} {M0:Mem} {w0:World} {Y:Nat→Prop} {ib nb n:Nat} {dl:List Deferred} {L:Nat→Prop} {s:Nat→AV} {M M':Mem} {a:Act} {w:World} {lg lg':Lg} {av:AV} {den:Den} {e:Ent}
 {Q:Exit→Act→World→Prop}
theorem Ziq {d t:Nat} {v:Value} (hd:d < a.tmps.size):(a.put (some d) v).eval (.tmp t)=if t=d then v else a.eval (.tmp t):=by
 simp only [Act.eval,Act.put]
 by_cases h:t=d
 · subst h;simp [hd]
 · simp [h,Array.getElem?_setIfInBounds_ne (fun e=>h e.symm)]
theorem ZeP {t:Nat} {v:Value} (hd:t < a.tmps.size) (h:a.eval (.tmp t)=v):a.tmps[t]? = some v:=by
 simp only [Act.eval,Array.getD_eq_getD_getElem?,hd,getElem?_pos,Option.getD_some] at h ⊢
 rw [h]
theorem Zj7 {d:Option Nat} {v:Value}:(a.put d v).tmps.size=a.tmps.size:=by cases d<;>simp [Act.put]
theorem ZgY {d:Option Nat} {v:Value}:(a.put d v).defers=a.defers:=by cases d<;>rfl
theorem Zio {g g':G} {w':World} {d:Option Nat} {v:Value} (hs:Slots g Y M w s a.eval) (hS:Stp g M w g' M' w') (hv:SV g' Y M' w' av v) (hd:∀ d',d=some d'→d' < a.tmps.size) :
 Slots g' Y M' w' (updO s d av) (a.put d v).eval:=by
 refine ⟨fun t=>?_,fun v'=>?_,fun f=>?_⟩
 · cases d with
   | none=>exact SV.stp hS _ _ (hs.sl t)
   | some d =>
    rw [Ziq (hd d rfl)]
    simp only [updO,upd]
    split
    · exact hv
    · exact SV.stp hS _ _ (hs.sl t)
 · cases d<;>rfl
 · cases d<;>rfl
theorem Zh4 (hc:chkE P ops n e=true) (hd:DenOk P den) (hn:¬ L e.j) (hr:RI g0 M0 w0 Y ib n dl L s M a w) (h:core den nb ib e s M lg=some (av,M',lg'))
 {K:Act→World→Prop} (hK:∀ a' w',RI g0 M0 w0 Y ib n dl (fun j=>L j∨j=e.j) (updO s e.d av) M' a' w'→K a' w'):wpOp P ops Q e.j K a w:=by
 obtain ⟨g,hI,hS,hsl,hp,hU,hsz,hdl⟩:=hr
 unfold chkE at hc
 cases ho:ops[e.j]? with
 | none=>rw [ho] at hc;cases hc
 | some o =>
  rw [ho] at hc
  simp only [Bool.and_eq_true,beq_iff_eq] at hc
  obtain ⟨⟨⟨⟨hdst,hdn⟩,hg⟩,hk⟩,hh⟩:=hc
  have hdn:∀ d',e.d=some d'→d' < a.tmps.size:=by
   intro d' hd'
   rw [hd'] at hdn
   simpa [hsz] using hdn
  have hwant:∀ b,gdS s e.g=some b→Region.wanted o (yielded ops a.tmps)=b:=by
   intro b hb
   unfold Region.wanted
   cases hog:o.guard with
   | none =>
    rw [hog] at hg
    cases heg:e.g with
    | none=>rw [heg] at hb;simp [gdS] at hb;simp [hb]
    | some _=>rw [heg] at hg;simp [gOk] at hg
   | some jw =>
    obtain ⟨j,want⟩:=jw
    rw [hog] at hg
    cases heg:e.g with
    | none=>rw [heg] at hg;simp [gOk] at hg
    | some tb =>
     obtain ⟨t,b'⟩:=tb
     rw [heg] at hg hb
     simp only [gOk,Bool.and_eq_true,beq_iff_eq] at hg
     obtain ⟨rfl,hg⟩:=hg
     split at hg
     case h_2=>cases hg
     rename_i t' hj
     simp only [Bool.and_eq_true,beq_iff_eq,decide_eq_true_eq] at hg
     obtain ⟨rfl,ht⟩:=hg
     simp only [gdS] at hb
     have hsv:=hsl.sl t
     split at hb
     · rename_i x hst
       cases hb
       rw [hst] at hsv
       simp only [SV,TV] at hsv
       have:=ZeP (a:=a) (by omega) hsv.1
       simp only [yielded,hj,Option.bind_some,this]
       cases x<;>cases want<;>rfl
     · rename_i hst
       cases hb
       rw [hst] at hsv
       simp only [SV,SVL] at hsv
       obtain ⟨vs,hv,rfl⟩:=hsv
       have:=ZeP (a:=a) (by omega) hv
       simp only [yielded,hj,Option.bind_some,this]
       rfl
     · cases hb
  unfold wpOp
  rw [ho]
  simp only
  unfold core at h
  split at h
  · cases h
  · rename_i hgs
    cases h
    rw [hwant _ hgs]
    simp only [Bool.false_eq_true,if_false]
    refine hK _ _ ⟨g,hI,hS,?_,hp,fun id hu=>?_,by rw [Zj7];exact hsz,by rw [ZgY];exact hdl⟩
    · rw [← hdst]
      exact Zio hsl (Stp.refl _ _ _) (by simp only [SV,SVL];exact ⟨[],rfl,rfl⟩) hdn
    · rcases hU id hu with q|⟨j,q1,q2⟩
      · exact .inl q
      · exact .inr ⟨j,.inl q1,q2⟩
  rename_i hgs
  have h':core den nb ib e s M lg=some (av,M',lg'):=by unfold core;rw [hgs];exact h
  obtain ⟨N,T,hkst,ok,eM,eL,ob⟩:=(ZaK hgs).1 h'
  rw [hwant _ hgs]
  simp only [if_true]
  left
  have le:Le (hid nb lg e M) M:=by
   refine ⟨fun l o ho=>?_,rfl,?_⟩
   · rw [ZiW] at ho
     split at ho
     · cases ho
     · exact ho
   · by_cases q2:e.b=true
     · right;simp only [hid,q2,if_true]
     by_cases q:e.hd=[]
     · right;simp only [hid,q,if_true,ite_self]
     · left;simp only [hid,q,q2,if_false,Bool.false_eq_true]
  obtain ⟨N',hkst',u⟩:=ZcK hkst le
  have eN:N'=M':=by
   rw [eM]
   have a1:∀ (A B:Mem),A.m=B.m→A.e=B.e→A.r=B.r→A.c=B.c→A=B:=by
    intro A B;cases A;cases B;simp only [Mem.mk.injEq];exact fun h1 h2 h3 h4=>⟨h1,h2,h3,h4⟩
   refine a1 _ _ ?_ u.e ?_ u.c.1
   · funext l
     rw [Zho]
     cases hw:wrt T (hid nb lg e M) N l with
     | true=>exact u.i l hw
     | false=>exact (u.o l hw).1
   · show _=if e.hd=[] then N.r else M.r
     split
     · rename_i q;exact u.r (by simp only [hid,q,if_true,ite_self])
     · rename_i q
       simp only [Bool.or_eq_true,beq_iff_eq] at hh
       exact (ZdI hkst').2.2 (hh.resolve_left q)
  rw [eN] at hkst'
  refine ZnD hd hk hkst' hI hp hsl (fun k hk64 hu=>?_) _ _ ?_
  · rcases hU _ hu with q|⟨j,q1,q2,q3⟩
    · omega
    · have:j≠e.j:=fun h=>hn (h▸q1)
      omega
  · rintro v w' ⟨g',hI',hS',hv,hU',hp'⟩
    refine hK _ _ ⟨g',hI',hS.trans hS',?_,hp',fun id hu=>?_,by rw [Zj7];exact hsz,by rw [ZgY];exact hdl⟩
    · rw [← hdst]
      exact Zio hsl hS' hv hdn
    · rcases hU' id hu with q|q
      · rcases hU id q with q|⟨j,q1,q2⟩
        · exact .inl q
        · exact .inr ⟨j,.inl q1,q2⟩
      · exact .inr ⟨e.j,.inr rfl,by omega,by omega⟩
def aft (o:Oper):List Nat:=(o.after.toList.filter (Region.binds .any)).map (·.on)
def chkOrd (ops:Array Oper):List Ent→List (Ent×List Nat×List Nat)→Bool
 | [],_=>true
 | e::es,acc=>match ops[e.j]? with
  | none=>false
  | some o=>(aft o).all (fun j=>acc.any fun q=>q.1.j == j)&&acc.all (fun q=>!q.2.1.contains e.j)&&!(aft o).contains e.j &&
   acc.all (fun q=>((aft o)++((acc.filter fun q=>(aft o).contains q.1.j).flatMap (·.2.2))).eraseDups.contains q.1.j||swapOk q.1 e) &&
   chkOrd ops es ((e,aft o,((aft o)++((acc.filter fun q=>(aft o).contains q.1.j).flatMap (·.2.2))).eraseDups)::acc)
def Closed (ops:Array Oper) (L:Nat→Prop):Prop:=∀ j o,L j→ops[j]? = some o→∀ a∈aft o,L a
def RelE (ops:Array Oper) (q p:Ent):Prop :=
 (∀ o,ops[q.j]? = some o→p.j ∉ aft o)∧∀ L,Closed ops L→(∀ o,ops[p.j]? = some o→∀ a∈aft o,L a)→L q.j∨swapOk q p=true
def OneE (ops:Array Oper) (e:Ent):Prop:=∃ o,ops[e.j]? = some o∧e.j ∉ aft o
theorem ZfF:∀ (es:List Ent) (acc:List (Ent×List Nat×List Nat)),
 (∀ q∈acc,∃ o,ops[q.1.j]? = some o∧q.2.1=aft o∧∀ L,Closed ops L→(∀ a∈aft o,L a)→∀ x∈q.2.2,L x)→chkOrd ops es acc=true →
 es.Pairwise (RelE ops)∧(∀ q∈acc,∀ e∈es,RelE ops q.1 e)∧∀ e∈es,OneE ops e
 | [],acc,_,_=>⟨.nil,by simp,by simp⟩
 | e::es,acc,hacc,h=>by
  simp only [chkOrd] at h
  split at h
  · cases h
  rename_i o ho
  simp only [Bool.and_eq_true] at h
  obtain ⟨⟨⟨⟨h1,h2⟩,h3⟩,h4⟩,h5⟩:=h
  have hC:∀ L,Closed ops L→(∀ a∈aft o,L a)→∀ x∈((aft o)++((acc.filter fun q=>(aft o).contains q.1.j).flatMap (·.2.2))).eraseDups,L x:=by
   intro L hL ha x hx
   rw [List.mem_eraseDups] at hx
   rcases List.mem_append.1 hx with hx|hx
   · exact ha x hx
   · obtain ⟨q,hq,hx⟩:=List.mem_flatMap.1 hx
     obtain ⟨hq,hc⟩:=List.mem_filter.1 hq
     obtain ⟨o',ho',_,hq2⟩:=hacc q hq
     have:L q.1.j:=ha _ (by simpa using hc)
     exact hq2 L hL (hL _ _ this ho') x hx
  have hrel:∀ q∈acc,RelE ops q.1 e:=by
   intro q hq
   refine ⟨fun o' ho'=>?_,fun L hL ha=>?_⟩
   · obtain ⟨o'',ho'',hq1,_⟩:=hacc q hq
     rw [ho''] at ho';cases ho'
     have:=List.all_eq_true.1 h2 q hq
     rw [hq1] at this
     simpa using this
   · have:=List.all_eq_true.1 h4 q hq
     rcases Bool.or_eq_true _ _▸this with t|t
     · left;exact hC L hL (ha o ho) _ (by simpa using t)
     · exact .inr t
  obtain ⟨p1,p2,p3⟩:=ZfF es _ (by
   intro q hq
   rcases List.mem_cons.1 hq with rfl|hq
   · exact ⟨o,ho,rfl,hC⟩
   · exact hacc q hq) h5
  refine ⟨List.pairwise_cons.2 ⟨fun y hy=>p2 (e,aft o,_) List.mem_cons_self y hy,p1⟩,fun q hq y hy=>?_,fun y hy=>?_⟩
  · rcases List.mem_cons.1 hy with rfl|hy
    · exact hrel q hq
    · exact p2 q (List.mem_cons_of_mem _ hq) y hy
  · rcases List.mem_cons.1 hy with rfl|hy
    · exact ⟨o,ho,by simpa using h3⟩
    · exact p3 y hy
def ndB:List Nat→Bool
 | []=>true
 | x::xs=>!xs.contains x&&ndB xs
theorem Zhr:∀ {xs:List Nat},ndB xs=true→xs.Nodup
 | [],_=>List.nodup_nil
 | x::xs,h=>by
  simp only [ndB,Bool.and_eq_true,Bool.not_eq_true',List.contains_eq_mem,decide_eq_false_iff_not] at h
  exact List.nodup_cons.2 ⟨h.1,Zhr h.2⟩
def chkR (P:Program) (ops:Array Oper) (dr:Bool) (n:Nat) (es:List Ent):Bool :=
 es.all (chkE P ops n)&&(if dr then P.follows .mixedOrders&&es.length == ops.size&&ndB (es.map (·.j))&&chkOrd ops es []&&ops.toList.all (fun o=>(aft o).all (· < ops.size)) else es.map (·.j) == List.range ops.size)
end
end Go.Vm
namespace Go.Vm
open Go
set_option linter.unusedSimpArgs false
set_option linter.unusedVariables false
section
variable {P:Program} {ops:Array Oper} {g0:G} {M0:Mem} {w0:World} {Y:Nat→Prop} {ib nb n:Nat} {dl:List Deferred} {L:Nat→Prop} {s s':Nat→AV} {M M':Mem} {a:Act} {w w':World} {lg lg':Lg} {av:AV} {den:Den} {e:Ent}
 {Q:Exit→Act→World→Prop}
theorem Stp.world {g:G} (hio:IOk w w') (h:w'.heap=w.heap):Stp g M w g M w' :=
 ⟨by rw [h];exact Nat.le_refl _,fun _ _ _=>by rw [h],fun _ k=>.inl k,fun _ k=>⟨k,rfl,rfl,rfl,Iff.rfl⟩,Nat.le_refl _,Nat.le_refl _,
  fun _=>⟨fun _ _ _=>by rw [h],fun _ k=>.inl k⟩,fun _ _ _ k _ _=>⟨k,fun _=>by rw [h]⟩,hio⟩
theorem Inv.sameHeap {g:G} (hI:Inv g Y M w) (hio:IOk w w') (h:w'.heap=w.heap):Inv g Y M w':=by
 have hs:w'.heap.size=w.heap.size:=by rw [h]
 exact ⟨fun l o ho=>OB.keep (Stp.world hio h) (hI.ob l o ho) rfl (fun _ _ _=>by rw [h]) (fun b hb=>(hI.lt b (.inr ⟨l,o,ho,hb⟩)).1),hI.dj,
  fun b hb=>by rw [hs];exact hI.lt b hb,hI.pd,hI.pb,fun b hb=>by rw [hs];exact hI.y b hb⟩
theorem RI.world (h:RI g0 M0 w0 Y ib n dl L s M a w) (hio:IOk w w') (hw:w'.heap=w.heap):RI g0 M0 w0 Y ib n dl L s M a w':=by
 obtain ⟨g,hI,hS,hsl,hp,hU,hsz,hdl⟩:=h
 have hst:Stp g M w g M w':=Stp.world hio hw
 exact ⟨g,hI.sameHeap hio hw,hS.trans hst,⟨fun t=>SV.stp hst _ _ (hsl.sl t),hsl.const,hsl.fn⟩,hp,hU,hsz,hdl⟩
theorem RI.more {L':Nat→Prop} (h:RI g0 M0 w0 Y ib n dl L s M a w) (hL:∀ j,L j→L' j):RI g0 M0 w0 Y ib n dl L' s M a w:=by
 obtain ⟨g,hI,hS,hsl,hp,hU,hr⟩:=h
 exact ⟨g,hI,hS,hsl,hp,fun k hu=>(hU k hu).imp (fun h=>h) fun ⟨j,q,r⟩=>⟨j,hL j q,r⟩,hr⟩
theorem Zl6:∀ (ps:List (Den×Ent)) (L:Nat→Prop) (s:Nat→AV) (M:Mem) (lg:Lg) (a:Act) (w:World),(∀ p∈ps,DenOk P p.1∧chkE P ops n p.2=true∧¬ L p.2.j)→(ps.map (·.2.j)).Nodup →
 runE nb ib ps (s,M,lg)=some (s',M',lg')→RI g0 M0 w0 Y ib n dl L s M a w →
 (∀ a' w',RI g0 M0 w0 Y ib n dl (fun j=>L j∨j∈ps.map (·.2.j)) s' M' a' w'→Q .normal a' w')→wpOps P ops Q (ps.map (·.2.j)) a w
 | [],L,s,M,lg,a,w,_,_,h,hr,hQ=>by
  simp only [runE] at h
  cases h
  simp only [List.map_nil,wpOps]
  exact hQ _ _ (hr.more fun j h=>.inl h)
 | p::ps,L,s,M,lg,a,w,hp,hn,h,hr,hQ=>by
  simp only [runE] at h
  split at h
  case h_2=>cases h
  rename_i st' h1
  simp only [exE,Option.map_eq_some_iff] at h1
  obtain ⟨⟨av,M1,lg1⟩,c1,rfl⟩:=h1
  obtain ⟨p1,p2,p3⟩:=hp p List.mem_cons_self
  simp only [List.map_cons,List.nodup_cons] at hn
  rw [List.map_cons,wpOps_cons]
  refine Zh4 p2 p1 p3 hr c1 fun a' w' hr'=>?_
  refine Zl6 ps (fun j=>L j∨j=p.2.j) _ _ _ _ _ (fun q hq=>?_) hn.2 h hr' fun a' w' hr2=>?_
  · obtain ⟨q1,q2,q3⟩:=hp q (List.mem_cons_of_mem _ hq)
    refine ⟨q1,q2,fun hh=>?_⟩
    rcases hh with hh|hh
    · exact q3 hh
    · exact hn.1 (hh▸List.mem_map_of_mem (f:=fun x:Den×Ent=>x.2.j) hq)
  · refine hQ _ _ (hr2.more fun j hj=>?_)
    rcases hj with (hj|hj)|hj
    · exact .inl hj
    · exact .inr (by rw [hj];simp)
    · exact .inr (by rw [List.map_cons];exact List.mem_cons_of_mem _ hj)
theorem ZoT {l:Array Bool} {j:Nat} (h:l.getD j true=false):l.getD j false=false:=by
 rw [Array.getD_eq_getD_getElem?] at h ⊢
 cases hx:l[j]? with
 | none=>rfl
 | some b=>rw [hx] at h;simpa using h
theorem ZpB:∀ (k:Nat) (rem:List (Den×Ent)) (listed:Array Bool) (s:Nat→AV) (M:Mem) (lg:Lg) (a:Act) (w:World),rem.length=k→listed.size=ops.size →
 (∀ p∈rem,DenOk P p.1∧chkE P ops n p.2=true∧OneE ops p.2)→(rem.map (·.2.j)).Nodup→(rem.map (·.2)).Pairwise (RelE ops) →
 (∀ j,j < ops.size→(listed.getD j true=false↔j∈rem.map (·.2.j)))→Closed ops (fun j=>listed.getD j false=true) →
 (∀ o,o∈ops→∀ x∈aft o,x < ops.size)→(∀ p∈rem,∀ l,lg p.2.j l=false) →
 runE nb ib rem (s,M,lg)=some (s',M',lg')→RI g0 M0 w0 Y ib n dl (fun j=>listed.getD j false=true) s M a w →
 (∀ a' w',RI g0 M0 w0 Y ib n dl (fun j=>j < ops.size) s' M' a' w'→Q .normal a' w')→wpAny P .any ops Q k listed a w:=by
 intro k
 induction k with
 | zero =>
  intro rem listed s M lg a w hk hls hp hn hpw hl hcl hrg hlg h hr hQ
  have:rem=[]:=List.eq_nil_of_length_eq_zero hk
  subst this
  simp only [runE] at h
  cases h
  have hall:∀ j,listed.getD j false=true→j < ops.size:=by
   intro j hj
   rw [Array.getD_eq_getD_getElem?] at hj
   rcases Nat.lt_or_ge j listed.size with h|h
   · omega
   · rw [Array.getElem?_eq_none h] at hj;cases hj
  refine ⟨?_,hQ _ _ (hr.more hall)⟩
  refine List.eq_nil_iff_forall_not_mem.2 fun j hj=>?_
  obtain ⟨h0,o,ho,_⟩:=mem_ready.1 hj
  have:=(hl j (Array.getElem?_eq_some_iff.1 ho).1).1 h0
  simp at this
 | succ k ih =>
  intro rem listed s M lg a w hk hls hp hn hpw hl hcl hrg hlg h hr hQ
  refine ⟨fun hnil=>?_,fun i hi=>?_⟩
  · -- something is ready
    exfalso
    cases rem with
    | nil=>simp at hk
    | cons p ps =>
     obtain ⟨_,_,o,ho,hno⟩:=hp p List.mem_cons_self
     have hlt:=(Array.getElem?_eq_some_iff.1 ho).1
     have:p.2.j∈Region.ready .any ops listed:=by
      refine mem_ready.2 ⟨(hl _ hlt).2 (by simp),o,ho,fun e he hb=>?_⟩
      have ha:e.on∈aft o:=List.mem_map.2 ⟨e,List.mem_filter.2 ⟨by simpa using he,hb⟩,rfl⟩
      have hlt2:=hrg o (Array.mem_of_getElem? ho) _ ha
      cases hb2:listed.getD e.on false with
      | true=>rfl
      | false =>
       exfalso
       have h3:listed.getD e.on true=false:=by
        rw [Array.getD_eq_getD_getElem?] at hb2 ⊢
        rw [Array.getElem?_eq_getElem (by omega)] at hb2 ⊢
        exact hb2
       have h4:=(hl _ hlt2).1 h3
       simp only [List.map_cons,List.mem_cons] at h4
       rcases h4 with h4|h4
       · exact hno (h4▸ha)
       · obtain ⟨q,hq,hqe⟩:=List.mem_map.1 h4
         simp only [List.map_cons,List.pairwise_cons] at hpw
         exact (hpw.1 q.2 (List.mem_map_of_mem hq)).1 o ho (by rw [hqe];exact ha)
     rw [hnil] at this
     cases this
  · obtain ⟨h0,o,ho,hall⟩:=mem_ready.1 hi
    have hlt:=(Array.getElem?_eq_some_iff.1 ho).1
    have hm:=(hl i hlt).1 h0
    obtain ⟨p,hpm,rfl⟩:=List.mem_map.1 hm
    obtain ⟨pre,post,rfl⟩:=List.append_of_mem hpm
    have hna:∀ x∈aft o,listed.getD x false=true:=by
     intro x hx
     obtain ⟨e,he,rfl⟩:=List.mem_map.1 hx
     obtain ⟨he,hb⟩:=List.mem_filter.1 he
     exact hall e (by simpa using he) hb
    have hmp:∀ q∈pre,q∈pre++p::post:=fun q hq=>List.mem_append_left _ hq
    have hlstd:∀ q∈pre++p::post,listed.getD q.2.j false=false:=by
     intro q hq
     obtain ⟨_,_,o',ho',_⟩:=hp q hq
     exact ZoT ((hl _ (Array.getElem?_eq_some_iff.1 ho').1).2 (List.mem_map_of_mem (f:=fun x:Den×Ent=>x.2.j) hq))
    have hswap:∀ q∈pre,swapOk q.2 p.2=true:=by
     intro q hq
     rw [List.map_append,List.map_cons,List.pairwise_append] at hpw
     have:=(hpw.2.2 q.2 (List.mem_map_of_mem hq) p.2 (by simp)).2 _ hcl (fun o' ho'=>by rw [ho] at ho';cases ho';exact hna)
     rcases this with t|t
     · have h5:=hlstd q (hmp q hq)
       simp only [t] at h5
       cases h5
     · exact t
    have hsub:(pre++post).Sublist (pre++p::post):=List.Sublist.append (List.Sublist.refl _) (List.sublist_cons_self _ _)
    obtain ⟨st1,e1,r1⟩:=bubble pre post _ _ hswap (fun q hq l=>hlg q (hmp q hq) l) (by
     rw [List.map_append] at hn;exact (List.nodup_append.1 hn).1) h
    obtain ⟨s1,M1,lg1⟩:=st1
    have e1':=e1
    simp only [exE,Option.map_eq_some_iff] at e1
    obtain ⟨⟨av,M1',lg1'⟩,c1,hst⟩:=e1
    simp only [Prod.mk.injEq] at hst
    obtain ⟨hs1,rfl,rfl⟩:=hst
    obtain ⟨p1,p2,p3⟩:=hp p hpm
    have hnl:listed.getD p.2.j false=false:=hlstd p hpm
    refine Zh4 p2 p1 (by rw [hnl];simp) hr c1 fun a' w' hr'=>?_
    have hjn:p.2.j ∉ (pre++post).map (·.2.j):=by
     rw [List.map_append,List.map_cons] at hn
     rw [List.map_append]
     exact fun hh=>by
      have:=(List.perm_middle (l₁:=pre.map (·.2.j)) (a:=p.2.j) (l₂:=post.map (·.2.j))).nodup_iff.1 hn
      exact (List.nodup_cons.1 this).1 hh
    have hset:∀ j,(listed.setIfInBounds p.2.j true).getD j false=true→listed.getD j false=true∨j=p.2.j:=by
     intro j hj
     by_cases hji:j=p.2.j
     · exact .inr hji
     · left;rwa [getD_set_ne false (fun e=>hji e.symm)] at hj
    have hset2:∀ j,listed.getD j false=true∨j=p.2.j→(listed.setIfInBounds p.2.j true).getD j false=true:=by
     rintro j (hj|rfl)
     · exact getD_set_true hj
     · simp [Array.getD_eq_getD_getElem?,hls,hlt]
    refine ih (pre++post) _ _ _ _ _ _ ?_ (by simp [hls]) (fun q hq=>hp q (hsub.subset hq)) (hn.sublist (hsub.map _)) (hpw.sublist (hsub.map _)) (fun j hj=>?_) ?_ hrg (fun q hq l=>?_) (by rw [hs1];exact r1)
     (hr'.more hset2) hQ
    · simp at hk ⊢;omega
    · by_cases hji:j=p.2.j
      · subst hji
        constructor
        · intro hh
          rw [Array.getD_eq_getD_getElem?] at hh
          simp [hls,hlt] at hh
        · intro hh;exact absurd hh hjn
      · rw [getD_set_ne true (fun e=>hji e.symm),hl j hj]
        simp [hji]
    · intro j o' hj ho' x hx
      rcases hset j hj with hj|rfl
      · exact hset2 x (.inl (hcl j o' hj ho' x hx))
      · rw [ho] at ho';cases ho'
        exact hset2 x (.inl (hna x hx))
    · have:q.2.j≠p.2.j:=fun e=>hjn (e▸List.mem_map_of_mem (f:=fun x:Den×Ent=>x.2.j) hq)
      rw [Zm2 c1 this]
      exact hlg q (hsub.subset hq) l
end
end Go.Vm
namespace Go.Vm
open Go
set_option linter.unusedSimpArgs false
set_option linter.unusedVariables false
def PCt (P:Program) (f:FuncId) (d:D) (j:Nat):Prop:=hasBody P f=true∧PC P f d j
def FCt (P:Program) (f:FuncId) (ms:List Md) (ds:List D) (r:D) (outs:List D):Prop:=hasBody P f=true∧FC P f ms ds r outs
def callR (P:Program) (f:FuncId) (s:Nat→AV) (M:Mem) (nb ib:Nat) (cold:Bool) (args:List (Md×X)) (K:AV→Mem→(Nat→Bool)→Prop):Prop :=
 match takA s args M with
 | none=>False
 | some (ds,M1)=>match frzA s (if args.any (·.1.own) then M1.tick else M1) args ds with
  | none=>False
  | some all=>∃ r outs,FCt P f (args.map (·.1)) all r outs ∧
   (if cold then args.all (fun p=>p.1.own||coldA (p.2.ev s)) else noRs r&&noRsL outs)=true ∧
   match putA s nb ib M args outs 0 (if args.any (·.1.own) then M1.tick else M1) with
   | none=>False
   | some (k,M3)=>((bindD nb ib r k M3).2.1≤64∧isBad (bindD nb ib r k M3).1=false) ∧
    K (bindD nb ib r k M3).1 (bindD nb ib r k M3).2.2 (fun l=>(ioNames s args).contains l||(decide (nb≤l)&&decide (l < nb+(bindD nb ib r k M3).2.1)))
def kstR (P:Program) (s:Nat→AV) (M:Mem) (nb ib:Nat) (K:AV→Mem→(Nat→Bool)→Prop):KO→Prop
 | .i x=>match stp s M nb ib x with
  | some p=>K p.1 p.2 (tgt s nb x)
  | none=>False
 | .call f cold args=>callR P f s M nb ib cold args K
 | .ccl x cold args=>match x.ev s with
  | .clo f caps=>callR P f s M nb ib cold (roA (args++caps.map X.k)) K
  | .dat none (.clo f caps)=>callR P f s M nb ib cold (roA (args++caps.map fun c=>X.k (.dat none c))) K
  | _=>False
 | .fcl f x y=>match y.ev s with
  | .dat none d=>∃ j,PCt P f d j∧(match stp s M nb ib (.fad j x) with
   | some p=>K p.1 p.2 (tgt s nb (.fad j x))
   | none=>False)
  | _=>False
 | .tkl n x=>match stpTkl M nb ib n (x.ev s) with
  | some p=>K p.1 p.2.1 p.2.2
  | none=>False
section
variable {P:Program} {s s':Nat→AV} {M M':Mem} {nb ib:Nat} {K:AV→Mem→(Nat→Bool)→Prop}
theorem DenOk.none:DenOk P (fun _ _ _=>none):=by intro _ _ _ _ _ h;cases h
theorem ZdO:∀ (n:Nat) (l:List Nat),l.Nodup→(∀ x∈l,x < n)→l.length≤n
 | 0,l,_,h=>by cases l with|nil=>simp|cons x l=>exact absurd (h x List.mem_cons_self) (by omega)
 | n+1,l,hn,h=>by
  have ih:=ZdO n (l.erase n) (hn.erase n) (fun x hx=>by
   have h1:=(hn.mem_erase_iff.1 hx)
   have:=h x h1.2
   omega)
  by_cases hm:n∈l
  · rw [List.length_erase_of_mem hm] at ih;omega
  · rw [List.erase_of_not_mem hm] at ih;omega
theorem Zfc {f:FuncId} {cold:Bool} {args:List (Md×X)} (h:callR P f s M nb ib cold args K) :
 ∃ den:Den,DenOk P den∧∃ a M' T,stpCall (den f (args.map (·.1))) s M nb ib cold args=some (a,M',T)∧K a M' T:=by
 unfold callR at h
 split at h
 · cases h
 rename_i ds M1 htk
 split at h
 · cases h
 rename_i all hfr
 obtain ⟨r,outs,hfc,hcold,h⟩:=h
 split at h
 · cases h
 rename_i k M3 hput
 obtain ⟨⟨h1,h2⟩,hK⟩:=h
 classical
 refine ⟨fun f' ms' ds'=>if f'=f∧ms'=args.map (·.1)∧ds'=all then some (r,outs) else none,?_,_,_,_,?_,hK⟩
 · intro f' ms' ds' r' outs' hh
   simp only at hh
   split at hh
   · rename_i e
     obtain ⟨rfl,rfl,rfl⟩:=e
     cases hh
     refine ⟨hfc.1,hfc.2,fun hms d hd=>?_⟩
     exfalso
     have ha:args=[]:=by simpa using hms
     subst ha
     simp only [takA,Option.some.injEq,Prod.mk.injEq] at htk
     obtain ⟨rfl,rfl⟩:=htk
     simp only [frzA,Option.some.injEq] at hfr
     rw [← hfr] at hd
     cases hd
   · cases hh
 · unfold stpCall
   simp only [htk,hfr,and_self,if_true]
   rw [if_pos hcold,hput]
   simp only [h1,h2,decide_true,Bool.not_false,Bool.and_self,if_true]
theorem ZjC {k:KO} (h:kstR P s M nb ib K k):∃ den:Den,DenOk P den∧∃ a M' T,kst den s M nb ib k=some (a,M',T)∧K a M' T:=by
 cases k with
 | i x =>
  simp only [kstR] at h
  split at h
  · rename_i p hp
    exact ⟨fun _ _ _=>none,DenOk.none,p.1,p.2,_,by simp only [kst,hp];rfl,h⟩
  · cases h
 | call f cold args=>exact Zfc h
 | ccl x cold args =>
  simp only [kstR] at h
  split at h
  · rename_i f caps hx
    obtain ⟨den,h1,h2⟩:=Zfc h
    refine ⟨den,h1,?_⟩
    simp only [kst,hx]
    exact h2
  · rename_i f caps hx
    obtain ⟨den,h1,h2⟩:=Zfc h
    refine ⟨den,h1,?_⟩
    simp only [kst,hx]
    exact h2
  · cases h
 | tkl n x =>
  simp only [kstR] at h
  split at h
  case h_2=>cases h
  rename_i p hp
  exact ⟨fun _ _ _=>none,DenOk.none,p.1,p.2.1,p.2.2,by simp only [kst,hp],h⟩
 | fcl f x y =>
  simp only [kstR] at h
  split at h
  case h_2=>cases h
  rename_i d hy
  obtain ⟨j,hpc,h⟩:=h
  split at h
  case h_2=>cases h
  rename_i p hp
  classical
  refine ⟨fun f' ms' ds'=>if f'=f∧ms'=[]∧ds'=[d] then some (.int .i64 j,[]) else none,?_,p.1,p.2,_,?_,h⟩
  · intro f' ms' ds' r' outs' hh
    simp only at hh
    split at hh
    · rename_i e
      obtain ⟨rfl,rfl,rfl⟩:=e
      cases hh
      refine ⟨hpc.1,fun Y w args F _ _ _ har=>?_,fun _ d' hd' j' hj'=>?_⟩
      · simp only [AR] at har;cases har.1
      · cases hd'
        simp only [plD,Option.some.injEq,Int.toNat_natCast] at hj'
        subst hj'
        exact hpc.2
    · cases hh
  · simp only [kst,hy,and_self,if_true,plD,Int.toNat_natCast,hp]
    rfl
def rdI:I→Bool
 | .load _ _ _ _|.slc _ _ _ _|.fad _ _|.iad _ _ _|.ext _ _|.len _|.bld _=>true
 | x=>zk x
def rdK:KO→Bool
 | .i x=>rdI x
 | _=>false
theorem ZoG {x:I} (hx:rdI x=true) {a:AV} {N:Mem} (h:stp s M nb ib x=some (a,N)):N=M∧∀ l,tgt s nb x l=false:=by
 refine ⟨?_,fun l=>by cases x<;>simp [rdI,zk] at hx<;>rfl⟩
 by_cases hz:zk x=true
 · exact (Zm3 hz h M).1
 cases x<;>simp [rdI,zk] at hx hz
 case bld=>simp only [stp] at h;split at h<;>cases h;rfl
 case load hh ag n p =>
  simp only [stp] at h
  split at h
  · split at h<;>cases h;rfl
  · cases h
 case slc =>
  simp only [stp] at h
  split at h
  · simp only [Option.map_eq_some_iff,Prod.mk.injEq] at h;obtain ⟨_,_,_,rfl⟩:=h;rfl
  · cases h
 case fad =>
  simp only [stp] at h
  split at h
  · cases h;rfl
  · split at h
    · split at h
      · split at h<;>cases h;rfl
      · cases h
    · cases h
  · cases h
 case iad=>simp only [stp,Option.bind_eq_some_iff,Option.map_eq_some_iff,Prod.mk.injEq] at h;obtain ⟨_,_,_,_,_,rfl⟩:=h;rfl
 case ext =>
  simp only [stp] at h
  split at h
  · split at h
    · split at h<;>cases h;rfl
    · cases h
  split at h
  · split at h
    · split at h<;>cases h;rfl
    · cases h
  · split at h
    · simp only [Option.map_eq_some_iff,Prod.mk.injEq] at h;obtain ⟨_,_,_,rfl⟩:=h;rfl
    · cases h
  · cases h
 case len=>simp only [stp,Option.map_eq_some_iff,Prod.mk.injEq] at h;obtain ⟨_,_,_,rfl⟩:=h;rfl
def exR (P:Program) (nb ib:Nat) (e:Ent) (s:Nat→AV) (M:Mem) (lg:Lg) (K:AV→Mem→Lg→Prop):Prop :=
 match gdS s e.g with
 | none=>False
 | some false=>K (.tup []) M lg
 | some true=>kstR P s (hid nb lg e M) (nb+64 * e.j) (ib+64 * e.j) (fun a N T=>OkK nb e (hid nb lg e M) N T∧OkB e a (hid nb lg e M) N∧K a (mrg T e (hid nb lg e M) N M) (if e.w then upd lg e.j (wrt T (hid nb lg e M) N) else lg)) e.k
def exP (P:Program) (nb ib:Nat) (e:Ent) (s:Nat→AV) (M:Mem) (lg:Lg) (K:AV→Mem→Lg→Prop):Prop :=
 match gdS s e.g with
 | none=>False
 | some false=>K (.tup []) M lg
 | some true=>kstR P s M (nb+64 * e.j) (ib+64 * e.j) (fun a N T =>
  (e.kd=1→∀ l,inR nb e.j l=false→T l=false∧N.m l=M.m l)∧(e.kd=2→rdK e.k=false→(∀ l,T l=false)∧N=M)∧OkB e a M N∧K a N (if e.w then upd lg e.j (wrt T M N) else lg)) e.k
def plE (e:Ent):Bool:=match e.hs,e.hd with|[],[]=>true|_,_=>false
def WpE (P:Program) (nb ib:Nat):List Ent→(Nat→AV)→Mem→Lg→((Nat→AV)→Mem→Prop)→Prop
 | [],s,M,_,K=>K s M
 | e::es,s,M,lg,K=>(if plE e then exP P nb ib e s M lg else exR P nb ib e s M lg) fun a M' lg'=>WpE P nb ib es (updO s e.d a) M' lg' K
theorem Znz {e:Ent} {lg:Lg} {K:AV→Mem→Lg→Prop} (h:exR P nb ib e s M lg K):∃ den:Den,DenOk P den∧∃ a M' lg',core den nb ib e s M lg=some (a,M',lg')∧K a M' lg':=by
 unfold exR at h
 split at h
 · cases h
 · rename_i hg
   exact ⟨fun _ _ _=>none,DenOk.none,_,_,_,by unfold core;rw [hg],h⟩
 · rename_i hg
   obtain ⟨den,hd,a,N,T,h1,h2,hb,h3⟩:=ZjC h
   exact ⟨den,hd,a,_,_,(ZaK hg).2 ⟨N,T,h1,h2,rfl,rfl,hb⟩,h3⟩
theorem ZnF {e:Ent} {lg:Lg} {K:AV→Mem→Lg→Prop} (hp:plE e=true) (h:exP P nb ib e s M lg K):∃ den:Den,DenOk P den∧∃ a M' lg',core den nb ib e s M lg=some (a,M',lg')∧K a M' lg':=by
 have h1:e.hs=[]∧e.hd=[]:=by
  unfold plE at hp
  split at hp
  · rename_i a b;exact ⟨a,b⟩
  · cases hp
 unfold exP at h
 split at h
 · cases h
 · rename_i hg
   exact ⟨fun _ _ _=>none,DenOk.none,_,_,_,by unfold core;rw [hg],h⟩
 · rename_i hg
   obtain ⟨den,hd,a,N,T,h4,h5,h6,h6b,h7⟩:=ZjC h
   have hm:mrg T e M N M=N:=by
    obtain ⟨N',q1,q2⟩:=ZcK h4 (Le.refl M)
    rw [h4] at q1
    cases q1
    cases N
    simp only [mrg,h1.2,if_true,Mem.mk.injEq,and_true,true_and]
    refine ⟨?_,q2.c.1.symm⟩
    funext l
    cases hw:wrt T M _ l with
    | true=>rfl
    | false=>exact (q2.o l hw).1.symm
   refine ⟨den,hd,a,N,_,(ZaK hg).2 ⟨N,T,by rw [ZcF h1.1 h1.2];exact h4,?_,by rw [ZcF h1.1 h1.2,hm],by rw [ZcF h1.1 h1.2],by rw [ZcF h1.1 h1.2];exact h6b⟩,h7⟩
   rw [ZcF h1.1 h1.2]
   refine ⟨h5,fun q l=>?_⟩
   cases hr:rdK e.k with
   | false=>obtain ⟨r1,r2⟩:=h6 q hr;exact ⟨r1 l,by rw [r2]⟩
   | true =>
    cases hk:e.k with
    | i x =>
     rw [hk] at hr h4
     simp only [kst,Option.map_eq_some_iff] at h4
     obtain ⟨⟨a',N'⟩,hs,hh⟩:=h4
     cases hh
     obtain ⟨r1,r2⟩:=ZoG hr hs
     exact ⟨r2 l,by rw [r1]⟩
    | call _ _ _=>rw [hk] at hr;cases hr
    | ccl _ _ _=>rw [hk] at hr;cases hr
    | fcl _ _ _=>rw [hk] at hr;cases hr
    | tkl _ _=>rw [hk] at hr;cases hr
theorem ZlV:∀ (es:List Ent) (s:Nat→AV) (M:Mem) (lg:Lg) (K:(Nat→AV)→Mem→Prop),WpE P nb ib es s M lg K →
 ∃ ps:List (Den×Ent),ps.map (·.2)=es∧(∀ p∈ps,DenOk P p.1)∧∃ s' M' lg',runE nb ib ps (s,M,lg)=some (s',M',lg')∧K s' M'
 | [],s,M,lg,K,h=>⟨[],rfl,by simp,s,M,lg,rfl,h⟩
 | e::es,s,M,lg,K,h=>by
  simp only [WpE] at h
  have:∃ den:Den,DenOk P den∧∃ a M' lg',core den nb ib e s M lg=some (a,M',lg')∧WpE P nb ib es (updO s e.d a) M' lg' K:=by
   cases hp:plE e with
   | true=>rw [hp] at h;exact ZnF hp h
   | false=>rw [hp] at h;exact Znz h
  obtain ⟨den,hd,a,M1,lg1,hc,h⟩:=this
  obtain ⟨ps,h1,h2,s',M',lg',h3,h4⟩:=ZlV es _ _ _ _ h
  refine ⟨(den,e)::ps,by rw [List.map_cons,h1],fun p hp=>?_,s',M',lg',?_,h4⟩
  · rcases List.mem_cons.1 hp with rfl|hp
    · exact hd
    · exact h2 p hp
  · simp only [runE,exE,hc,Option.map_some]
    exact h3
end
section
variable {P:Program} {ops:Array Oper} {g0:G} {M0:Mem} {w0:World} {Y:Nat→Prop} {nb n:Nat} {dl:List Deferred} {s:Nat→AV} {M:Mem} {a:Act} {w:World}
 {Q:Exit→Act→World→Prop}
theorem ZlD {es:List Ent} {dr:Bool} {id:Nat} {K:(Nat→AV)→Mem→Prop} (hc:chkR P ops dr n es=true) (hW:WpE P nb M.c es s M (fun _ _=>false) K)
 (hr:RI g0 M0 w0 Y M.c n dl (fun _=>False) s M a w)
 (hQ:∀ s' M' a' w',K s' M'→RI g0 M0 w0 Y M.c n dl (fun j=>j < ops.size) s' M' a' w'→Q .normal a' w'):(Code.region id ops dr).wp P Q a w:=by
 obtain ⟨ps,rfl,hd,s',M',lg',hrun,hK⟩:=ZlV es s M _ K hW
 simp only [chkR,Bool.and_eq_true] at hc
 obtain ⟨hE,hc⟩:=hc
 have hE:∀ p∈ps,DenOk P p.1∧chkE P ops n p.2=true:=fun p hp=>⟨hd p hp,List.all_eq_true.1 hE p.2 (List.mem_map_of_mem hp)⟩
 have hmj:(ps.map (·.2)).map (·.j)=ps.map (·.2.j):=by rw [List.map_map];rfl
 cases dr with
 | false =>
  simp only [Bool.false_eq_true,if_false,beq_iff_eq] at hc
  rw [hmj] at hc
  refine wp_region ?_
  rw [← hc]
  refine Zl6 ps (fun _=>False) s M _ a w (fun p hp=>⟨(hE p hp).1,(hE p hp).2,fun h=>h⟩) (by rw [hc];exact List.nodup_range) hrun hr fun a' w' hr'=>?_
  refine hQ _ _ _ _ hK (hr'.more fun j hj=>?_)
  rcases hj with hj|hj
  · cases hj
  · rw [hc] at hj;exact List.mem_range.1 hj
 | true =>
  simp only [if_true,Bool.and_eq_true,beq_iff_eq] at hc
  obtain ⟨⟨⟨⟨hf,hlen⟩,hnd⟩,hord⟩,hin⟩:=hc
  rw [hmj] at hnd
  obtain ⟨pw,_,hone⟩:=ZfF _ [] (by simp) hord
  refine wp_region_any hf ?_
  have hlt:∀ p∈ps,p.2.j < ops.size:=fun p hp=>by
   obtain ⟨o,ho,_⟩:=hone p.2 (List.mem_map_of_mem hp)
   exact (Array.getElem?_eq_some_iff.1 ho).1
  have hall:∀ j,j < ops.size→j∈ps.map (·.2.j):=by
   have hsub:ps.map (·.2.j) ⊆ List.range ops.size:=fun j hj=>by
    obtain ⟨p,hp,rfl⟩:=List.mem_map.1 hj
    exact List.mem_range.2 (hlt p hp)
   intro j hj
   by_cases hm:j∈ps.map (·.2.j)
   · exact hm
   · have:=ZdO ops.size (j::ps.map (·.2.j)) (List.nodup_cons.2 ⟨hm,Zhr hnd⟩) (fun x hx=>by
      rcases List.mem_cons.1 hx with rfl|hx
      · exact hj
      · exact List.mem_range.1 (hsub hx))
     simp at this hlen
     omega
  have hl0:ps.length=ops.size:=by simpa using hlen
  have hrep:∀ j,j < ops.size→(Array.replicate ops.size false).getD j true=false:=fun j hj=>by simp [hj]
  have hrep2:∀ j,(Array.replicate ops.size false).getD j false=false:=fun j=>by
   simp only [Array.getD_eq_getD_getElem?,Array.getElem?_replicate];split<;>rfl
  refine ZpB ops.size ps _ s M _ a _ hl0 (by simp) (fun p hp=>⟨(hE p hp).1,(hE p hp).2,hone p.2 (List.mem_map_of_mem hp)⟩) (Zhr hnd) pw
   (fun j hj=>⟨fun _=>hall j hj,fun _=>hrep j hj⟩) (fun j o hj=>by simp only [hrep2] at hj;cases hj) (fun o ho x hx=>?_) (fun _ _ _=>rfl) hrun ((hr.world (w':={ w with drawn:=w.drawn+1 }) ⟨rfl,rfl,rfl,Rows.same rfl⟩ rfl).more fun j h=>h.elim)
   (fun a' w' hr'=>hQ _ _ _ _ hK hr')
  have:=List.all_eq_true.1 hin o (Array.mem_toList_iff.2 ho)
  simpa using List.all_eq_true.1 this x hx
end
end Go.Vm
namespace Go.Vm
open Go
set_option linter.unusedSimpArgs false
set_option linter.unusedVariables false
inductive KC where
 | skip
 | reg (nb n:Nat) (es:List Ent)
 | seq (a b:KC)
 | cond (x:X) (a b:KC)
 | block (id:Nat) (a:KC)
 | loop (a:KC)
 | exit (id:Nat)
 | ret
 | nrm (t l sz:Nat) (a:KC)
 | fz (t:Nat) (a:KC)
 | condu (x:X) (a b:KC)
 deriving Inhabited
inductive KEx where
 | n
 | ex (id:Nat)
 | r
 deriving DecidableEq,Inhabited
abbrev Post:=KEx→(Nat→AV)→Mem→Prop
def Mem.bump (M:Mem) (k:Nat):Mem:={ M with c:=M.c+k }
def Post.seq (b:(Nat→AV)→Mem→Prop) (K:Post):Post
 | .n,s,M=>b s M
 | e,s,M=>K e s M
def Post.blk (i:Nat) (K:Post):Post
 | .ex j,s,M=>if j=i then K .n s M else K (.ex j) s M
 | e,s,M=>K e s M
def nrmS (t l sz:Nat) (s:Nat→AV) (M:Mem):(Nat→AV)×Mem :=
 match s t with
 | .nil sz'=>if sz'=sz then (upd s t (.sl l M.c 0 0 sz),(M.set l (some (.arr M.c true sz []))).bump 1) else (s,M)
 | _=>(s,M)
def fzR (t:Nat) (s:Nat→AV) (M:Mem):Option ((Nat→AV)×Mem) :=
 match tak 8 (s t) M with
 | some (d,M')=>some (upd s t (bindRo (slD d)),M')
 | none=>none
def fxB (l v:Nat) (M:Mem):Option Mem:=match M.m l with
 | some (.box v' x)=>if v'=v then (match tak 8 x M with
  | some (.agg fs,M1)=>(match M1.m l with
   | some _=>some (M1.set l (some (.box v (.agg (fs.map fun d=>.dat none (sl1 d))))))
   | none=>none)
  | _=>none) else none
 | _=>none
def fzS (t:Nat) (s:Nat→AV) (M:Mem):Option ((Nat→AV)×Mem) :=
 match s t with
 | .ptr l v 0 none=>match fxB l v M with
  | some M'=>some (s,M')
  | none=>none
 | _=>fzR t s M
def asC:AV→Option (Option Bool)
 | .dat none (.bool b)=>some (some b)
 | .dat none .anyb=>some none
 | _=>none
def Wp (P:Program):KC→Post→(Nat→AV)→Mem→Prop
 | .skip,K,s,M=>K .n s M
 | .reg nb n es,K,s,M=>WpE P nb M.c es s M (fun _ _=>false) fun s' M'=>K .n s' (M'.bump (64 * n))
 | .seq a b,K,s,M=>Wp P a (Post.seq (Wp P b K) K) s M
 | .cond x a b,K,s,M=>match asC (x.ev s) with
  | some (some true)=>Wp P a K s M
  | some (some false)=>Wp P b K s M
  | some none=>False
  | none=>False
 | .block i a,K,s,M=>Wp P a (Post.blk i K) s M
 | .loop a,K,s,M=>∃ I:Nat→(Nat→AV)→Mem→Prop,(∃ k,I k s M)∧∀ k s M,I k s M→Wp P a (Post.seq (fun s' M'=>∃ k',k' < k∧I k' s' M') K) s M
 | .exit i,K,s,M=>K (.ex i) s M
 | .ret,K,s,M=>K .r s M
 | .nrm t l sz a,K,s,M=>Wp P a K (nrmS t l sz s M).1 (nrmS t l sz s M).2
 | .condu x a b,K,s,M=>match asC (x.ev s) with
  | some (some true)=>Wp P a K s M
  | some (some false)=>Wp P b K s M
  | some none=>Wp P a K s M∧Wp P b K s M
  | none=>False
 | .fz t a,K,s,M=>match fzS t s M with
  | some p=>Wp P a K p.1 p.2
  | none=>False
def chkC (P:Program) (n:Nat):Code→KC→Bool
 | c,.nrm _ _ _ a=>chkC P n c a
 | c,.fz _ a=>chkC P n c a
 | .skip,.skip=>true
 | .region _ ops dr,.reg _ m es=>m == ops.size&&chkR P ops dr n es
 | .seq a b,.seq a' b'=>chkC P n a a'&&chkC P n b b'
 | .cond c a b,.cond x a' b'=>chkX c x&&chkC P n a a'&&chkC P n b b'
 | .cond c a b,.condu x a' b'=>chkX c x&&chkC P n a a'&&chkC P n b b'
 | .block i a,.block i' a'=>i == i'&&chkC P n a a'
 | .loop a,.loop a'=>chkC P n a a'
 | .exit i,.exit i'=>i == i'
 | .ret,.ret=>true
 | _,_=>false
def KEx.out:KEx→Exit
 | .n=>.normal
 | .ex i=>.exit i
 | .r=>.ret
section
variable {P:Program} {g0:G} {M0:Mem} {w0:World} {Y:Nat→Prop} {n:Nat} {dl:List Deferred} {s:Nat→AV} {M:Mem} {a:Act} {w:World}
 {Q:Exit→Act→World→Prop}
def RC (g0:G) (M0:Mem) (w0:World) (Y:Nat→Prop) (n:Nat) (dl:List Deferred) (s:Nat→AV) (M:Mem) (a:Act) (w:World):Prop :=
 RI g0 M0 w0 Y M.c n dl (fun _=>False) s M a w
theorem RI.bump {m:Nat} {L:Nat→Prop} {ib:Nat} (h:RI g0 M0 w0 Y ib n dl L s M a w) (hL:∀ j,L j→j < m) (hc:ib≤M.c):RC g0 M0 w0 Y n dl s (M.bump (64 * m)) a w:=by
 obtain ⟨g,hI,hS,hsl,hp,hU,hr⟩:=h
 obtain ⟨i2,s2⟩:=Inv.sub (M':=M.bump (64 * m)) (g':=g) hI (fun _ _ h=>h) rfl (fun b h=>.inl h) (fun b h=>.inl h) hI.pb hI.pd (Nat.le_refl _) (Nat.le_refl _)
 refine ⟨g,i2,hS.trans s2,⟨fun t=>SV.stp s2 _ _ (hsl.sl t),hsl.const,hsl.fn⟩,hp,fun id hu=>.inl ?_,hr⟩
 show id < M.c+64 * m
 rcases hU id hu with q|⟨j,q,q1,q2⟩
 · omega
 · have:=hL j q;omega
theorem RC.nrm {t l sz:Nat} (h:RC g0 M0 w0 Y n dl s M a w):RC g0 M0 w0 Y n dl (nrmS t l sz s M).1 (nrmS t l sz s M).2 a w:=by
 unfold nrmS
 split
 · rename_i sz' hst
   split
   · rename_i hsz
     subst hsz
     obtain ⟨g,hI,hS,hsl,hp,hU,hr⟩:=h
     have hu:¬ g.U M.c:=fun h=>by
      rcases hU _ h with q|⟨j,q,_⟩
      · omega
      · exact q
     obtain ⟨i2,s2⟩:=hI.addVirt (l:=l) (id:=M.c) (sz:=sz') (own:=true) hu
     obtain ⟨i3,s3⟩:=Inv.sub (M':=(M.set l (some (.arr M.c true sz' []))).bump 1) (g':=g.add M.c default sz' 0 True []) i2 (fun _ _ h=>h) rfl (fun b h=>.inl h) (fun b h=>.inl h) i2.pb i2.pd (Nat.le_refl _) (Nat.le_refl _)
     have s4:=s2.trans s3
     refine ⟨_,i3,hS.trans s4,⟨fun t'=>?_,hsl.const,hsl.fn⟩,fun b hb=>hp b hb.1,fun id hid=>.inl ?_,hr⟩
     · simp only [upd]
       split
       · rename_i e
         subst e
         have:=hsl.sl t'
         rw [hst] at this
         simp only [SV] at this
         simp only [SV]
         refine ⟨by simp [G.add],by simp [G.add,upd],.inl ⟨by simp [G.add],this,trivial,trivial⟩⟩
       · exact SV.stp s4 _ _ (hsl.sl t')
     · show id < M.c+1
       simp only [G.add] at hid
       rcases hid with hid|hid
       · rcases hU id hid with q|⟨j,q,_⟩
         · omega
         · exact q.elim
       · omega
   · exact h
 · exact h
theorem Zh2 {g:G} {d:D} {v:Value} (h:TV (XA g Y M) false w d v []):SV g Y M w (bindRo d) v:=by
 have go:∀ {d:D},TV (XA g Y M) false w d v []→SV g Y M w (.dat none d) v:=fun h=>by simpa only [SV] using h
 cases d with
 | ptr d=>simp only [bindRo,SV];exact h
 | clo f caps =>
  simp only [TV] at h
  obtain ⟨_,vs,rfl,ht⟩:=h
  simp only [bindRo,SV]
  refine ⟨vs,rfl,?_⟩
  have:∀ (cs:List D) (vs:List Value),TL (XA g Y M) false w cs vs []→SVL g Y M w (cs.map fun c=>match c with|.ptr d=>AV.dp none d|c=>.dat none c) vs:=by
   intro cs
   induction cs with
   | nil=>intro vs h;simp only [TL] at h;simp only [List.map_nil,SVL];exact h.1
   | cons c cs ih =>
    intro vs h
    simp only [TL] at h
    obtain ⟨u,us,F1,F2,rfl,hF,h1,h2⟩:=h
    obtain ⟨rfl,rfl⟩:=List.append_eq_nil_iff.1 hF.symm
    simp only [List.map_cons,SVL]
    refine ⟨u,us,rfl,?_,ih us h2⟩
    cases c with
    | ptr d=>simp only [SV];exact h1
    | _=>simp only [SV];exact h1
  exact this caps vs ht
 | _=>exact go h
theorem ZmQ {X:Nat→Prop} {d:D} {v:Value} (h:TV X false w d v []):TV X false w (sl1 d) v []:=by
 cases d with
 | rs sz xs=>exact (TV.sl_rs h).2
 | _=>exact h
theorem ZlQ {X:Nat→Prop}:∀ {ds:List D} {vs:List Value},TL X false w ds vs []→TL X false w (ds.map sl1) vs []
 | [],vs,h=>by simpa only [List.map_nil,TL] using h
 | d::ds,vs,h=>by
  simp only [TL] at h
  obtain ⟨u,us,F1,F2,rfl,hF,h1,h2⟩:=h
  obtain ⟨rfl,rfl⟩:=List.append_eq_nil_iff.1 hF.symm
  simp only [List.map_cons,TL]
  exact ⟨u,us,[],[],rfl,rfl,ZmQ h1,ZlQ h2⟩
theorem Zqg {X:Nat→Prop} {d:D} {v:Value} (h:TV X false w d v []):TV X false w (slD d) v []:=by
 cases d with
 | agg fs=>simp only [TV,slD] at h ⊢;obtain ⟨vs,h1,h2⟩:=h;exact ⟨vs,h1,ZlQ h2⟩
 | tup fs=>simp only [TV,slD] at h ⊢;obtain ⟨vs,h1,h2⟩:=h;exact ⟨vs,h1,ZlQ h2⟩
 | _=>exact ZmQ h
theorem RC.fzR {t:Nat} {p:(Nat→AV)×Mem} (h:RC g0 M0 w0 Y n dl s M a w) (hf:fzR t s M=some p):RC g0 M0 w0 Y n dl p.1 p.2 a w:=by
 unfold Go.Vm.fzR at hf
 split at hf
 case h_2=>cases hf
 rename_i d M' htk
 cases hf
 obtain ⟨g,hI,hS,hsl,hp,hU,hr⟩:=h
 obtain ⟨g1,F,tk,tv⟩:=ZbF 8 g M _ _ d M' hI (hsl.sl t) htk
 obtain ⟨i2,s2⟩:=tk.inv.clear
 have s3:=tk.stp.trans s2
 have hcool:TV (XA g1.clear Y M') false w d (a.eval (.tmp t)) []:=by
  refine TV.cool d _ F tv ⟨fun b hb hn h=>?_,fun b hb h=>?_⟩
  · exact s2.sameA.out b hb hn h
  · rcases h with h|h|⟨l,o,m1,m2⟩
    · exact (tk.inv.lt b (.inl (tk.inP b hb))).2 h
    · exact h
    · exact tk.inv.pd b (tk.inP b hb) l o m1 m2
 refine ⟨g1.clear,i2,hS.trans s3,⟨fun t'=>?_,hsl.const,hsl.fn⟩,fun _ h=>h,fun id hid=>.inl ?_,hr⟩
 · simp only [upd]
   split
   · rename_i e;subst e;exact Zh2 (Zqg hcool)
   · exact SV.stp s3 _ _ (hsl.sl t')
 · rw [tk.c]
   have:g.U id:=by rw [tk.gh] at hid;exact hid
   rcases hU id this with q|⟨j,q,_⟩
   · exact q
   · exact q.elim
theorem Zq0 {g:G} {cs:List D}:∀ {vs:List Value},TL (XA g Y M) false w cs vs []→SVL g Y M w (cs.map fun d=>.dat none (sl1 d)) vs:=by
 induction cs with
 | nil=>intro vs h;simp only [TL] at h;simp only [List.map_nil,SVL];exact h.1
 | cons c cs ih =>
  intro vs h
  simp only [TL] at h
  obtain ⟨u,us,F1,F2,rfl,hF,h1,h2⟩:=h
  obtain ⟨rfl,rfl⟩:=List.append_eq_nil_iff.1 hF.symm
  simp only [List.map_cons,SVL]
  refine ⟨u,us,rfl,?_,ih h2⟩
  simp only [SV]
  exact ZmQ h1
theorem RC.fxB {l v:Nat} {M':Mem} (h:RC g0 M0 w0 Y n dl s M a w) (hf:fxB l v M=some M'):RC g0 M0 w0 Y n dl s M' a w:=by
 unfold Go.Vm.fxB at hf
 split at hf
 case h_2=>cases hf
 rename_i v' x hm
 split at hf
 case isFalse=>cases hf
 rename_i e
 subst e
 split at hf
 case h_2=>cases hf
 rename_i fs M1 htk
 split at hf
 case h_2=>cases hf
 rename_i ob hm1
 cases hf
 obtain ⟨g,hI,hS,hsl,hp,hU,hr⟩:=h
 have hob:=hI.ob l _ hm
 simp only [OB] at hob
 obtain ⟨hu,hvr,hfp,hsp,_,vv,hrm,hcl,hsv⟩:=hob
 obtain ⟨g1,F,tk,tv⟩:=ZbF 8 g M _ _ _ M1 hI hsv htk
 have e1:ob=.box v' x:=by
  have:=tk.sub l ob hm1
  rw [hm] at this
  exact (Option.some.inj this).symm
 subst e1
 obtain ⟨i2,s2⟩:=tk.inv.clear
 have s3:=tk.stp.trans s2
 have hcool:TV (XA g1.clear Y M1) false w (.agg fs) vv []:=by
  refine TV.cool _ _ F tv ⟨fun b hb hn h=>?_,fun b hb h=>?_⟩
  · exact s2.sameA.out b hb hn h
  · rcases h with h|h|⟨l,o,m1,m2⟩
    · exact (tk.inv.lt b (.inl (tk.inP b hb))).2 h
    · exact h
    · exact tk.inv.pd b (tk.inP b hb) l o m1 m2
 obtain ⟨q1,q2,q3,q4,q5⟩:=s3.gh v' hu
 have hob1:=i2.ob l _ hm1
 simp only [OB] at hob1
 obtain ⟨hu1,hvr1,hfp1,hsp1,_,_,_,_,_⟩:=hob1
 obtain ⟨i3,s4⟩:=i2.drop hm1 (F:=[(g1.clear.AD v').block]) (by intro b hb;simp only [Obj.ver];rw [hfp1];exact hb)
 have hno:∀ l' o',(M1.set l none).m l'=some o'→o'.ver≠v':=by
  intro l' o' hm'
  obtain ⟨q1,q2⟩:=ZbU hm'
  exact (i2.dj l' l o' _ q2 hm1 q1).1
 obtain ⟨vs,hvs,htl⟩:∃ vs:List Value,vv=.agg vs.toArray∧TL (XA g1.clear Y M1) false w fs vs []:=by simpa only [TV] using hcool
 have hsvx:SV g1.clear Y M1 w (.agg (fs.map fun d=>.dat none (sl1 d))) vv:=by
  simp only [SV]
  exact ⟨vs,hvs,Zq0 htl⟩
 obtain ⟨i5,s5⟩:=i3.put (l:=l) (id:=v') (fp:=[(g1.clear.AD v').block]) (o:=.box v' (.agg (fs.map fun d=>.dat none (sl1 d)))) (M':=M1.set l (some (.box v' (.agg (fs.map fun d=>.dat none (sl1 d)))))) mset_set.symm rfl (Nat.le_refl _) (by simp [isArrO]) rfl hu1 hno
  (fun b hb=>.inr hb) (fun b hb _=>.inr ⟨hb,List.mem_singleton.1 hb⟩) (fun st=>by
   simp only [OB]
   refine ⟨hu1,hvr1,by simp [G.put,upd];rfl,hsp1,rfl,vv,?_,?_,SV.stp st _ _ (SV.stp s4 _ _ hsvx)⟩
   · show RM w (g1.clear.AD v') _
     rw [q2];exact hrm
   · show CL w (g1.clear.AD v') _
     rw [q2];exact hcl)
 obtain ⟨i6,s6⟩:=i5.clear
 have sA:=((s3.trans s4).trans s5).trans s6
 refine ⟨_,i6,hS.trans sA,⟨fun t'=>SV.stp sA _ _ (hsl.sl t'),hsl.const,hsl.fn⟩,fun _ h=>h,fun id hid=>.inl ?_,hr⟩
 have hid1:g1.U id:=hid
 have:g.U id:=by rw [tk.gh] at hid1;exact hid1
 show id < M1.c
 rw [tk.c]
 rcases hU id this with q|⟨j,q,_⟩
 · exact q
 · exact q.elim
theorem RC.fz {t:Nat} {p:(Nat→AV)×Mem} (h:RC g0 M0 w0 Y n dl s M a w) (hf:fzS t s M=some p):RC g0 M0 w0 Y n dl p.1 p.2 a w:=by
 unfold fzS at hf
 split at hf
 · split at hf
   · rename_i hb
     cases hf
     exact h.fxB hb
   · cases hf
 · exact h.fzR hf
theorem least {p:Nat→Prop} (h:∃ n,p n):∃ n,p n∧∀ m,p m→n≤m:=by
 obtain ⟨n,hn⟩:=h
 induction n using Nat.strongRecOn with
 | _ n ih =>
  by_cases hm:∃ m,m < n∧p m
  · obtain ⟨m,h1,h2⟩:=hm
    exact ih m h1 h2
  · exact ⟨n,hn,fun m hp=>Nat.le_of_not_lt fun hlt=>hm ⟨m,hlt,hp⟩⟩
theorem ZjK {b:(Nat→AV)→Mem→Prop} {K:Post} {e:KEx} {s:Nat→AV} {M:Mem} (h:Post.seq b K e s M):(e=.n∧b s M)∨(e≠.n∧K e s M):=by
 cases e with
 | n=>exact .inl ⟨rfl,h⟩
 | ex i=>exact .inr ⟨by simp,h⟩
 | r=>exact .inr ⟨by simp,h⟩
theorem Zun {den:Den} {nb ib:Nat} {e:Ent} {lg lg':Lg} {av:AV} {M':Mem} (h:core den nb ib e s M lg=some (av,M',lg')):M'.c=M.c:=by
 unfold core at h
 split at h
 · cases h
 · cases h;rfl
 rename_i hg
 have h':core den nb ib e s M lg=some (av,M',lg'):=by unfold core;rw [hg];exact h
 obtain ⟨N,T,_,_,eM,_,_⟩:=(ZaK hg).1 h'
 rw [eM];rfl
theorem Zk4 {ops:Array Oper} {es:List Ent} {dr:Bool} {id nb:Nat} {K:(Nat→AV)→Mem→Prop} (hc:chkR P ops dr n es=true) (hW:WpE P nb M.c es s M (fun _ _=>false) K)
 (hr:RC g0 M0 w0 Y n dl s M a w) (hQ:∀ s' M' a' w',K s' M'→RC g0 M0 w0 Y n dl s' (M'.bump (64 * ops.size)) a' w'→Q .normal a' w'):(Code.region id ops dr).wp P Q a w:=by
 have hc2:WpE P nb M.c es s M (fun _ _=>false) (fun s' M'=>K s' M'∧M.c≤M'.c):=by
  have:∀ (es:List Ent) (s:Nat→AV) (M1:Mem) (lg:Lg) (K:(Nat→AV)→Mem→Prop) (ib:Nat),M.c≤M1.c→WpE P nb ib es s M1 lg K→WpE P nb ib es s M1 lg (fun s' M'=>K s' M'∧M.c≤M'.c):=by
   intro es
   induction es with
   | nil=>intro s M1 lg K ib hc h;exact ⟨h,hc⟩
   | cons e es ih =>
    intro s M1 lg K ib hc h
    have key:∀ (nb' ib':Nat) (M2:Mem) (k:KO) (J J':AV→Mem→(Nat→Bool)→Prop),(∀ a N T,N.c=M2.c→J a N T→J' a N T)→kstR P s M2 nb' ib' J k→kstR P s M2 nb' ib' J' k:=by
     intro nb' ib' M2 k J J' hJ h
     have hcall:∀ (f:FuncId) (cold:Bool) (args:List (Md×X)),callR P f s M2 nb' ib' cold args J→callR P f s M2 nb' ib' cold args J':=by
      intro f cold args h
      unfold callR at h ⊢
      split at h
      · cases h
      rename_i ds N1 htk
      split at h
      · cases h
      rename_i all hfr
      obtain ⟨r,outs,h1,h2,h⟩:=h
      refine ⟨r,outs,h1,h2,?_⟩
      split at h
      · cases h
      rename_i k' N3 hput
      refine ⟨h.1,hJ _ _ _ ?_ h.2⟩
      obtain ⟨_,_,r1⟩:=Zc5 args M2 N1 M2 ds htk (Le.refl M2)
      obtain ⟨_,_,u3⟩:=Zd5 (nb:=nb') (ib:=ib') (s:=s) (Le.refl M2) args outs 0 k' _ N3 M2 hput
      obtain ⟨_,_,q3⟩:=Zb5 (nb:=nb') (ib:=ib') r k' N3 M2
      have:(if args.any (·.1.own) then N1.tick else N1).c=N1.c:=by split<;>rfl
      rw [q3.c.1,u3.c.1,this,r1.c.1]
     cases k with
     | i x =>
      simp only [kstR] at h ⊢
      split at h
      · rename_i p hp
        have hk:kst (fun _ _ _=>none) s M2 nb' ib' (.i x)=some (p.1,p.2,tgt s nb' x):=by simp only [kst,hp];rfl
        obtain ⟨N',q1,q2⟩:=ZcK hk (Le.refl M2)
        exact hJ _ _ _ q2.c.2 h
      · cases h
     | call f cold args=>exact hcall _ _ _ h
     | ccl x cold args =>
      simp only [kstR] at h ⊢
      split at h
      · exact hcall _ _ _ h
      · exact hcall _ _ _ h
      · cases h
     | tkl n x =>
      simp only [kstR] at h ⊢
      split at h
      case h_2=>cases h
      rename_i p hp
      have hk:kst (fun _ _ _=>none) s M2 nb' ib' (.tkl n x)=some p:=by simp only [kst,hp]
      obtain ⟨N',q1,q2⟩:=ZcK hk (Le.refl M2)
      exact hJ _ _ _ q2.c.2 h
     | fcl f x y =>
      simp only [kstR] at h ⊢
      split at h
      case h_2=>cases h
      obtain ⟨j,hpc,h⟩:=h
      refine ⟨j,hpc,?_⟩
      split at h
      case h_2=>cases h
      rename_i p hp
      have hk:kst (fun _ _ _=>none) s M2 nb' ib' (.i (.fad j x))=some (p.1,p.2,tgt s nb' (.fad j x)):=by simp only [kst,hp];rfl
      obtain ⟨N',q1,q2⟩:=ZcK hk (Le.refl M2)
      exact hJ _ _ _ q2.c.2 h
    simp only [WpE] at h ⊢
    split at h
    · rename_i hp
      rw [if_pos hp]
      unfold exP at h ⊢
      split at h
      · cases h
      · exact ih _ _ _ _ _ hc h
      · exact key _ _ _ _ _ _ (fun a N T hN hJ=>⟨hJ.1,hJ.2.1,hJ.2.2.1,ih _ _ _ _ _ (by rw [hN];exact hc) hJ.2.2.2⟩) h
    · rename_i hp
      rw [if_neg hp]
      unfold exR at h ⊢
      split at h
      · cases h
      · exact ih _ _ _ _ _ hc h
      · exact key _ _ _ _ _ _ (fun a N T hN hJ=>⟨hJ.1,hJ.2.1,ih _ _ _ _ _ hc hJ.2.2⟩) h
  exact this es s M _ K M.c (Nat.le_refl _) hW
 exact ZlD hc hc2 hr fun s' M' a' w' hK hr'=>hQ s' M' a' w' hK.1 (hr'.bump (fun j h=>h) hK.2)
theorem ZaU:∀ (kc:KC) (c:Code) (s:Nat→AV) (M:Mem) (a:Act) (w:World) (K:Post) (Q:Exit→Act→World→Prop),chkC P n c kc=true→Wp P kc K s M→RC g0 M0 w0 Y n dl s M a w →
 (∀ e s' M' a' w',K e s' M'→RC g0 M0 w0 Y n dl s' M' a' w'→Q e.out a' w')→c.wp P Q a w
 | .nrm t l sz kc,c,s,M,a,w,K,Q,hc,h,hr,hQ=>ZaU kc c _ _ a w K Q (by simpa only [chkC] using hc) (by simpa only [Wp] using h) hr.nrm hQ
 | .fz t kc,c,s,M,a,w,K,Q,hc,h,hr,hQ=>by
  simp only [Wp] at h
  split at h
  · rename_i p hp
    exact ZaU kc c _ _ a w K Q (by simpa only [chkC] using hc) h (hr.fz hp) hQ
  · cases h
 | .skip,c,s,M,a,w,K,Q,hc,h,hr,hQ=>by
  cases c<;>simp only [chkC] at hc<;>try (cases hc;done)
  exact wp_skip (hQ .n _ _ _ _ h hr)
 | .exit i,c,s,M,a,w,K,Q,hc,h,hr,hQ=>by
  cases c<;>simp only [chkC] at hc<;>try (cases hc;done)
  simp only [beq_iff_eq] at hc
  subst hc
  exact wp_exit (hQ (.ex _) _ _ _ _ h hr)
 | .ret,c,s,M,a,w,K,Q,hc,h,hr,hQ=>by
  cases c<;>simp only [chkC] at hc<;>try (cases hc;done)
  exact wp_ret (hQ .r _ _ _ _ h hr)
 | .reg nb m es,c,s,M,a,w,K,Q,hc,h,hr,hQ=>by
  cases c<;>simp only [chkC] at hc<;>try (cases hc;done)
  simp only [Bool.and_eq_true,beq_iff_eq] at hc
  obtain ⟨rfl,hc⟩:=hc
  exact Zk4 hc h hr fun s' M' a' w' hK hr'=>hQ .n _ _ _ _ hK hr'
 | .seq x y,c,s,M,a,w,K,Q,hc,h,hr,hQ=>by
  cases c<;>simp only [chkC] at hc<;>try (cases hc;done)
  rename_i c1 c2
  simp only [Bool.and_eq_true] at hc
  refine wp_seq (ZaU x c1 s M a w _ _ hc.1 h hr fun e s' M' a' w' he hr'=>?_)
  rcases ZjK he with ⟨rfl,h2⟩|⟨hne,h2⟩
  · exact ZaU y c2 s' M' a' w' K Q hc.2 h2 hr' hQ
  · have:=hQ e s' M' a' w' h2 hr'
    cases e with
    | n=>exact absurd rfl hne
    | ex i=>exact this
    | r=>exact this
 | .condu x k1 k2,c,s,M,a,w,K,Q,hc,h,hr,hQ=>by
  cases c<;>simp only [chkC] at hc<;>try (cases hc;done)
  rename_i c0 c1 c2
  simp only [Bool.and_eq_true] at hc
  obtain ⟨⟨h0,h1⟩,h2⟩:=hc
  have hr':=hr
  obtain ⟨g,hI,hS,hsl,_⟩:=hr'
  have hsv:=Zaq hsl h0
  simp only [Wp] at h
  have ev:∀ b,asC (x.ev s)=some (some b)→a.eval c0=.bool b:=by
   intro b hb
   unfold asC at hb
   split at hb
   · rename_i b' hx
     cases hb
     rw [hx] at hsv
     simp only [SV,TV] at hsv
     exact hsv.1
   · cases hb
   · cases hb
  have ev2:asC (x.ev s)=some none→∃ b,a.eval c0=.bool b:=by
   intro hb
   unfold asC at hb
   split at hb
   · cases hb
   · rename_i hx
     rw [hx] at hsv
     simp only [SV,TV] at hsv
     exact hsv.1
   · cases hb
  split at h
  · rename_i hb
    exact wp_cond_true (ev _ hb) (ZaU k1 c1 s M a w K Q h1 h hr hQ)
  · rename_i hb
    exact wp_cond_false (ev _ hb) (ZaU k2 c2 s M a w K Q h2 h hr hQ)
  · rename_i hb
    obtain ⟨b,hb⟩:=ev2 hb
    cases b with
    | true=>exact wp_cond_true hb (ZaU k1 c1 s M a w K Q h1 h.1 hr hQ)
    | false=>exact wp_cond_false hb (ZaU k2 c2 s M a w K Q h2 h.2 hr hQ)
  · cases h
 | .cond x k1 k2,c,s,M,a,w,K,Q,hc,h,hr,hQ=>by
  cases c<;>simp only [chkC] at hc<;>try (cases hc;done)
  rename_i c0 c1 c2
  simp only [Bool.and_eq_true] at hc
  obtain ⟨⟨h0,h1⟩,h2⟩:=hc
  have hr':=hr
  obtain ⟨g,hI,hS,hsl,_⟩:=hr'
  have hsv:=Zaq hsl h0
  simp only [Wp] at h
  have ev:∀ b,asC (x.ev s)=some (some b)→a.eval c0=.bool b:=by
   intro b hb
   unfold asC at hb
   split at hb
   · rename_i b' hx
     cases hb
     rw [hx] at hsv
     simp only [SV,TV] at hsv
     exact hsv.1
   · cases hb
   · cases hb
  split at h
  · rename_i hb
    exact wp_cond_true (ev _ hb) (ZaU k1 c1 s M a w K Q h1 h hr hQ)
  · rename_i hb
    exact wp_cond_false (ev _ hb) (ZaU k2 c2 s M a w K Q h2 h hr hQ)
  · cases h
  · cases h
 | .block i k,c,s,M,a,w,K,Q,hc,h,hr,hQ=>by
  cases c<;>simp only [chkC] at hc<;>try (cases hc;done)
  rename_i i' c1
  simp only [Bool.and_eq_true,beq_iff_eq] at hc
  obtain ⟨rfl,hc⟩:=hc
  refine wp_block (ZaU k c1 s M a w _ _ hc h hr fun e s' M' a' w' he hr'=>?_)
  cases e with
  | n=>exact hQ .n _ _ _ _ he hr'
  | r=>exact hQ .r _ _ _ _ he hr'
  | ex j =>
   simp only [Post.blk] at he
   simp only [KEx.out,Exit.inBlock]
   split at he
   · rename_i e;rw [if_pos e];exact hQ .n _ _ _ _ he hr'
   · rename_i e;rw [if_neg e];exact hQ (.ex j) _ _ _ _ he hr'
 | .loop k,c,s,M,a,w,K,Q,hc,h,hr,hQ=>by
  cases c<;>simp only [chkC] at hc<;>try (cases hc;done)
  rename_i c1
  obtain ⟨I,⟨k0,h0⟩,hstep⟩:=h
  classical
  let J:Act→World→Prop:=fun a w=>∃ k s M,I k s M∧RC g0 M0 w0 Y n dl s M a w
  let μ:Act→World→Nat:=fun a w=>if h:J a w then (least h).choose else 0
  refine wp_loop J μ ⟨k0,s,M,h0,hr⟩ fun a w hJ=>?_
  have hμ:μ a w=(least hJ).choose:=dif_pos hJ
  obtain ⟨s1,M1,hI1,hr1⟩:=(least hJ).choose_spec.1
  refine ZaU k c1 s1 M1 a w _ _ hc (hstep _ s1 M1 hI1) hr1 fun e s' M' a' w' he hr'=>?_
  rcases ZjK he with ⟨rfl,k',hlt,hI'⟩|⟨hne,h2⟩
  · have hJ':J a' w':=⟨k',s',M',hI',hr'⟩
    refine ⟨hJ',?_⟩
    rw [hμ,show μ a' w'=(least hJ').choose from dif_pos hJ']
    exact Nat.lt_of_le_of_lt ((least hJ').choose_spec.2 k' ⟨s',M',hI',hr'⟩) hlt
  · have:=hQ e s' M' a' w' h2 hr'
    cases e with
    | n=>exact absurd rfl hne
    | ex i=>exact this
    | r=>exact this
end
end Go.Vm
namespace Go.Vm
open Go
set_option linter.unusedSimpArgs false
set_option linter.unusedVariables false
inductive RV where
 | t (t:Nat)
 | c (t:Nat) (ag:Bool) (n:Nat)
 deriving Inhabited
def resV1 (s:Nat→AV) (M:Mem):RV→Option AV
 | .t t=>if isBad (s t) then none else some (s t)
 | .c t ag n=>(stp s M 0 0 (.load false ag n (.t t))).map (·.1)
def loadOp (t : TypeId) (a : Nat) : Oper := { dst := none, op := .load t (.tmp a), type := t, pos := "", after := #[], guard := none }
def chkRV (P:Program):ResultVar→RV→Bool
 | .tmp t,.t t'=>t == t'
 | .cell a t,.c a' ag n=>a == a'&&chkI P (loadOp t a) (.load false ag n (.t a))
 | _,_=>false
def chkRVs (P:Program):List ResultVar→List RV→Bool
 | [],[]=>true
 | x::xs,y::ys=>chkRV P x y&&chkRVs P xs ys
 | _,_=>false
def bindA (nb ib:Nat):List Md→List D→Nat→Mem→List AV×Nat×Mem
 | md::ms,d::ds,k,M=>if md.own then
  ((bindD nb ib d k M).1::(bindA nb ib ms ds (bindD nb ib d k M).2.1 (bindD nb ib d k M).2.2).1,(bindA nb ib ms ds (bindD nb ib d k M).2.1 (bindD nb ib d k M).2.2).2)
  else (bindRo d::(bindA nb ib ms ds k M).1,(bindA nb ib ms ds k M).2)
 | _,_,k,M=>([],k,M)
def ioA:List Md→List AV→List AV
 | md::ms,a::as=>if md=.io then a::ioA ms as else ioA ms as
 | _,_=>[]
def M00:Mem:={ m:=fun _=>none,e:=0,r:=1,c:=0 }
def slots0 (as:List AV):Nat→AV:=fun t=>(as[t]?).getD .bad
def mkV (vs:List Value):Value:=match vs with
 | [v]=>v
 | vs=>.tuple vs.toArray
def mkR:List D→D
 | [d]=>d
 | ds=>.tup ds
def finP (res:List RV) (ios:List AV) (r:D) (outs:List D):Post:=fun e s M =>
 (match e with|.ex _=>False|_=>True)∧match optL (res.map (resV1 s M)) with
  | none=>False
  | some xs=>match takL (tak 8) (xs++ios) M with
   | none=>False
   | some (all,_)=>mkR (all.take xs.length)=r∧all.drop xs.length=outs
structure FI where
 res:List RV
 code:KC
def chkF (P:Program) (f:FuncId) (k:Nat) (fi:FI):Bool:=match P.funcs[f]? with
 | some fn => fn.name != "runtime.NumGoroutine" && k ≤ fn.ntmps && chkRVs P fn.results.toList fi.res && (match fn.body with | some c => chkC P fn.ntmps c fi.code | none => false)
 | none=>false
def WpF (P:Program) (fi:FI) (ms:List Md) (ds:List D) (r:D) (outs:List D):Prop :=
 Wp P fi.code (finP fi.res (ioA ms (bindA 0 0 ms ds 0 M00).1) r outs) (slots0 (bindA 0 0 ms ds 0 M00).1) ((bindA 0 0 ms ds 0 M00).2.2.bump (bindA 0 0 ms ds 0 M00).2.1)
section
variable {P:Program} {g g0:G} {M0:Mem} {w0:World} {Y:Nat→Prop} {n:Nat} {dl:List Deferred} {s:Nat→AV} {M:Mem} {a:Act} {w:World} {nb ib:Nat}
theorem Zd1:∀ (ms:List Md) (ds:List D) (k:Nat) (M:Mem),k≤(bindA nb ib ms ds k M).2.1
 | [],ds,k,M=>by simp [bindA]
 | m::ms,[],k,M=>by simp [bindA]
 | m::ms,d::ds,k,M=>by
  simp only [bindA]
  split
  · exact Nat.le_trans (Za2 d k M) (Zd1 ms ds _ _)
  · exact Zd1 ms ds k M
theorem Zeh {X:Nat→Prop} (hY:∀ b,Y b→X b):∀ (ms:List Md) (ds:List D) (args:List Value) (F:List Nat) (k:Nat) (g:G) (M:Mem),Inv g Y M w→(∀ b,Own g M b→X b)→AR X w ms ds args F →
 (∀ b∈F,g.P b∧g.PB b)→F.Nodup→(∀ j,k≤j→j < (bindA nb ib ms ds k M).2.1→¬ g.U (ib+j)) →
 ∃ g',Bd g Y M w ib k (bindA nb ib ms ds k M).2.1 F g' (bindA nb ib ms ds k M).2.2∧SVL g' Y (bindA nb ib ms ds k M).2.2 w (bindA nb ib ms ds k M).1 args
 | [],ds,args,F,k,g,M,hI,hX,h,hP,hn,hu=>by
  simp only [AR] at h
  obtain ⟨rfl,rfl,rfl⟩:=h
  exact ⟨g,Bd.refl hI,by simp only [bindA,SVL]⟩
 | m::ms,ds,args,F,k,g,M,hI,hX,h,hP,hn,hu=>by
  simp only [AR] at h
  obtain ⟨d,ds',v,vs',F1,F2,rfl,rfl,rfl,h1,h2⟩:=h
  obtain ⟨n1,n2,n3⟩:=List.nodup_append.1 hn
  have hsame:Same X (XA g Y M) w w F1:=⟨Nat.le_refl _,fun b _ hn hx=>by
   rcases hx with hx|hx
   · exact hn (hY b hx)
   · exact hn (hX b hx),fun _ _ _=>rfl⟩
  simp only [bindA] at hu ⊢
  cases hm:m.own with
  | true =>
   rw [hm] at h1
   simp only [hm,if_true] at hu ⊢
   obtain ⟨g1,b1,s1,_⟩:=ZcB (Y:=Y) (nb:=nb) (ib:=ib) d k g M v F1 hI (TV.stable d v F1 h1 hsame) (fun b hb=>hP b (List.mem_append_left _ hb)) n1 (fun j q1 q2=>hu j q1 (Nat.lt_of_lt_of_le q2 (Zd1 ms ds' _ _)))
   obtain ⟨g2,b2,s2⟩:=Zeh hY ms ds' vs' F2 _ g1 _ b1.inv (fun b hb=>by
    rcases b1.stp.own b hb with q|q
    · exact hX b q
    · exact absurd (b1.inv.lt b hb).1 (by omega)) h2 (fun b hb=>by
    have hnb:b ∉ F1:=fun q=>n3 b q b hb rfl
    exact ⟨b1.p2 b (hP b (List.mem_append_right _ hb)).1 hnb,b1.pb2 b (hP b (List.mem_append_right _ hb)).2 hnb⟩) n2 (fun j q1 q2 hU=>by
    rcases b1.u _ hU with q|q
    · exact hu j (Nat.le_trans (Za2 d k M) q1) q2 q
    · omega)
   refine ⟨g2,b1.trans b2 (Za2 d k M) (Zd1 ms ds' _ _),?_⟩
   simp only [SVL]
   exact ⟨v,vs',rfl,SV.stp b2.stp _ _ s1,s2⟩
  | false =>
   rw [hm] at h1
   simp only [hm,Bool.false_eq_true,if_false] at hu ⊢
   have hF1:=h1.nof
   subst hF1
   obtain ⟨g2,b2,s2⟩:=Zeh hY ms ds' vs' F2 k g M hI hX h2 (fun b hb=>hP b (by simpa using hb)) n2 hu
   refine ⟨g2,by simpa using b2,?_⟩
   simp only [SVL]
   exact ⟨v,vs',rfl,SV.stp b2.stp _ _ (Zh2 (TV.stable d v [] h1 hsame)),s2⟩
theorem SVL.getD:∀ {xs:List AV} {vs:List Value},SVL g Y M w xs vs→∀ t:Nat,SV g Y M w ((xs[t]?).getD .bad) ((vs[t]?).getD undef)
 | [],vs,h,t=>by simp only [List.getElem?_nil,Option.getD_none,SV]
 | x::xs,vs,h,t=>by
  simp only [SVL] at h
  obtain ⟨u,us,rfl,h1,h2⟩:=h
  cases t with
  | zero=>simpa using h1
  | succ t=>simpa using SVL.getD h2 t
theorem ZgK {A:Addr} {v:Value} {w':World} (h:(load A).run P w=.ok v w'):w'=w:=by
 simp only [load,Sem.run] at h
 split at h
 · cases h;rfl
 · split at h
   · cases h;rfl
   · cases h
theorem ZdF {A:Addr}:∀ (n i:Nat) (acc v:Array Value) {w':World},(loadCellsFrom A i n acc).run P w=.ok v w'→w'=w
 | 0,i,acc,v,w',h=>by simp only [loadCellsFrom,Sem.run_pure] at h;cases h;rfl
 | n+1,i,acc,v,w',h=>by
  simp only [loadCellsFrom,Sem.run_bind] at h
  cases hl:(load (A.add i)).run P w with
  | ok u w1 =>
   rw [hl,ZgK hl] at h
   exact ZdF n (i+1) _ v (by simpa only [Result.andThen_ok] using h)
  | halt x w1=>rw [hl] at h;simp [Result.andThen] at h
theorem ZhH {t:TypeId} {A:Addr} {v:Value} {w':World} {i:TypeInfo} (hu:hasU P t=true) (hi:P.info? t=some i) (h:(loadVar t A).run P w=.ok v w'):w'=w:=by
 unfold loadVar at h
 rw [Sem.run_bind,ZfM hu] at h
 simp only [Result.andThen_ok] at h
 split at h
 · simp only [Sem.run_bind,ZcR hi,Result.andThen_ok,loadCells] at h
   cases hl:(loadCellsFrom A 0 i.size #[]).run P w with
   | ok u w1 =>
    rw [hl] at h
    have:=ZdF _ _ _ _ hl
    subst this
    simp only [Result.andThen_ok,Sem.run_pure] at h
    cases h;rfl
   | halt x w1=>rw [hl] at h;simp [Result.andThen] at h
 · exact ZgK h
theorem ZiO {rv:ResultVar} {x:RV} {av:AV} (hc:chkRV P rv x=true) (hI:Inv g Y M w) (hp:∀ b,¬ g.P b) (hsl:Slots g Y M w s a.eval) (hid:∀ id,g.U id→id < ib) (h:resV1 s M x=some av) :
 ∃ v g',((match rv with|.tmp t=>pure (a.tmps.getD t undef)|.cell c t=>do loadVar t (← asAddr (a.tmps.getD c undef)):Sem Value).run P w=.ok v w) ∧
  Inv g' Y M w∧Stp g M w g' M w∧SV g' Y M w av v∧(∀ b,¬ g'.P b)∧(∀ id,g'.U id→id < ib+64):=by
 cases rv with
 | tmp t =>
  cases x with
  | c _ _ _=>simp [chkRV] at hc
  | t t' =>
   simp only [chkRV,beq_iff_eq] at hc
   subst hc
   simp only [resV1] at h
   split at h
   · cases h
   · cases h
     exact ⟨_,g,rfl,hI,Stp.refl _ _ _,hsl.sl t,hp,fun id h=>by have:=hid id h;omega⟩
 | cell c t =>
  cases x with
  | t _=>simp [chkRV] at hc
  | c c' ag n =>
   simp only [chkRV,Bool.and_eq_true,beq_iff_eq] at hc
   obtain ⟨rfl,hc⟩:=hc
   simp only [resV1,Option.map_eq_some_iff] at h
   obtain ⟨⟨av',M'⟩,h,rfl⟩:=h
   have hM:M'=M:=(ZoG (x:=.load false ag n (.t c)) rfl (s:=s) (nb:=0) (ib:=ib) (by simpa only [stp] using h)).1
   subst hM
   obtain ⟨v,w',g',hr,h1,h2,h3,h4,h5⟩:=Zma (ib:=ib) (nb:=0) hc (by simpa only [stp] using h) hI hp hsl (fun k _ hu=>by have:=hid _ hu;omega)
   have hev:a.eval (.tmp c)=a.tmps.getD c undef:=rfl
   suffices hsuf:((do loadVar t (← asAddr (a.tmps.getD c undef)):Sem Value).run P w=.ok v w')∧w'=w by
    obtain ⟨q1,rfl⟩:=hsuf
    refine ⟨v,g',q1,h1,h2,h3,h5,fun id hu=>?_⟩
    rcases h4 id hu with q|q
    · have:=hid id q;omega
    · omega
   · have hc':=hc
     simp only [chkI,loadOp,Bool.and_eq_true] at hc'
     obtain ⟨⟨⟨_,hu0⟩,_⟩,hsz⟩:=hc'
     obtain ⟨i,hi,_⟩:=Zbz hsz
     have key:(execOp a.eval (loadOp t c)).run P w=.ok (.value v) w':=by
      rcases hr with hr|⟨hr,_⟩
      · exact hr
      · exfalso
        simp only [execOp,loadOp,Instr.loadAt,hev] at hr
        cases hA:a.tmps.getD c undef with
        | pointer o =>
         rw [hA] at hr
         cases o with
         | none=>simp [Instr.sureAddr,Sem.run_bind,stuck,Sem.run] at hr
         | some A =>
          simp only [Instr.sureAddr,Sem.run_bind,Sem.run_pure,Result.andThen_ok] at hr
          cases hl:(loadVar t A).run P w with
          | ok v1 w1=>rw [hl] at hr;simp [Result.andThen,Sem.run_pure] at hr
          | halt x w1=>rw [hl] at hr;simp [Result.andThen] at hr
        | _=>rw [hA] at hr;simp [Instr.sureAddr,Sem.run_bind,stuck,Sem.run] at hr
     simp only [execOp,loadOp,Instr.loadAt,hev] at key
     cases hA:a.tmps.getD c undef with
     | pointer o =>
      rw [hA] at key
      cases o with
      | none=>simp [Instr.sureAddr,Sem.run_bind,stuck,Sem.run] at key
      | some A =>
       simp only [Instr.sureAddr,Sem.run_bind,Sem.run_pure,Result.andThen_ok] at key
       simp only [Sem.run_bind,hA,asAddr,Sem.run_pure,Result.andThen_ok]
       cases hl:(loadVar t A).run P w with
       | ok v1 w1=>rw [hl] at key;simp [Result.andThen,Sem.run_pure] at key;obtain ⟨rfl,rfl⟩:=key;exact ⟨rfl,ZhH hu0 hi hl⟩
       | halt x w1=>rw [hl] at key;simp [Result.andThen] at key
     | _=>rw [hA] at key;simp [Instr.sureAddr,Sem.run_bind,stuck,Sem.run] at key
theorem ZgP:∀ (rvs:List ResultVar) (xs:List RV) (avs:List AV) (w:World) (g:G) (ib:Nat),chkRVs P rvs xs=true→Inv g Y M w→(∀ b,¬ g.P b)→Slots g Y M w s a.eval→(∀ id,g.U id→id < ib) →
 optL (xs.map (resV1 s M))=some avs →
 ∃ vs g',(rvs.mapM (fun|.tmp t=>pure (a.tmps.getD t undef)|.cell c t=>do loadVar t (← asAddr (a.tmps.getD c undef)):ResultVar→Sem Value)).run P w=.ok vs w∧vs.length=xs.length ∧
  Inv g' Y M w∧Stp g M w g' M w∧SVL g' Y M w avs vs∧(∀ b,¬ g'.P b)
 | [],[],avs,w,g,ib,hc,hI,hp,hsl,hid,h=>by
  simp only [List.map_nil,optL] at h
  cases h
  exact ⟨[],g,by simp [Sem.run_pure],rfl,hI,Stp.refl _ _ _,by simp only [SVL],hp⟩
 | [],_::_,avs,w,g,ib,hc,hI,hp,hsl,hid,h=>by simp [chkRVs] at hc
 | _::_,[],avs,w,g,ib,hc,hI,hp,hsl,hid,h=>by simp [chkRVs] at hc
 | rv::rvs,x::xs,avs,w,g,ib,hc,hI,hp,hsl,hid,h=>by
  simp only [chkRVs,Bool.and_eq_true] at hc
  simp only [List.map_cons] at h
  cases h1:resV1 s M x with
  | none=>rw [h1] at h;simp [optL] at h
  | some av =>
   rw [h1] at h
   simp only [optL] at h
   split at h
   case h_2=>cases h
   rename_i avs' h2
   cases h
   obtain ⟨v,g1,r1,i1,s1,sv1,p1,u1⟩:=ZiO hc.1 hI hp hsl hid h1
   obtain ⟨vs,g2,r2,l2,i2,s2,sv2,p2⟩:=ZgP rvs xs avs' w g1 (ib+64) hc.2 i1 p1 ⟨fun t=>SV.stp s1 _ _ (hsl.sl t),hsl.const,hsl.fn⟩ u1 h2
   refine ⟨v::vs,g2,?_,by simp [l2],i2,s1.trans s2,?_,p2⟩
   · rw [List.mapM_cons]
     simp only [Sem.run_bind,r1,Result.andThen_ok,r2,Sem.run_pure]
   · simp only [SVL]
     exact ⟨v,vs,rfl,SV.stp s2 _ _ sv1,sv2⟩
theorem TL.split {X:Nat→Prop} {o:Bool} {ys:List D}:∀ {xs:List D} {vs:List Value} {F:List Nat},TL X o w (xs++ys) vs F →
 ∃ v1 v2 F1 F2,vs=v1++v2∧F=F1++F2∧TL X o w xs v1 F1∧TL X o w ys v2 F2
 | [],vs,F,h=>⟨[],vs,[],F,rfl,rfl,by simp only [TL];exact ⟨trivial,trivial⟩,h⟩
 | x::xs,vs,F,h=>by
  simp only [List.cons_append,TL] at h
  obtain ⟨u,us,F1,F2,rfl,rfl,h1,h2⟩:=h
  obtain ⟨v1,v2,G1,G2,rfl,rfl,h3,h4⟩:=TL.split h2
  exact ⟨u::v1,v2,F1++G1,G2,by simp,by simp,by simp only [TL];exact ⟨u,v1,F1,G1,rfl,rfl,h1,h3⟩,h4⟩
theorem TL.length {X:Nat→Prop} {o:Bool}:∀ {xs:List D} {vs:List Value} {F:List Nat},TL X o w xs vs F→vs.length=xs.length
 | [],vs,F,h=>by simp only [TL] at h;simp [h.1]
 | x::xs,vs,F,h=>by
  simp only [TL] at h
  obtain ⟨u,us,F1,F2,rfl,rfl,h1,h2⟩:=h
  simp [TL.length h2]
theorem SVL.length':∀ {xs:List AV} {vs:List Value},SVL g Y M w xs vs→vs.length=xs.length
 | [],vs,h=>by simp only [SVL] at h;simp [h]
 | x::xs,vs,h=>by
  simp only [SVL] at h
  obtain ⟨u,us,rfl,h1,h2⟩:=h
  simp [SVL.length' h2]
theorem Zks:∀ {as:List AV} {M M1:Mem} {ds:List D},takL (tak 8) as M=some (ds,M1)→ds.length=as.length
 | [],M,M1,ds,h=>by simp only [takL] at h;cases h;rfl
 | x::as,M,M1,ds,h=>by
  simp only [takL] at h
  split at h
  case h_2=>cases h
  split at h
  case h_2=>cases h
  rename_i h2
  cases h
  simp [Zks h2]
theorem Zki {α:Type}:∀ {xs:List (Option α)} {ys:List α},optL xs=some ys→ys.length=xs.length
 | [],ys,h=>by simp only [optL] at h;cases h;rfl
 | none::_,ys,h=>by simp [optL] at h
 | some x::l,ys,h=>by
  simp only [optL] at h
  split at h
  · rename_i h2;cases h;simp [Zki h2]
  · cases h
def ioVs:List Md→List Value→List Value
 | md::ms,a::as=>if md=.io then a::ioVs ms as else ioVs ms as
 | _,_=>[]
theorem ZlT:∀ {ms:List Md} {avs:List AV} {vs:List Value},SVL g Y M w avs vs→SVL g Y M w (ioA ms avs) (ioVs ms vs)
 | [],avs,vs,h=>by simp only [ioA,ioVs,SVL]
 | m::ms,[],vs,h=>by simp only [SVL] at h;subst h;simp only [ioA,ioVs,SVL]
 | m::ms,x::avs,vs,h=>by
  simp only [SVL] at h
  obtain ⟨u,us,rfl,h1,h2⟩:=h
  simp only [ioA,ioVs]
  split
  · simp only [SVL];exact ⟨u,_,rfl,h1,ZlT h2⟩
  · exact ZlT h2
theorem Zhg {X:Nat→Prop}:∀ {ms:List Md} {ds:List D} {vs:List Value} {F:List Nat},ms.length=vs.length→TL X true w ds (ioVs ms vs) F→AO X w ms ds vs F
 | [],ds,vs,F,hl,h=>by
  simp only [ioVs] at h
  cases ds with
  | nil=>simp only [TL] at h;simp only [AO];exact h.2
  | cons d ds=>simp only [TL] at h;obtain ⟨_,_,_,_,hh,_⟩:=h;cases hh
 | m::ms,ds,[],F,hl,h=>by simp at hl
 | m::ms,ds,v::vs,F,hl,h=>by
  simp only [ioVs] at h
  simp only [AO]
  refine ⟨v,vs,rfl,?_⟩
  split at h
  · rename_i hm
    rw [if_pos hm]
    cases ds with
    | nil=>simp only [TL] at h;cases h.1
    | cons d ds =>
     simp only [TL] at h
     obtain ⟨u,us,F1,F2,hh,rfl,h1,h2⟩:=h
     cases hh
     exact ⟨d,ds,F1,F2,rfl,rfl,h1,Zhg (by simpa using hl) h2⟩
  · rename_i hm
    rw [if_neg hm]
    exact Zhg (by simpa using hl) h
theorem AR.length {X:Nat→Prop}:∀ {ms:List Md} {ds:List D} {vs:List Value} {F:List Nat},AR X w ms ds vs F→vs.length=ms.length
 | [],ds,vs,F,h=>by simp only [AR] at h;simp [h.2.1]
 | m::ms,ds,vs,F,h=>by
  simp only [AR] at h
  obtain ⟨d,ds',v,vs',F1,F2,rfl,rfl,rfl,h1,h2⟩:=h
  simp [AR.length h2]
theorem AR.lt {X:Nat→Prop}:∀ {ms:List Md} {ds:List D} {vs:List Value} {F:List Nat},AR X w ms ds vs F→∀ b∈F,b < w.heap.size
 | [],ds,vs,F,h=>by simp only [AR] at h;simp [h.2.2]
 | m::ms,ds,vs,F,h=>by
  simp only [AR] at h
  obtain ⟨d,ds',v,vs',F1,F2,rfl,rfl,rfl,h1,h2⟩:=h
  intro b hb
  rcases List.mem_append.1 hb with hb|hb
  · exact TV.lt d v F1 h1 b hb
  · exact AR.lt h2 b hb
theorem Zq1 {X:Nat→Prop} {o:Bool} {ds:List D} {vs:List Value} {F:List Nat} (h:TL X o w ds vs F):TV X o w (mkR ds) (mkV vs) F:=by
 cases ds with
 | nil =>
  simp only [TL] at h
  obtain ⟨rfl,rfl⟩:=h
  simp only [mkR,mkV,TV,TL]
  exact ⟨[],rfl,rfl,trivial⟩
 | cons d ds =>
  have h':=h
  simp only [TL] at h
  obtain ⟨u,us,F1,F2,rfl,rfl,h1,h2⟩:=h
  cases ds with
  | nil =>
   simp only [TL] at h2
   obtain ⟨rfl,rfl⟩:=h2
   simpa [mkR,mkV] using h1
  | cons d2 ds =>
   have h3:=h2
   simp only [TL] at h2
   obtain ⟨u2,us2,G1,G2,rfl,rfl,_,_⟩:=h2
   simp only [mkR,mkV,TV]
   exact ⟨_,rfl,h'⟩
theorem ZiR {fn:Func} {tmps:Array Value} {vs:List Value}
 (h:(fn.results.toList.mapM (fun|.tmp t=>pure (tmps.getD t undef)|.cell c t=>do loadVar t (← asAddr (tmps.getD c undef)):ResultVar→Sem Value)).run P w=.ok vs w) :
 (results fn tmps).run P w=.ok (mkV vs) w:=by
 have e:=congrArg (fun m:Sem (List Value)=>m.run P w) (Array.toList_mapM (xs:=fn.results) (f:=(fun|.tmp t=>pure (tmps.getD t undef)|.cell c t=>do loadVar t (← asAddr (tmps.getD c undef)):ResultVar→Sem Value)))
 rw [h,← bind_pure_comp,Sem.run_bind] at e
 have hres:results fn tmps=(do
  let vs ← fn.results.mapM (fun|.tmp t=>pure (tmps.getD t undef)|.cell c t=>do loadVar t (← asAddr (tmps.getD c undef)):ResultVar→Sem Value)
  pure (if h:vs.size=1 then vs[0] else .tuple vs)):=rfl
 rw [hres,Sem.run_bind]
 cases hx:(fn.results.mapM (fun|.tmp t=>pure (tmps.getD t undef)|.cell c t=>do loadVar t (← asAddr (tmps.getD c undef)):ResultVar→Sem Value)).run P w with
 | halt x w1=>rw [hx] at e;simp [Result.andThen] at e
 | ok x w1 =>
  rw [hx] at e
  simp only [Result.andThen_ok,Sem.run_pure,Result.ok.injEq] at e
  obtain ⟨rfl,rfl⟩:=e
  simp only [Result.andThen_ok,Sem.run_pure]
  congr 1
  obtain ⟨l⟩:=x
  match l with
  | []=>rfl
  | [v]=>rfl
  | v::v2::l=>simp [mkV]
theorem Zq2 {f:FuncId} {fi:FI} {ms:List Md} {ds:List D} {r:D} {outs:List D} (hc:chkF P f ms.length fi=true) (h:WpF P fi ms ds r outs):FCt P f ms ds r outs:=by
 unfold chkF at hc
 split at hc
 case h_2=>cases hc
 rename_i fn hfn
 simp only [Bool.and_eq_true,decide_eq_true_eq] at hc
 obtain ⟨⟨⟨hname,hk⟩,hrv⟩,hc⟩:=hc
 split at hc
 case h_2=>cases hc
 rename_i c hb
 refine ⟨by unfold hasBody;rw [hfn];simp only [Bool.and_eq_true];exact ⟨hname,by rw [hb];rfl⟩,fun Y w args F hY hF hFY har=>?_⟩
 have hal:=har.length
 have hlt:=har.lt
 refine calls_of_wp hfn hb ?_
 let gi:G:={ U:=fun _=>False,AD:=fun _=>default,SZ:=fun _=>0,BS:=fun _=>0,VR:=fun _=>False,FP:=fun _=>[],P:=(·∈F),PB:=(·∈F) }
 have hI0:Inv gi Y M00 w:=by
  refine ⟨?_,?_,?_,?_,fun _ h=>h,hY⟩
  · intro _ _ h;cases h
  · intro _ _ _ _ h;cases h
  · intro b hb
    rcases hb with hb|⟨_,_,h,_⟩
    · exact ⟨hlt b hb,hFY b hb⟩
    · cases h
  · intro _ _ _ _ h;cases h
 obtain ⟨g1,b1,sv1⟩:=Zeh (X:=fun b=>Y b∨b∈F) (nb:=0) (ib:=0) (fun b h=>.inl h) ms ds args F 0 gi M00 hI0 (fun b hb=>by
  rcases hb with hb|⟨_,_,h,_⟩
  · exact .inr hb
  · cases h) har (fun b hb=>⟨hb,hb⟩) hF (fun j _ _ h=>h)
 unfold WpF at h
 generalize (bindA 0 0 ms ds 0 M00)=bnd at h b1 sv1
 obtain ⟨avs,k,M1⟩:=bnd
 simp only at h b1 sv1
 have hp1:∀ b,¬ g1.P b:=fun b hb=>(b1.p1 b hb).2 (b1.p1 b hb).1
 obtain ⟨i2,s2⟩:=Inv.sub (M':=M1.bump k) (g':=g1) b1.inv (fun _ _ h=>h) rfl (fun b h=>.inl h) (fun b h=>.inl h) b1.inv.pb b1.inv.pd (Nat.le_refl _) (Nat.le_refl _)
 have hmc:M1.c=0∨True:=.inr trivial
 have hr:RC g1 (M1.bump k) w Y fn.ntmps [] (slots0 avs) (M1.bump k) { tmps:=args.toArray++Array.replicate (fn.ntmps - args.toArray.size) undef,defers:=[] } w:=by
  refine ⟨g1,i2,Stp.refl _ _ _,⟨fun t=>?_,fun _=>rfl,fun _=>rfl⟩,hp1,fun id hu=>.inl ?_,?_,rfl⟩
  · have q:=SVL.getD (SVL.stp s2 _ _ sv1) t
    have e:Act.eval { tmps:=args.toArray++Array.replicate (fn.ntmps - args.toArray.size) undef,defers:=[] } (.tmp t)=(args[t]?).getD undef:=by
     simp only [Act.eval,Array.getD_eq_getD_getElem?,Array.getElem?_append,Array.getElem?_replicate]
     rcases Nat.lt_or_ge t args.length with hlt|hge
     · simp [hlt]
     · simp [Nat.not_lt.2 hge,List.getElem?_eq_none hge]
       split<;>rfl
    rw [e]
    exact q
  · rcases b1.u id hu with q|q
    · exact q.elim
    · show id < M1.c+k
      omega
  · simp;omega
 refine ZaU fi.code c _ _ _ w _ _ hc h hr fun e s' M' a' w' hK hr'=>?_
 unfold finP at hK
 obtain ⟨he,hK⟩:=hK
 have hpost:(a'.defers=[]∧∃ v,(results fn a'.tmps).run P w'=.ok v w'∧retd (CallRes ms r outs Y w args F) (.returned v) w')→bodyPost P fn (retd (CallRes ms r outs Y w args F)) e.out a' w':=by
  intro hh
  cases e with
  | n=>exact hh
  | r=>exact hh
  | ex i=>exact he.elim
 split at hK
 · cases hK
 rename_i xs hxs
 split at hK
 · cases hK
 rename_i all M2 htk
 obtain ⟨hr1,hr2⟩:=hK
 obtain ⟨g2,j2,t2,sl2,hp2,hU2,hsz2,hdl2⟩:=hr'
 obtain ⟨vs,g3,r3,l3,j3,t3,sv3,hp3⟩:=ZgP fn.results.toList fi.res xs w' g2 M'.c hrv j2 hp2 sl2 (fun id hu=>by
  rcases hU2 id hu with q|⟨j,q,_⟩
  · exact q
  · exact q.elim) hxs
 have svio:SVL g3 Y M' w' (ioA ms avs) (ioVs ms args):=SVL.stp (s2.trans (t2.trans t3)) _ _ (ZlT sv1)
 obtain ⟨g4,F4,tk4,tl4⟩:=Zc6 (ZbF 8) j3 (SVL.append sv3 svio) htk
 have hlen:=Zks htk
 have hxl:=Zki hxs
 simp only [List.length_map] at hxl
 have hsp:all=all.take xs.length++all.drop xs.length:=(List.take_append_drop _ _).symm
 rw [hsp] at tl4
 obtain ⟨v1,v2,Fr,Fo,hvs,rfl,tlr,tlo⟩:=TL.split tl4
 have hv1:v1.length=vs.length:=by
  rw [TL.length tlr,SVL.length' sv3]
  simp only [List.length_take,hlen,List.length_append]
  omega
 obtain ⟨rfl,rfl⟩:=List.append_inj hvs hv1.symm
 rw [hr2] at tlo
 have tAll:Stp gi M00 w g4 M2 w':=b1.stp.trans (s2.trans (t2.trans (t3.trans tk4.stp)))
 have hX:∀ b,b < w'.heap.size→¬ XA g4 Y M2 b→¬ (Y b∨b∈Fr++Fo):=by
  intro b _ hn h
  rcases h with h|h
  · exact hn (.inl h)
  · exact hn (.inr (.inl (tk4.inP b h)))
 have hown0:∀ b,Own gi M00 b→b∈F:=by
  rintro b (hb|⟨_,_,h,_⟩)
  · exact hb
  · cases h
 refine hpost ⟨hdl2,mkV vs,?_,?_⟩
 · exact ZiR r3
 · simp only [retd]
   refine ⟨tAll.size,tAll.io,fun b hb hn=>tAll.heap b hb fun h=>hn (hown0 b h),Fr,Fo,tk4.nd,fun b hb=>?_,?_,?_⟩
   · rcases tAll.own b (.inl (tk4.inP b hb)) with h|h
     · exact .inl (hown0 b h)
     · exact .inr h
   · rw [← hr1]
     have q:=TL.stable _ _ _ tlr ⟨Nat.le_refl _,hX,fun _ _ _=>rfl⟩
     exact Zq1 q
   · exact Zhg hal.symm (TL.stable _ _ _ tlo ⟨Nat.le_refl _,hX,fun _ _ _=>rfl⟩)
end
end Go.Vm
namespace Go.Vm
open Go Go.ChangeShapes Go.WideShapes Go.ChangeAt Go.RowKit
set_option linter.unusedSimpArgs false
set_option linter.unusedVariables false
inductive Ty where
 | int (k:IntKind)
 | bool
 | str
 | sl (e:Ty)
 | st (fs:List Ty)
 deriving Inhabited
def Ty.cells:Ty→Nat
 | .st fs=>fs.length
 | _=>1
mutual
def HasTy:Ty→D→Prop
 | .int k,d=>∃ n,d=.int k n∧(Lit.int k n).wf=true
 | .bool,d=>∃ b,d=.bool b
 | .str,d=>∃ s,d=.str s∧s.size≤maxLen
 | .sl e,d=>∃ xs,d=.sl e.cells xs∧xs.length≤maxLen∧∀ x∈xs,HasTy e x
 | .st fs,d=>∃ xs,d=.agg xs∧HasTys fs xs
def HasTys:List Ty→List D→Prop
 | [],ds=>ds=[]
 | t::ts,ds=>∃ d ds',ds=d::ds'∧HasTy t d∧HasTys ts ds'
end
mutual
def tyOk (P:Program):TypeId→Ty→Bool
 | t,.int k=>(match P.underlying t with|some (.int k')=>k' == k|_=>false)
 | t,.bool=>(match P.underlying t with|some .bool=>true|_=>false)
 | t,.str=>(match P.underlying t with|some .string=>true|_=>false)
 | t,.sl e=>(match P.underlying t with|some (.slice u)=>tyOk P u e&&P.cellsOf u == e.cells|_=>false)&&(match e with|.st []=>false|_=>true)
 | t,.st fs=>(match P.underlying t with|some (.struct gs)=>P.cellsOf t == fs.length&&tysOk P gs.toList fs 0|_=>false)
def tysOk (P:Program):List Field→List Ty→Nat→Bool
 | [],[],_=>true
 | g::gs,t::ts,k=>g.offset == k&&P.cellsOf g.type == 1&&tyOk P g.type t&&(match t with|.st _=>false|_=>true)&&tysOk P gs ts (k+1)
 | _,_,_=>false
end
section
variable {H:Type} {enc:TypeId×Value→H} {P:Program} {w:World}
abbrev X0:Nat→Prop:=fun _=>False
theorem Zpm {a:Addr} {v:Value} (h:w.cell? a=some v):a.spot=none:=by
 cases hs:a.spot with
 | none=>rfl
 | some s =>
  exfalso
  unfold World.cell? at h
  split at h<;>simp [hs] at h
theorem HasTy.size:∀ {τ:Ty} {d:D},HasTy τ d→d.size=τ.cells
 | .int _,_,h=>by simp only [HasTy] at h;obtain ⟨n,rfl,_⟩:=h;rfl
 | .bool,_,h=>by simp only [HasTy] at h;obtain ⟨n,rfl⟩:=h;rfl
 | .str,_,h=>by simp only [HasTy] at h;obtain ⟨n,rfl,_⟩:=h;rfl
 | .sl _,_,h=>by simp only [HasTy] at h;obtain ⟨n,rfl,_⟩:=h;rfl
 | .st fs,_,h=>by
  simp only [HasTy] at h
  obtain ⟨xs,rfl,h⟩:=h
  have:∀ (fs:List Ty) (xs:List D),HasTys fs xs→xs.length=fs.length:=by
   intro fs
   induction fs with
   | nil=>intro xs h;simp only [HasTys] at h;simp [h]
   | cons f fs ih=>intro xs h;simp only [HasTys] at h;obtain ⟨d,ds,rfl,_,h⟩:=h;simp [ih _ h]
  simp only [D.size,Ty.cells,this _ _ h]
mutual
theorem Zi3:∀ (τ:Ty) (t:TypeId) (fuel:Nat) (cs:List Value) (x:DataW H×List MemPlace),tyOk P t τ=true→DataW.trod enc P w 0 (fun _=>true) true fuel t cs=some x →
 ∃ d,HasTy τ d∧TC X0 false w d cs []∧cs.length=τ.cells∧∀ u∈cs,u.oneCell'=true
 | .int k,t,fuel,cs,x,ht,h=>by
  simp only [tyOk] at ht
  split at ht
  · rename_i k' hu
    simp only [beq_iff_eq] at ht
    subst ht
    obtain ⟨n,rfl,_,hw⟩:=DataW.trod_int hu h
    exact ⟨.int k' n,by simp only [HasTy];exact ⟨n,rfl,hw⟩,⟨_,rfl,by simp only [TV];exact ⟨trivial,trivial⟩⟩,rfl,by simp [Value.oneCell']⟩
  · cases ht
 | .bool,t,fuel,cs,x,ht,h=>by
  simp only [tyOk] at ht
  split at ht
  · rename_i hu
    obtain ⟨b,rfl,_⟩:=DataW.trod_bool hu h
    exact ⟨.bool b,by simp only [HasTy];exact ⟨b,rfl⟩,⟨_,rfl,by simp only [TV];exact ⟨trivial,trivial⟩⟩,rfl,by simp [Value.oneCell']⟩
  · cases ht
 | .str,t,fuel,cs,x,ht,h=>by
  simp only [tyOk] at ht
  split at ht
  · rename_i hu
    obtain ⟨s,rfl,_,hs⟩:=DataW.trod_string hu h
    exact ⟨.str s,by simp only [HasTy];exact ⟨s,rfl,hs⟩,⟨_,rfl,by simp only [TV];exact ⟨trivial,trivial⟩⟩,rfl,by simp [Value.oneCell']⟩
  · cases ht
 | .sl e,t,fuel,cs,x,ht,h=>by
  simp only [tyOk,Bool.and_eq_true] at ht
  obtain ⟨ht,hne⟩:=ht
  split at ht
  case h_2=>cases ht
  rename_i u hu
  simp only [Bool.and_eq_true,beq_iff_eq] at ht
  obtain ⟨hte,hce⟩:=ht
  have hpos:0 < e.cells:=by
   cases e with
   | st fs=>cases fs with
    | nil=>simp at hne
    | cons f fs=>simp [Ty.cells]
   | _=>simp [Ty.cells]
  rcases DataW.trod_slice hu h with ⟨rfl,_⟩|⟨a,len,cap,elems,rest,n,_,rfl,_,_,hlc,hcm,hlen,hel,hsp,_⟩
  · exact ⟨.sl e.cells [],by simp only [HasTy];exact ⟨[],rfl,by simp,by simp⟩,⟨_,rfl,by simp only [TV];exact .inl ⟨trivial,.inl rfl,trivial⟩⟩,rfl,by simp [Value.oneCell']⟩
  · rw [hce] at hel hsp
    have each:∀ i,i < len→∃ d us,HasTy e d∧TC X0 false w d us []∧us.length=e.cells∧(∀ u∈us,u.oneCell'=true)∧CL w (a.add (i * e.cells)) us:=by
     intro i hi
     have h1:=hel i hi
     rw [List.getElem?_eq_getElem (by omega)] at h1
     simp only [Option.bind_eq_some_iff] at h1
     obtain ⟨us,h2,h3⟩:=h1
     obtain ⟨d,k1,k2,k3,k4⟩:=Zi3 e u n us _ hte h3
     obtain ⟨_,q1,q2⟩:=World.cells?_some h2
     refine ⟨d,us,k1,k2,k3,k4,fun k v hk=>?_⟩
     have hkl:k < us.length:=(List.getElem?_eq_some_iff.1 hk).1
     rw [q2 k (by omega)];exact hk
    have all:∀ k,k≤len→∃ xs vs,xs.length=k∧(∀ y∈xs,HasTy e y)∧TE X0 false w e.cells xs vs []∧CL w a vs:=by
     intro k
     induction k with
     | zero=>intro _;exact ⟨[],[],rfl,by simp,by simp only [TE];exact ⟨trivial,trivial⟩,fun k v hk=>by simp at hk⟩
     | succ k ih =>
      intro hk
      obtain ⟨xs,vs,e1,e2,e3,e4⟩:=ih (by omega)
      obtain ⟨d,us,f1,f2,f3,f4,f5⟩:=each k (by omega)
      refine ⟨xs++[d],vs++us,by simp [e1],fun y hy=>?_,?_,?_⟩
      · rcases List.mem_append.1 hy with hy|hy
        · exact e2 y hy
        · simp at hy;exact hy▸f1
      · have:=TE.append e3 (TE.one f2 f1.size f4)
        simpa using this
      · refine CL.join e4 ?_
        rw [e3.len,e1];exact f5
    obtain ⟨xs,vs,e1,e2,e3,e4⟩:=all len (Nat.le_refl _)
    refine ⟨.sl e.cells xs,by simp only [HasTy];exact ⟨xs,rfl,by omega,e2⟩,⟨_,rfl,?_⟩,rfl,by simp [Value.oneCell']⟩
    by_cases hcap:cap=0
    · have h0:len=0:=by omega
      subst hcap h0
      have:xs=[]:=List.eq_nil_of_length_eq_zero e1
      subst this
      simp only [TV]
      exact .inl ⟨trivial,.inr ⟨rfl,a,rfl⟩,trivial⟩
    · -- some cell has been read
      have hread:∃ us,w.cells? 0 a e.cells=some us:=by
       by_cases h0:len=0
       · obtain ⟨hr1,hr2⟩:=hsp rfl
         have h1:=hr2 0 (by omega)
         rw [List.getElem?_eq_getElem (by omega)] at h1
         simp only [Option.bind_eq_some_iff] at h1
         obtain ⟨us,h2,_⟩:=h1
         exact ⟨us,by simpa [h0,Addr.add] using h2⟩
       · have h1:=hel 0 (by omega)
         rw [List.getElem?_eq_getElem (by omega)] at h1
         simp only [Option.bind_eq_some_iff] at h1
         obtain ⟨us,h2,_⟩:=h1
         exact ⟨us,by simpa [Addr.add] using h2⟩
      obtain ⟨us,hr⟩:=hread
      have hb:=World.cells?_block hr hpos
      obtain ⟨_,q1,q2⟩:=World.cells?_some hr
      have hsp0:a.spot=none:=by
       have q3:=q2 0 hpos
       rw [List.getElem?_eq_getElem (by omega)] at q3
       exact Zpm (by simpa [Addr.add] using q3)
      simp only [TV]
      exact .inr ⟨a,cap,vs,by rw [e1],hsp0,by omega,hb,e4,.inr ⟨trivial,fun h=>h,e3⟩⟩
 | .st fs,t,fuel,cs,x,ht,h=>by
  simp only [tyOk] at ht
  split at ht
  case h_2=>cases ht
  rename_i gs hu
  simp only [Bool.and_eq_true,beq_iff_eq] at ht
  obtain ⟨hc,hts⟩:=ht
  obtain ⟨xs,n,_,_,hl,hlen,hf⟩:=DataW.trod_struct hu h
  have hcl:cs.length=fs.length:=by rw [hl,hc]
  obtain ⟨ds,h1,h2,h3⟩:=trods_tc fs gs.toList n cs xs 0 hts (by omega) (fun i f hi=>hf i f (by simpa using hi)) (by rw [hlen];simp)
  refine ⟨.agg ds,by simp only [HasTy];exact ⟨ds,rfl,h1⟩,?_,hcl,by simpa using h3⟩
  simpa [TC] using h2
theorem trods_tc:∀ (fs:List Ty) (gs:List Field) (n:Nat) (cs:List Value) (xs:List (DataW H×List MemPlace)) (k:Nat),tysOk P gs fs k=true→cs.length=k+fs.length →
 (∀ (i:Nat) (f:Field),gs[i]? = some f→DataW.trod enc P w 0 (fun _=>true) true n f.type ((cs.drop f.offset).take (P.cellsOf f.type))=xs[i]?)→xs.length=gs.length →
 ∃ ds,HasTys fs ds∧TL X0 false w ds (cs.drop k) []∧∀ u∈cs.drop k,u.oneCell'=true
 | [],[],n,cs,xs,k,ht,hl,hf,hx=>by
  have:cs.drop k=[]:=List.drop_eq_nil_of_le (by simp at hl;omega)
  rw [this]
  exact ⟨[],by simp only [HasTys],by simp only [TL];exact ⟨trivial,trivial⟩,by simp⟩
 | [],_::_,n,cs,xs,k,ht,hl,hf,hx=>by simp [tysOk] at ht
 | _::_,[],n,cs,xs,k,ht,hl,hf,hx=>by simp [tysOk] at ht
 | τ::fs,g::gs,n,cs,xs,k,ht,hl,hf,hx=>by
  simp only [tysOk,Bool.and_eq_true,beq_iff_eq] at ht
  obtain ⟨⟨⟨⟨hoff,hcell⟩,hty⟩,hns⟩,hrest⟩:=ht
  have h0:=hf 0 g rfl
  rw [List.getElem?_eq_getElem (by simp at hx;omega),hoff,hcell] at h0
  have hk:k < cs.length:=by simp at hl;omega
  have hdrop:cs.drop k=cs[k]::cs.drop (k+1):=List.drop_eq_getElem_cons hk
  have htk:(cs.drop k).take 1=[cs[k]]:=by rw [hdrop];rfl
  rw [htk] at h0
  obtain ⟨d,k1,k2,k3,k4⟩:=Zi3 τ g.type n _ _ hty h0
  have hag:isAgD d=false:=by
   cases τ with
   | st _=>simp at hns
   | int k=>simp only [HasTy] at k1;obtain ⟨n,rfl,_⟩:=k1;rfl
   | bool=>simp only [HasTy] at k1;obtain ⟨n,rfl⟩:=k1;rfl
   | str=>simp only [HasTy] at k1;obtain ⟨n,rfl,_⟩:=k1;rfl
   | sl e=>simp only [HasTy] at k1;obtain ⟨n,rfl,_⟩:=k1;rfl
  obtain ⟨u,hu,htv⟩:=(TC.mk hag).1 k2
  cases xs with
  | nil=>simp at hx
  | cons x xs =>
   obtain ⟨ds,m1,m2,m3⟩:=trods_tc fs gs n cs xs (k+1) hrest (by simp at hl ⊢;omega) (fun i f hi=>by have:=hf (i+1) f (by simpa using hi);simpa using this) (by simpa using hx)
   refine ⟨d::ds,by simp only [HasTys];exact ⟨d,ds,rfl,k1,m1⟩,?_,?_⟩
   · rw [hdrop]
     simp only [TL]
     simp at hu
     exact ⟨cs[k],_,[],[],rfl,rfl,by rw [hu];exact htv,m2⟩
   · rw [hdrop]
     intro v hv
     rcases List.mem_cons.1 hv with rfl|hv
     · exact k4 _ (by simp)
     · exact m3 v hv
end
theorem ZhW {t:TypeId} {v:Value} {r:Reach} {base:Nat} {τ:Ty} (ht:tyOk P t τ=true) (h:Value.okWide P w r base t v) {d:D} (hd:HasTy τ d) (hc:TC X0 false w d v.cells.toList []):TV X0 false w d v []:=by
 have one:(∀ fs,τ≠.st fs)→v.cells = #[v]→TV X0 false w d v []:=by
  intro hne hv
  have hag:isAgD d=false:=by
   cases τ with
   | st fs=>exact absurd rfl (hne fs)
   | int k=>simp only [HasTy] at hd;obtain ⟨n,rfl,_⟩:=hd;rfl
   | bool=>simp only [HasTy] at hd;obtain ⟨n,rfl⟩:=hd;rfl
   | str=>simp only [HasTy] at hd;obtain ⟨n,rfl,_⟩:=hd;rfl
   | sl e=>simp only [HasTy] at hd;obtain ⟨n,rfl,_⟩:=hd;rfl
  obtain ⟨u,hu,htv⟩:=(TC.mk hag).1 hc
  rw [hv] at hu
  simp at hu
  rw [hu];exact htv
 cases τ with
 | st fs =>
  simp only [tyOk] at ht
  split at ht
  case h_2=>cases ht
  rename_i gs hu
  simp only [Value.okWide,hu] at h
  obtain ⟨cs,rfl,_⟩:=h
  simp only [HasTy] at hd
  obtain ⟨xs,rfl,_⟩:=hd
  simp only [TV]
  exact ⟨cs.toList,by simp,by simpa [TC,Value.cells] using hc⟩
 | int k =>
  refine one (by simp) ?_
  simp only [tyOk] at ht
  split at ht
  · rename_i hu;obtain ⟨n,rfl⟩:=okWide_int hu h;rfl
  · cases ht
 | bool =>
  refine one (by simp) ?_
  simp only [tyOk] at ht
  split at ht
  · rename_i hu;obtain ⟨n,rfl⟩:=okWide_bool hu h;rfl
  · cases ht
 | str =>
  refine one (by simp) ?_
  simp only [tyOk] at ht
  split at ht
  · rename_i hu;obtain ⟨n,rfl⟩:=okWide_string hu h;rfl
  · cases ht
 | sl e =>
  refine one (by simp) ?_
  simp only [tyOk,Bool.and_eq_true] at ht
  obtain ⟨ht,_⟩:=ht
  split at ht
  · rename_i hu;obtain ⟨a,l,c,rfl⟩:=okWide_slice hu h;rfl
  · cases ht
def tysAll (P:Program):List TypeId→List Ty→Bool
 | [],[]=>true
 | t::ts,τ::τs=>tyOk P t τ&&P.readableRec t&&decide (t < P.types.size)&&tysAll P ts τs
 | _,_=>false
theorem ZmC {r:Reach} {base:Nat}:∀ (ts:List TypeId) (τs:List Ty) (vs:List Value) (ds:List (DataW H)) (p:List MemPlace),tysAll P ts τs=true→DataW.TrodAll enc P w 0 (fun _=>true) true ts vs ds p →
 (∀ (j:Nat) t v,ts[j]? = some t→vs[j]? = some v→Value.okWide P w r base t v)→∃ Ds,HasTys τs Ds∧AR (fun b=>X0 b∨b∈[]) w (τs.map fun _=>Md.ro) Ds vs []∧ds.length=τs.length
 | [],[],[],[],p,ht,h,hv=>⟨[],by simp only [HasTys],by simp only [List.map_nil,AR];exact ⟨trivial,trivial,trivial⟩,rfl⟩
 | t::ts,τ::τs,v::vs,d::ds,p,ht,h,hv=>by
  simp only [tysAll,Bool.and_eq_true] at ht
  obtain ⟨q1,q2,⟨fuel,h1⟩,h2,rfl⟩:=h
  obtain ⟨D1,k1,k2,_,_⟩:=Zi3 τ t fuel _ _ ht.1.1.1 h1
  have htv:=ZhW ht.1.1.1 (hv 0 t v rfl rfl) k1 k2
  obtain ⟨Ds,m1,m2,m3⟩:=ZmC ts τs vs ds q2 ht.2 h2 (fun j t v hj hv'=>hv (j+1) t v (by simpa using hj) (by simpa using hv'))
  refine ⟨D1::Ds,by simp only [HasTys];exact ⟨D1,Ds,rfl,k1,m1⟩,?_,by simp [m3]⟩
  simp only [List.map_cons,AR]
  exact ⟨D1,Ds,v,vs,[],[],rfl,rfl,rfl,TV.stable _ _ _ htv ⟨Nat.le_refl _,fun b _ _ h=>h.elim (fun h=>h) (fun h=>nomatch h),fun _ _ _=>rfl⟩,m2⟩
 | [],_::_,_,_,p,ht,h,hv=>by simp [tysAll] at ht
 | _::_,[],_,_,p,ht,h,hv=>by simp [tysAll] at ht
 | [],[],_::_,_,p,ht,h,hv=>by simp [DataW.TrodAll] at h
 | [],[],[],_::_,p,ht,h,hv=>by simp [DataW.TrodAll] at h
 | _::_,_::_,[],_,p,ht,h,hv=>by simp [DataW.TrodAll] at h
 | _::_,_::_,_::_,[],p,ht,h,hv=>by simp [DataW.TrodAll] at h
theorem ZeB {w':World} (hl:laidOutB P=true) (hb:RowKit.Below w.heap.size w w'):∀ (ts:List TypeId) (τs:List Ty) (vs:List Value) (ds:List (DataW H)) (p:List MemPlace),tysAll P ts τs=true →
 DataW.TrodAll enc P w 0 (fun _=>true) true ts vs ds p→DataW.TrodAll enc P w' 0 (fun b=>decide (b < w.heap.size)) true ts vs ds p
 | [],[],[],[],p,ht,h=>by simpa [DataW.TrodAll] using h
 | t::ts,τ::τs,v::vs,d::ds,p,ht,h=>by
  simp only [tysAll,Bool.and_eq_true,decide_eq_true_eq] at ht
  obtain ⟨q1,q2,h1,h2,rfl⟩:=h
  refine ⟨q1,q2,RowKit.Below.trod hl ht.1.1.2 ht.1.2 h1 hb ?_,ZeB hl hb ts τs vs ds q2 ht.2 h2,rfl⟩
  obtain ⟨m,hm⟩:=h1
  exact DataW.trod_lt m _ _ _ hm
 | [],_::_,_,_,p,ht,h=>by simp [tysAll] at ht
 | _::_,[],_,_,p,ht,h=>by simp [tysAll] at ht
 | [],[],_::_,_,p,ht,h=>by simp [DataW.TrodAll] at h
 | [],[],[],_::_,p,ht,h=>by simp [DataW.TrodAll] at h
 | _::_,_::_,[],_,p,ht,h=>by simp [DataW.TrodAll] at h
 | _::_,_::_,_::_,[],p,ht,h=>by simp [DataW.TrodAll] at h
end
theorem law_contract {C:Checked} {f:FuncId} {fn:Func} {s:ChangeSpec} (τs:List Ty) {rt:TypeId} (hres:fn.resultTypes = #[rt]) (hrt:C.prog.underlying rt=some .bool) (hvars:s.vars=[])
 (hty:tysAll C.prog fn.params.toList τs=true) (hl:laidOutB C.prog=true) (hspec:∀ (H:Type) (ds:List (DataW H)),ds.length=τs.length→s.fn H ds = { results:=[.lit (.bool true)],args:=ds })
 (hfc:∀ ds,HasTys τs ds→FCt C.prog f (τs.map fun _=>Md.ro) ds (.bool true) []) {H:Type} {enc:TypeId×Value→H} {W:World} {base:Nat} {args:Array Value} {ds gs:List (DataW H)} {before:List MemPlace}
 (hval:∀ (j:Nat) t v,fn.params[j]? = some t→args[j]? = some v→Value.okWide C.prog W .any base t v) (hW:DataW.Whole enc C.prog fn.params.toList s.vars false W args.toList ds gs before) :
 Calls C.prog f args W fun e W'=>∃ v,e=.returned v∧s.post enc C.prog fn false true false false W args v W':=by
 have hW':=hW
 obtain ⟨p,q,hA,hV,rfl,hfz,hnd⟩:=hW
 rw [hvars] at hV
 cases gs with
 | cons g gs=>simp [DataW.TrodVars] at hV
 | nil =>
  simp only [DataW.TrodVars] at hV
  obtain ⟨Ds,h1,h2,h3⟩:=ZmC fn.params.toList τs args.toList ds p hty hA (fun j t v hj hv=>hval j t v (by simpa using hj) (by simpa using hv))
  have hc:=(hfc Ds h1).2 X0 W args.toList [] (fun b h=>h.elim) List.nodup_nil (by simp) h2
  rw [Array.toArray_toList] at hc
  refine Calls.mono hc fun e W' he=>?_
  cases e with
  | panicked _=>exact he.elim
  | outgrown=>exact he.elim
  | returned v =>
   simp only [retd] at he
   obtain ⟨hsize,hio,hheap,Fr,Fo,hnd2,hnew,htv,hao⟩:=he
   simp only [TV] at htv
   obtain ⟨rfl,_⟩:=htv
   have bel:RowKit.Below W.heap.size W W':=⟨hio.1,hio.2.2.1,hio.2.1,hsize,fun k hk=>hheap k hk (by simp)⟩
   refine ⟨_,rfl,ds,[],_,[],p,[],hW',?_,?_,?_,bel.frame _,fun h=>by cases h⟩
   · rw [List.append_nil,hspec H ds h3,hres]
     exact trodAll_mk1 (shut_bool hrt _)
   · rw [List.append_nil,hspec H ds h3]
     exact ZeB hl bel fn.params.toList τs args.toList ds p hty hA
   · rw [List.append_nil,hspec H ds h3,hvars];rfl
end Go.Vm
namespace Go.Vm
open Go
set_option linter.unusedSimpArgs false
set_option linter.unusedVariables false
def E0 (j:Nat) (d:Option Nat) (g:Option (Nat×Bool)) (k:KO):Ent:={ j:=j,d:=d,g:=g,k:=k }
def E2 (j:Nat) (d:Option Nat) (g:Option (Nat×Bool)) (k:KO):Ent:={ j:=j,d:=d,g:=g,k:=k,kd:=2 }
def ER (j:Nat) (d:Option Nat) (g:Option (Nat×Bool)) (x:I):Ent:={ j:=j,d:=d,g:=g,k:=.i x,kd:=2 }
section
variable {P:Program} {s:Nat→AV} {M:Mem} {nb ib:Nat}
theorem Ze1 {f:FuncId} {cold:Bool} {args:List (Md×X)} {K K':AV→Mem→(Nat→Bool)→Prop} (h:callR P f s M nb ib cold args K) (hk:∀ a N T,K a N T→K' a N T):callR P f s M nb ib cold args K':=by
 unfold callR at h ⊢
 split at h
 · cases h
 split at h
 · cases h
 obtain ⟨r,outs,h1,h2,h⟩:=h
 refine ⟨r,outs,h1,h2,?_⟩
 split at h
 · cases h
 exact ⟨h.1,hk _ _ _ h.2⟩
theorem Zck {k:KO} {K K':AV→Mem→(Nat→Bool)→Prop} (h:kstR P s M nb ib K k) (hk:∀ a N T,K a N T→K' a N T):kstR P s M nb ib K' k:=by
 cases k with
 | i x=>simp only [kstR] at h ⊢;split at h;exact hk _ _ _ h;cases h
 | call f cold args=>exact Ze1 h hk
 | ccl x cold args =>
  simp only [kstR] at h ⊢
  split at h
  · exact Ze1 h hk
  · exact Ze1 h hk
  · cases h
 | tkl n x=>simp only [kstR] at h ⊢;split at h;exact hk _ _ _ h;cases h
 | fcl f x y =>
  simp only [kstR] at h ⊢
  split at h
  case h_2=>cases h
  obtain ⟨j,hpc,h⟩:=h
  refine ⟨j,hpc,?_⟩
  split at h
  · exact hk _ _ _ h
  · cases h
theorem Zcz:∀ (es:List Ent) (s:Nat→AV) (M:Mem) (lg:Lg) {K K':(Nat→AV)→Mem→Prop},WpE P nb ib es s M lg K→(∀ s M,K s M→K' s M)→WpE P nb ib es s M lg K'
 | [],s,M,lg,K,K',h,hk=>hk _ _ h
 | e::es,s,M,lg,K,K',h,hk=>by
  simp only [WpE] at h ⊢
  split at h
  · rename_i hp
    rw [if_pos hp]
    unfold exP at h ⊢
    split at h
    · cases h
    · exact Zcz es _ _ _ h hk
    · exact Zck h fun a N T hh=>⟨hh.1,hh.2.1,hh.2.2.1,Zcz es _ _ _ hh.2.2.2 hk⟩
  · rename_i hp
    rw [if_neg hp]
    unfold exR at h ⊢
    split at h
    · cases h
    · exact Zcz es _ _ _ h hk
    · exact Zck h fun a N T hh=>⟨hh.1,hh.2.1,Zcz es _ _ _ hh.2.2 hk⟩
theorem Zaw:∀ (c:KC) (s:Nat→AV) (M:Mem) {K K':Post},Wp P c K s M→(∀ e s M,K e s M→K' e s M)→Wp P c K' s M
 | .skip,s,M,K,K',h,hk=>hk _ _ _ h
 | .reg nb n es,s,M,K,K',h,hk=>Zcz es s M _ h fun s M=>hk _ _ _
 | .seq a b,s,M,K,K',h,hk=>Zaw a s M (K':=Post.seq (Wp P b K') K') h fun e s M he=>by
  cases e with
  | n=>exact Zaw b s M he hk
  | ex i=>exact hk _ _ _ he
  | r=>exact hk _ _ _ he
 | .condu x a b,s,M,K,K',h,hk=>by
  simp only [Wp] at h ⊢
  split at h
  · exact Zaw a s M h hk
  · exact Zaw b s M h hk
  · exact ⟨Zaw a s M h.1 hk,Zaw b s M h.2 hk⟩
  · cases h
 | .cond x a b,s,M,K,K',h,hk=>by
  simp only [Wp] at h ⊢
  split at h
  · exact Zaw a s M h hk
  · exact Zaw b s M h hk
  · cases h
  · cases h
 | .block i a,s,M,K,K',h,hk=>Zaw a s M (K':=Post.blk i K') h fun e s M he=>by
  cases e with
  | n=>exact hk _ _ _ he
  | r=>exact hk _ _ _ he
  | ex j=>simp only [Post.blk] at he ⊢;split at he<;>rename_i q<;>simp only [q,if_true,if_false]<;>exact hk _ _ _ he
 | .loop a,s,M,K,K',h,hk=>by
  obtain ⟨I,h0,hs⟩:=h
  refine ⟨I,h0,fun k s M hI=>Zaw a s M (hs k s M hI) fun e s M he=>?_⟩
  cases e with
  | n=>exact he
  | ex i=>exact hk _ _ _ he
  | r=>exact hk _ _ _ he
 | .exit i,s,M,K,K',h,hk=>hk _ _ _ h
 | .ret,s,M,K,K',h,hk=>hk _ _ _ h
 | .nrm t l sz a,s,M,K,K',h,hk=>Zaw a _ _ (K:=K) (K':=K') (by simpa only [Wp] using h) hk
 | .fz t a,s,M,K,K',h,hk=>by
  simp only [Wp] at h ⊢
  split at h
  · exact Zaw a _ _ h hk
  · cases h
def dsE:List Ent→List Nat
 | []=>[]
 | e::es=>(match e.d with|some d=>d::dsE es|none=>dsE es)
def KC.ws:KC→List Nat
 | .reg _ _ es=>dsE es
 | .seq a b=>a.ws++b.ws
 | .cond _ a b|.condu _ a b=>a.ws++b.ws
 | .block _ a|.loop a=>a.ws
 | .nrm t _ _ a|.fz t a=>t::a.ws
 | _=>[]
def Off (ws:List Nat) (s s':Nat→AV):Prop:=∀ t,ws.contains t=false→s' t=s t
theorem Off.refl {ws:List Nat} {s:Nat→AV}:Off ws s s:=fun _ _=>rfl
theorem Off.trans {ws:List Nat} {s s1 s2:Nat→AV} (a:Off ws s s1) (b:Off ws s1 s2):Off ws s s2:=fun t h=>(b t h).trans (a t h)
theorem Off.mono {ws ws':List Nat} {s s1:Nat→AV} (a:Off ws s s1) (h:∀ t,t∈ws→t∈ws'):Off ws' s s1:=fun t ht=>a t (by
 simp only [List.contains_eq_mem,decide_eq_false_iff_not] at ht ⊢;exact fun hh=>ht (h t hh))
theorem Zhh {d:Option Nat} {a:AV} {ws:List Nat} (h:∀ x,d=some x→x∈ws):Off ws s (updO s d a):=by
 intro t ht
 cases d with
 | none=>rfl
 | some d =>
  simp only [updO,upd]
  split
  · rename_i e
    subst e
    have:=h t rfl
    simp only [List.contains_eq_mem,decide_eq_false_iff_not] at ht
    exact absurd this ht
  · rfl
theorem ZiJ:∀ (es:List Ent) (s:Nat→AV) (M:Mem) (lg:Lg) {K:(Nat→AV)→Mem→Prop},WpE P nb ib es s M lg K→WpE P nb ib es s M lg (fun s' M'=>K s' M'∧Off (dsE es) s s')
 | [],s,M,lg,K,h=>⟨h,Off.refl⟩
 | e::es,s,M,lg,K,h=>by
  have hm:∀ x,e.d=some x→x∈dsE (e::es):=by
   intro x hx;simp only [dsE];rw [hx];exact List.mem_cons_self
  have hs:∀ t,t∈dsE es→t∈dsE (e::es):=by
   intro t ht;simp only [dsE];split
   · exact List.mem_cons_of_mem _ ht
   · exact ht
  have go:∀ (a:AV) (M:Mem) (lg:Lg),WpE P nb ib es (updO s e.d a) M lg K→WpE P nb ib es (updO s e.d a) M lg (fun s' M'=>K s' M'∧Off (dsE (e::es)) s s'):=fun a M lg h =>
   Zcz es _ _ _ (ZiJ es _ _ _ h) fun s' M' hh=>⟨hh.1,(Zhh hm).trans (hh.2.mono hs)⟩
  simp only [WpE] at h ⊢
  split at h
  · rename_i hp
    rw [if_pos hp]
    unfold exP at h ⊢
    split at h
    · cases h
    · exact go _ _ _ h
    · exact Zck h fun a N T hh=>⟨hh.1,hh.2.1,hh.2.2.1,go _ _ _ hh.2.2.2⟩
  · rename_i hp
    rw [if_neg hp]
    unfold exR at h ⊢
    split at h
    · cases h
    · exact go _ _ _ h
    · exact Zck h fun a N T hh=>⟨hh.1,hh.2.1,go _ _ _ hh.2.2⟩
theorem nrmS_off {t l sz:Nat}:Off [t] s (nrmS t l sz s M).1:=by
 unfold nrmS
 split
 · split
   · exact Zhh (d:=some t) (by simp)
   · exact Off.refl
 · exact Off.refl
theorem ZpD {t:Nat} {p:(Nat→AV)×Mem} (h:fzS t s M=some p):Off [t] s p.1:=by
 unfold fzS at h
 split at h
 · split at h
   · cases h;exact Off.refl
   · cases h
 · unfold fzR at h
   split at h
   · cases h;exact Zhh (d:=some t) (by simp)
   · cases h
theorem ZcP:∀ (c:KC) (s:Nat→AV) (M:Mem) {K:Post},Wp P c K s M→Wp P c (fun e s' M'=>K e s' M'∧Off c.ws s s') s M
 | .skip,s,M,K,h=>⟨h,Off.refl⟩
 | .reg nb n es,s,M,K,h=>Zcz es s M _ (ZiJ es s M _ h) fun s' M' hh=>hh
 | .seq a b,s,M,K,h=>Zaw a s M (K':=Post.seq (Wp P b (fun e s' M'=>K e s' M'∧Off (KC.seq a b).ws s s')) (fun e s' M'=>K e s' M'∧Off (KC.seq a b).ws s s')) (ZcP a s M h) fun e s1 M1 he=>by
  cases e with
  | n=>exact Zaw b s1 M1 (ZcP b s1 M1 he.1) fun e s2 M2 h2=>⟨h2.1,(he.2.mono fun t ht=>List.mem_append_left _ ht).trans (h2.2.mono fun t ht=>List.mem_append_right _ ht)⟩
  | ex i=>exact ⟨he.1,he.2.mono fun t ht=>List.mem_append_left _ ht⟩
  | r=>exact ⟨he.1,he.2.mono fun t ht=>List.mem_append_left _ ht⟩
 | .condu x a b,s,M,K,h=>by
  simp only [Wp] at h ⊢
  split at h
  · exact Zaw a s M (ZcP a s M h) fun e s1 M1 h1=>⟨h1.1,h1.2.mono fun t ht=>List.mem_append_left _ ht⟩
  · exact Zaw b s M (ZcP b s M h) fun e s1 M1 h1=>⟨h1.1,h1.2.mono fun t ht=>List.mem_append_right _ ht⟩
  · exact ⟨Zaw a s M (ZcP a s M h.1) fun e s1 M1 h1=>⟨h1.1,h1.2.mono fun t ht=>List.mem_append_left _ ht⟩,Zaw b s M (ZcP b s M h.2) fun e s1 M1 h1=>⟨h1.1,h1.2.mono fun t ht=>List.mem_append_right _ ht⟩⟩
  · cases h
 | .cond x a b,s,M,K,h=>by
  simp only [Wp] at h ⊢
  split at h
  · exact Zaw a s M (ZcP a s M h) fun e s1 M1 h1=>⟨h1.1,h1.2.mono fun t ht=>List.mem_append_left _ ht⟩
  · exact Zaw b s M (ZcP b s M h) fun e s1 M1 h1=>⟨h1.1,h1.2.mono fun t ht=>List.mem_append_right _ ht⟩
  · cases h
  · cases h
 | .block i a,s,M,K,h=>Zaw a s M (K':=Post.blk i (fun e s' M'=>K e s' M'∧Off (KC.block i a).ws s s')) (ZcP a s M h) fun e s1 M1 he=>by
  cases e with
  | n=>exact he
  | r=>exact he
  | ex j =>
   obtain ⟨he,ho⟩:=he
   simp only [Post.blk] at he ⊢
   split at he<;>rename_i q<;>simp only [q,if_true,if_false]<;>exact ⟨he,ho⟩
 | .loop a,s,M,K,h=>by
  obtain ⟨I,⟨k0,h0⟩,hs⟩:=h
  refine ⟨fun k s' M'=>I k s' M'∧Off a.ws s s',⟨k0,h0,Off.refl⟩,fun k s1 M1 hI=>Zaw a s1 M1 (ZcP a s1 M1 (hs k s1 M1 hI.1)) fun e s2 M2 he=>?_⟩
  obtain ⟨he,ho⟩:=he
  cases e with
  | n=>obtain ⟨k',hlt,hI'⟩:=he;exact ⟨k',hlt,hI',hI.2.trans ho⟩
  | ex i=>exact ⟨he,hI.2.trans ho⟩
  | r=>exact ⟨he,hI.2.trans ho⟩
 | .exit i,s,M,K,h=>⟨h,Off.refl⟩
 | .ret,s,M,K,h=>⟨h,Off.refl⟩
 | .nrm t l sz a,s,M,K,h=>by
  simp only [Wp] at h ⊢
  exact Zaw a _ _ (ZcP a _ _ h) fun e s1 M1 h1=>⟨h1.1,(nrmS_off.mono fun t ht=>by simp at ht;subst ht;exact List.mem_cons_self).trans (h1.2.mono fun t ht=>List.mem_cons_of_mem _ ht)⟩
 | .fz t a,s,M,K,h=>by
  simp only [Wp] at h ⊢
  split at h
  · rename_i p hp
    exact Zaw a _ _ (ZcP a _ _ h) fun e s1 M1 h1=>⟨h1.1,((ZpD hp).mono fun t ht=>by simp at ht;subst ht;exact List.mem_cons_self).trans (h1.2.mono fun t ht=>List.mem_cons_of_mem _ ht)⟩
  · cases h
theorem Zh7 {c:KC} {K:Post} (Q:Post) (h:Wp P c Q s M) (hk:∀ e s' M',Q e s' M'→Off c.ws s s'→K e s' M'):Wp P c K s M :=
 Zaw c s M (ZcP c s M h) fun e s' M' hh=>hk e s' M' hh.1 hh.2
def Rnd {α:Type} (I:α→(Nat→AV)→Mem→Prop) (μ:α→Nat) (a:α) (s:Nat→AV) (M:Mem):Prop:=∃ a',μ a' < μ a∧I a' s M
@[congr] theorem ZqL {α : Type} {I : α → (Nat → AV) → Mem → Prop} {μ : α → Nat} {a : α} {s : Nat → AV} {M : Mem} : Rnd I μ a s M = Rnd I μ a s M := rfl
theorem Zn5 {c:KC} {K:Post} {α:Type} (I:α→(Nat→AV)→Mem→Prop) (μ:α→Nat) (a0:α) (h0:I a0 s M)
 (h:∀ a s' M',I a s' M'→Off c.ws s s'→Wp P c (Post.seq (Rnd I μ a) K) s' M'):Wp P (.loop c) K s M:=by
 refine ⟨fun k s' M'=>∃ a,μ a=k∧I a s' M'∧Off c.ws s s',⟨μ a0,a0,rfl,h0,Off.refl⟩,?_⟩
 rintro k s' M' ⟨a,rfl,hI,ho⟩
 refine Zaw c s' M' (ZcP c s' M' (h a s' M' hI ho)) fun e s2 M2 he=>?_
 obtain ⟨he,ho2⟩:=he
 cases e with
 | n=>obtain ⟨a',hlt,hI'⟩:=he;exact ⟨μ a',hlt,a',rfl,hI',ho.trans ho2⟩
 | ex i=>exact he
 | r=>exact he
end
end Go.Vm
namespace Go.Vm
open Go
set_option linter.unusedSimpArgs false
set_option linter.unusedVariables false
section
variable {P:Program} {s:Nat→AV} {M:Mem} {nb ib:Nat} {K:Post} {lg:Lg} {es:List Ent}
class CP where
 k:Post
class CE where
 k:(Nat→AV)→Mem→Prop
class CQ where
 p:Prop
class Cnt where
 k:AV→Mem→(Nat→Bool)→Prop
def R (P:Program) (c:KC) (s:Nat→AV) (M:Mem) [C:CP]:Prop:=Wp P c C.k s M
def RE (P:Program) (nb ib:Nat) (es:List Ent) (s:Nat→AV) (M:Mem) (lg:Lg) [C:CE]:Prop:=WpE P nb ib es s M lg C.k
theorem R_of {c:KC} (h:@R P c s M ⟨K⟩):Wp P c K s M:=h
@[go_sem ↓] theorem Zug:@R P .skip s M ⟨K⟩=K .n s M:=(rfl)
@[go_sem ↓] theorem Zvu {n:Nat}:@R P (.reg nb n es) s M ⟨K⟩ = @RE P nb M.c es s M (fun _ _=>false) ⟨fun s' M'=>K .n s' (M'.bump (64 * n))⟩:=(rfl)
@[go_sem ↓] theorem ZvE {a b:KC}:@R P (.seq a b) s M ⟨K⟩ = @R P a s M ⟨Post.seq (fun s M=>@R P b s M ⟨K⟩) K⟩:=(rfl)
@[go_sem ↓] theorem ZsS {i:Nat} {a:KC}:@R P (.block i a) s M ⟨K⟩ = @R P a s M ⟨Post.blk i K⟩:=(rfl)
@[go_sem ↓] theorem Zur {i:Nat}:@R P (.exit i) s M ⟨K⟩=K (.ex i) s M:=(rfl)
@[go_sem ↓] theorem Zvv:@R P .ret s M ⟨K⟩=K .r s M:=(rfl)
def nmW (P:Program) (t l sz:Nat) (x:AV) (s:Nat→AV) (M:Mem) (a:KC) [C:CP]:Prop:=match x with
 | .nil sz'=>if sz'=sz then @R P a (upd s t (.sl l M.c 0 0 sz)) ((M.set l (some (.arr M.c true sz []))).bump 1) C else @R P a s M C
 | _=>@R P a s M C
@[go_sem ↓] theorem Zvd {t l sz:Nat} {a:KC}:@R P (.nrm t l sz a) s M ⟨K⟩ = @nmW P t l sz (s t) s M a ⟨K⟩:=by
 simp only [R,Wp,nmW,nrmS]
 cases s t with
 | nil sz'=>by_cases h:sz'=sz<;>simp [h]
 | _=>rfl
@[go_sem] theorem Ztq {t l sz:Nat} {a:KC}:@nmW P t l sz (.nil sz) s M a ⟨K⟩ = @R P a (upd s t (.sl l M.c 0 0 sz)) ((M.set l (some (.arr M.c true sz []))).bump 1) ⟨K⟩:=by simp only [nmW,if_true]
@[go_sem] theorem Zu2 {t l sz l2 v o n sz2:Nat} {a:KC}:@nmW P t l sz (.sl l2 v o n sz2) s M a ⟨K⟩ = @R P a s M ⟨K⟩:=(rfl)
@[go_sem] theorem ZtH {t l sz:Nat} {e:Option Nat} {d:D} {a:KC}:@nmW P t l sz (.dat e d) s M a ⟨K⟩ = @R P a s M ⟨K⟩:=(rfl)
@[congr] theorem Zqx {t l sz : Nat} {x x' : AV} {a : KC} {C : CP} (h : x = x') : @nmW P t l sz x s M a C = @nmW P t l sz x' s M a C := by rw [h]
def fzW (P:Program) (t:Nat) (o:Option (D×Mem)) (s:Nat→AV) (a:KC) [C:CP]:Prop:=match o with
 | some (d,M')=>@R P a (upd s t (bindRo (slD d))) M' C
 | none=>False
def fbW (P:Program) (o:Option Mem) (s:Nat→AV) (a:KC) [C:CP]:Prop:=match o with
 | some M'=>@R P a s M' C
 | none=>False
def fxV (P:Program) (t:Nat) (x:AV) (s:Nat→AV) (M:Mem) (a:KC) [C:CP]:Prop:=match x with
 | .ptr l v 0 none=>@fbW P (fxB l v M) s a C
 | x=>@fzW P t (tak 8 x M) s a C
@[go_sem ↓] theorem R_fz {t:Nat} {a:KC}:@R P (.fz t a) s M ⟨K⟩ = @fxV P t (s t) s M a ⟨K⟩:=by
 have hr:(match fzR t s M with|some p=>Wp P a K p.1 p.2|none=>False) = @fzW P t (tak 8 (s t) M) s a ⟨K⟩:=by
  simp only [fzR,fzW,R]
  cases tak 8 (s t) M<;>rfl
 simp only [R,Wp]
 unfold fzS fxV
 generalize s t=x at hr ⊢
 cases x with
 | ptr l v i j =>
  cases i with
  | zero =>
   cases j with
   | none=>simp only [fbW,R];cases fxB l v M<;>rfl
   | some j=>exact hr
  | succ i=>exact hr
 | _=>exact hr
@[congr] theorem ZqZ {t : Nat} {x x' : AV} {a : KC} {C : CP} (h : x = x') : @fxV P t x s M a C = @fxV P t x' s M a C := by rw [h]
@[congr] theorem ZqE {o o' : Option Mem} {a : KC} {C : CP} (h : o = o') : @fbW P o s a C = @fbW P o' s a C := by rw [h]
@[go_sem] theorem ZuA {t l v o n sz:Nat} {a:KC}:@fxV P t (.sl l v o n sz) s M a ⟨K⟩ = @fzW P t (tak 8 (.sl l v o n sz) M) s a ⟨K⟩:=(rfl)
@[go_sem] theorem ZtG {t sz:Nat} {a:KC}:@fxV P t (.nil sz) s M a ⟨K⟩ = @fzW P t (tak 8 (.nil sz) M) s a ⟨K⟩:=(rfl)
@[go_sem] theorem ZsA {t:Nat} {e:Option Nat} {d:D} {a:KC}:@fxV P t (.dat e d) s M a ⟨K⟩ = @fzW P t (tak 8 (.dat e d) M) s a ⟨K⟩:=(rfl)
@[go_sem] theorem ZtR {t:Nat} {xs:List AV} {a:KC}:@fxV P t (.agg xs) s M a ⟨K⟩ = @fzW P t (tak 8 (.agg xs) M) s a ⟨K⟩:=(rfl)
@[go_sem] theorem ZsL {t l v:Nat} {a:KC}:@fxV P t (.ptr l v 0 none) s M a ⟨K⟩ = @fbW P (fxB l v M) s a ⟨K⟩:=(rfl)
@[go_sem] theorem ZrU {M':Mem} {a:KC}:@fbW P (some M') s a ⟨K⟩ = @R P a s M' ⟨K⟩:=(rfl)
@[go_sem] theorem ZtM {l v:Nat}:fxB l v M=match M.m l with
 | some (.box v' x)=>if v'=v then (match tak 8 x M with
  | some (.agg fs,M1)=>(match M1.m l with
   | some _=>some (M1.set l (some (.box v (.agg (fs.map fun d=>.dat none (sl1 d))))))
   | none=>none)
  | _=>none) else none
 | _=>none:=(rfl)
@[go_sem] theorem ZrS {t:Nat} {d:D} {M':Mem} {a:KC}:@fzW P t (some (d,M')) s a ⟨K⟩ = @R P a (upd s t (bindRo (slD d))) M' ⟨K⟩:=(rfl)
@[congr] theorem ZqQ {t : Nat} {o o' : Option (D × Mem)} {a : KC} {C : CP} (h : o = o') : @fzW P t o s a C = @fzW P t o' s a C := by rw [h]
def cdW (o:Option Bool) [A:CQ] [B:CQ]:Prop:=match o with
 | some true=>A.p
 | some false=>B.p
 | none=>False
def cdN (x:AV) [A:CQ] [B:CQ]:Prop:=match asC x with
 | some (some true)=>A.p
 | some (some false)=>B.p
 | some none=>False
 | none=>False
@[go_sem ↓] theorem Zul {x:X} {a b:KC}:@R P (.cond x a b) s M ⟨K⟩ = @cdN (x.ev s) ⟨@R P a s M ⟨K⟩⟩ ⟨@R P b s M ⟨K⟩⟩:=by
 simp only [R,Wp,cdN]
 all_goals
  rcases asC (x.ev s) with _|_|t
  · rfl
  · rfl
  · cases t<;>rfl
def cdM (x:AV) [A:CQ] [B:CQ]:Prop:=match asC x with
 | some (some true)=>A.p
 | some (some false)=>B.p
 | some none=>A.p∧B.p
 | none=>False
@[go_sem ↓] theorem Zs9 {x:X} {a b:KC}:@R P (.condu x a b) s M ⟨K⟩ = @cdM (x.ev s) ⟨@R P a s M ⟨K⟩⟩ ⟨@R P b s M ⟨K⟩⟩:=by
 simp only [R,Wp,cdM]
 all_goals
  rcases asC (x.ev s) with _|_|t
  · rfl
  · rfl
  · cases t<;>rfl
@[go_sem] theorem Zvk {A B:Prop} {t:Bool}:@cdM (.dat none (.bool t)) ⟨A⟩ ⟨B⟩ = @cdW (some t) ⟨A⟩ ⟨B⟩:=by cases t<;>rfl
@[go_sem] theorem ZtB {A B:Prop}:@cdM (.dat none .anyb) ⟨A⟩ ⟨B⟩=(A∧B):=(rfl)
@[congr] theorem ZqF {x x' : AV} {A B : CQ} (h : x = x') : @cdM x A B = @cdM x' A B := by rw [h]
@[go_sem] theorem ZvG {A B:Prop} {t:Bool}:@cdN (.dat none (.bool t)) ⟨A⟩ ⟨B⟩ = @cdW (some t) ⟨A⟩ ⟨B⟩:=by cases t<;>rfl
@[congr] theorem Zq6 {x x' : AV} {A B : CQ} (h : x = x') : @cdN x A B = @cdN x' A B := by rw [h]
@[go_sem] theorem ZrM {A B:Prop}:@cdW (some true) ⟨A⟩ ⟨B⟩=A:=(rfl)
@[go_sem] theorem Zq4 {A B:Prop}:@cdW (some false) ⟨A⟩ ⟨B⟩=B:=(rfl)
@[congr] theorem Zrg {o o' : Option Bool} {A B : CQ} (h : o = o') : @cdW o A B = @cdW o' A B := by rw [h]
theorem Zad {A B:Prop} {t:Bool} (h1:t=true→A) (h2:t=false→B):@cdW (some t) ⟨A⟩ ⟨B⟩:=by
 cases t
 · exact h2 rfl
 · exact h1 rfl
theorem Zah {A B p:Prop} {i:Decidable p} (h1:p→A) (h2:¬ p→B):@cdW (some (@decide p i)) ⟨A⟩ ⟨B⟩:=by
 by_cases h:p
 · rw [decide_eq_true h];exact h1 h
 · rw [decide_eq_false h];exact h2 h
@[go_sem ↓] theorem Zvg {b:(Nat→AV)→Mem→Prop}:Post.seq b K .n s M=b s M:=(rfl)
@[go_sem ↓] theorem Zum {b:(Nat→AV)→Mem→Prop} {i:Nat}:Post.seq b K (.ex i) s M=K (.ex i) s M:=(rfl)
@[go_sem ↓] theorem ZvA {b:(Nat→AV)→Mem→Prop}:Post.seq b K .r s M=K .r s M:=(rfl)
@[go_sem ↓] theorem Zva {i:Nat}:Post.blk i K .n s M=K .n s M:=(rfl)
@[go_sem ↓] theorem Zvq {i:Nat}:Post.blk i K .r s M=K .r s M:=(rfl)
def bkW (b:Bool) [A:CQ] [B:CQ]:Prop:=if b then A.p else B.p
@[go_sem ↓] theorem ZuD {i j:Nat}:Post.blk i K (.ex j) s M = @bkW (decide (j=i)) ⟨K .n s M⟩ ⟨K (.ex j) s M⟩:=by
 simp only [Post.blk,bkW]
 by_cases h:j=i<;>simp [h]
@[go_sem] theorem Zrl {A B:Prop}:@bkW true ⟨A⟩ ⟨B⟩=A:=(rfl)
@[go_sem] theorem ZqP {A B:Prop}:@bkW false ⟨A⟩ ⟨B⟩=B:=by simp [bkW]
@[congr] theorem ZqM {o o' : Bool} {A B : CQ} (h : o = o') : @bkW o A B = @bkW o' A B := by rw [h]
@[go_sem ↓] theorem Zuh {K:(Nat→AV)→Mem→Prop}:@RE P nb ib [] s M lg ⟨K⟩=K s M:=(rfl)
def gB:AV→Option (Option Bool)
 | .dat none (.bool x)=>some (some x)
 | .tup []=>some none
 | _=>none
def gdW (o:Option (Option Bool)) (b:Bool) [A:CQ] [B:CQ]:Prop:=match o with
 | none=>False
 | some none=>B.p
 | some (some x)=>if x=b then A.p else B.p
@[go_sem] theorem gB_b {x:Bool}:gB (.dat none (.bool x))=some (some x):=(rfl)
@[go_sem] theorem gB_u:gB (.tup [])=some none:=(rfl)
@[go_sem] theorem Zt7 {A B:Prop}:@gdW (some (some true)) true ⟨A⟩ ⟨B⟩=A:=(rfl)
@[go_sem] theorem ZtZ {A B:Prop}:@gdW (some (some true)) false ⟨A⟩ ⟨B⟩=B:=(rfl)
@[go_sem] theorem ZuB {A B:Prop}:@gdW (some (some false)) true ⟨A⟩ ⟨B⟩=B:=(rfl)
@[go_sem] theorem Zua {A B:Prop}:@gdW (some (some false)) false ⟨A⟩ ⟨B⟩=A:=(rfl)
@[go_sem] theorem ZvL {A B:Prop} {b:Bool}:@gdW (some none) b ⟨A⟩ ⟨B⟩=B:=(rfl)
@[congr] theorem Zrf {o o' : Option (Option Bool)} {b : Bool} {A B : CQ} (h : o = o') : @gdW o b A B = @gdW o' b A B := by rw [h]
theorem Zag {A B:Prop} {t b:Bool} (h1:t=b→A) (h2:t = !b→B):@gdW (some (some t)) b ⟨A⟩ ⟨B⟩:=by
 cases t<;>cases b
 · exact h1 rfl
 · exact h2 rfl
 · exact h2 rfl
 · exact h1 rfl
theorem Zab {A B p:Prop} {i:Decidable p} (h1:p→A) (h2:¬ p→B):@gdW (some (some (@decide p i))) true ⟨A⟩ ⟨B⟩:=by
 by_cases h:p
 · rw [decide_eq_true h];exact h1 h
 · rw [decide_eq_false h];exact h2 h
theorem Zac {A B p:Prop} {i:Decidable p} (h1:¬ p→A) (h2:p→B):@gdW (some (some (@decide p i))) false ⟨A⟩ ⟨B⟩:=by
 by_cases h:p
 · rw [decide_eq_true h];exact h2 h
 · rw [decide_eq_false h];exact h1 h
def KS (P:Program) (s:Nat→AV) (M:Mem) (nb ib:Nat) (k:KO) [C:Cnt]:Prop:=kstR P s M nb ib C.k k
theorem Zow {e:Ent} {K:AV→Mem→Lg→Prop}:exP P nb ib e s M lg K=match e.g with
 | none=>kstR P s M (nb+64 * e.j) (ib+64 * e.j) (fun a N T =>
  (e.kd=1→∀ l,inR nb e.j l=false→T l=false∧N.m l=M.m l)∧(e.kd=2→rdK e.k=false→(∀ l,T l=false)∧N=M)∧OkB e a M N∧K a N (if e.w then upd lg e.j (wrt T M N) else lg)) e.k
 | some (t,b)=>@gdW (gB (s t)) b ⟨kstR P s M (nb+64 * e.j) (ib+64 * e.j) (fun a N T =>
  (e.kd=1→∀ l,inR nb e.j l=false→T l=false∧N.m l=M.m l)∧(e.kd=2→rdK e.k=false→(∀ l,T l=false)∧N=M)∧OkB e a M N∧K a N (if e.w then upd lg e.j (wrt T M N) else lg)) e.k⟩ ⟨K (.tup []) M lg⟩:=by
 unfold exP
 cases hg:e.g with
 | none=>rfl
 | some p =>
  obtain ⟨t,b⟩:=p
  simp only [gdS,gB]
  split
  · rename_i hx
    split at hx<;>first|(cases hx;done)|(rename_i h1;simp [h1,gdW])
  · rename_i hx
    split at hx
    · rename_i x h1
      simp only [h1,gdW]
      rw [if_neg (by simpa using hx)]
    · rename_i h1;simp [h1,gdW]
    · cases hx
  · rename_i hx
    split at hx
    · rename_i x h1
      simp only [h1,gdW]
      rw [if_pos (by simpa using hx)]
    · cases hx
    · cases hx
theorem Zq9 {e:Ent} {K:(Nat→AV)→Mem→Prop} (h:plE e=true):@RE P nb ib (e::es) s M lg ⟨K⟩=exP P nb ib e s M lg fun a M' lg'=>@RE P nb ib es (updO s e.d a) M' lg' ⟨K⟩:=by
 show WpE P nb ib (e::es) s M lg K=_
 simp only [WpE,h,if_true]
 rfl
theorem Zlp {k:KO} {K K':AV→Mem→(Nat→Bool)→Prop} (h:∀ a N T,K a N T↔K' a N T):kstR P s M nb ib K k=kstR P s M nb ib K' k:=by
 have:K=K':=by funext a N T;exact propext (h a N T)
 rw [this]
theorem ZaB {e : Ent} {K : (Nat → AV) → Mem → Prop} {K' : AV → Mem → (Nat → Bool) → Prop} (h : plE e = true) (hk : ∀ a N T, ((e.kd = 1 → ∀ l, inR nb e.j l = false → T l = false ∧ N.m l = M.m l) ∧ (e.kd = 2 → rdK e.k = false → (∀ l, T l = false) ∧ N = M) ∧
      @RE P nb ib es (updO s e.d a) N (if e.w then upd lg e.j (wrt T M N) else lg) ⟨K⟩)↔K' a N T) (hb:e.b=false:=by rfl) :
 @RE P nb ib (e::es) s M lg ⟨K⟩=match e.g with
  | none=>@KS P s M (nb+64 * e.j) (ib+64 * e.j) e.k ⟨K'⟩
  | some (t,b)=>@gdW (gB (s t)) b ⟨@KS P s M (nb+64 * e.j) (ib+64 * e.j) e.k ⟨K'⟩⟩ ⟨@RE P nb ib es (updO s e.d (.tup [])) M lg ⟨K⟩⟩:=by
 rw [Zq9 h,Zow]
 have hk:=fun a N T=>(and_congr_right fun _=>and_congr_right fun _=>and_iff_right (show OkB e a M N from fun q=>by rw [hb] at q;cases q)).trans (hk a N T)
 have:=Zlp (P:=P) (s:=s) (M:=M) (nb:=nb+64 * e.j) (ib:=ib+64 * e.j) (k:=e.k) hk
 cases e.g with
 | none=>exact this
 | some p =>
  obtain ⟨t,b⟩:=p
  show @gdW (gB (s t)) b ⟨_⟩ ⟨_⟩=_
  rw [this]
  rfl
@[go_sem ↓] theorem ZuM {j:Nat} {d:Nat} {k:KO} {K:(Nat→AV)→Mem→Prop} :
 @RE P nb ib (E0 j (some d) none k::es) s M lg ⟨K⟩ = @KS P s M (nb+64 * j) (ib+64 * j) k ⟨fun a N _=>@RE P nb ib es (upd s d a) N lg ⟨K⟩⟩ :=
 ZaB (e:=E0 j (some d) none k) rfl fun a N T=>by simp [E0,updO]
@[go_sem ↓] theorem ZsH {j:Nat} {k:KO} {K:(Nat→AV)→Mem→Prop} :
 @RE P nb ib (E0 j none none k::es) s M lg ⟨K⟩ = @KS P s M (nb+64 * j) (ib+64 * j) k ⟨fun a N _=>@RE P nb ib es (s) N lg ⟨K⟩⟩ :=
 ZaB (e:=E0 j none none k) rfl fun a N T=>by simp [E0,updO]
@[go_sem ↓] theorem ZuC {j t:Nat} {b:Bool} {d:Nat} {k:KO} {K:(Nat→AV)→Mem→Prop} :
 @RE P nb ib (E0 j (some d) (some (t,b)) k::es) s M lg ⟨K⟩ = @gdW (gB (s t)) b ⟨@KS P s M (nb+64 * j) (ib+64 * j) k ⟨fun a N _=>@RE P nb ib es (upd s d a) N lg ⟨K⟩⟩⟩ ⟨@RE P nb ib es (upd s d (.tup [])) M lg ⟨K⟩⟩ :=
 ZaB (e:=E0 j (some d) (some (t,b)) k) rfl fun a N T=>by simp [E0,updO]
@[go_sem ↓] theorem ZsM {j t:Nat} {b:Bool} {k:KO} {K:(Nat→AV)→Mem→Prop} :
 @RE P nb ib (E0 j none (some (t,b)) k::es) s M lg ⟨K⟩ = @gdW (gB (s t)) b ⟨@KS P s M (nb+64 * j) (ib+64 * j) k ⟨fun a N _=>@RE P nb ib es (s) N lg ⟨K⟩⟩⟩ ⟨@RE P nb ib es (s) M lg ⟨K⟩⟩ :=
 ZaB (e:=E0 j none (some (t,b)) k) rfl fun a N T=>by simp [E0,updO]
def qtW (T:Nat→Bool) (N M:Mem) [A:CQ]:Prop:=((∀ l,T l=false)∧N=M)∧A.p
@[go_sem ↓] theorem ZrH {n:Nat} {A:Prop}:@qtW (fun l=>decide (n≤l)&&decide (l < n+0)) M M ⟨A⟩=A:=by
 unfold qtW
 refine propext ⟨fun h=>h.2,fun h=>⟨⟨fun l=>?_,rfl⟩,h⟩⟩
 simp only [Nat.add_zero,Bool.and_eq_false_iff,decide_eq_false_iff_not]
 omega
@[go_sem ↓] theorem Zu3 {j:Nat} {d:Nat} {f:FuncId} {c:Bool} {as:List (Md×X)} {K:(Nat→AV)→Mem→Prop} :
 @RE P nb ib (E2 j (some d) none (.call f c as)::es) s M lg ⟨K⟩ = @KS P s M (nb+64 * j) (ib+64 * j) (.call f c as) ⟨fun a N T=>@qtW T N M ⟨@RE P nb ib es (upd s d a) N lg ⟨K⟩⟩⟩ :=
 ZaB (e:=E2 j (some d) none (.call f c as)) rfl fun a N T=>by simp [E2,rdK,qtW,updO]
@[go_sem ↓] theorem ZtE {j:Nat} {f:FuncId} {c:Bool} {as:List (Md×X)} {K:(Nat→AV)→Mem→Prop} :
 @RE P nb ib (E2 j none none (.call f c as)::es) s M lg ⟨K⟩ = @KS P s M (nb+64 * j) (ib+64 * j) (.call f c as) ⟨fun a N T=>@qtW T N M ⟨@RE P nb ib es (s) N lg ⟨K⟩⟩⟩ :=
 ZaB (e:=E2 j none none (.call f c as)) rfl fun a N T=>by simp [E2,rdK,qtW,updO]
@[go_sem ↓] theorem ZuN {j t:Nat} {b:Bool} {d:Nat} {f:FuncId} {c:Bool} {as:List (Md×X)} {K:(Nat→AV)→Mem→Prop} :
 @RE P nb ib (E2 j (some d) (some (t,b)) (.call f c as)::es) s M lg ⟨K⟩ = @gdW (gB (s t)) b ⟨@KS P s M (nb+64 * j) (ib+64 * j) (.call f c as) ⟨fun a N T=>@qtW T N M ⟨@RE P nb ib es (upd s d a) N lg ⟨K⟩⟩⟩⟩ ⟨@RE P nb ib es (upd s d (.tup [])) M lg ⟨K⟩⟩ :=
 ZaB (e:=E2 j (some d) (some (t,b)) (.call f c as)) rfl fun a N T=>by simp [E2,rdK,qtW,updO]
@[go_sem ↓] theorem Zs3 {j t:Nat} {b:Bool} {f:FuncId} {c:Bool} {as:List (Md×X)} {K:(Nat→AV)→Mem→Prop} :
 @RE P nb ib (E2 j none (some (t,b)) (.call f c as)::es) s M lg ⟨K⟩ = @gdW (gB (s t)) b ⟨@KS P s M (nb+64 * j) (ib+64 * j) (.call f c as) ⟨fun a N T=>@qtW T N M ⟨@RE P nb ib es (s) N lg ⟨K⟩⟩⟩⟩ ⟨@RE P nb ib es (s) M lg ⟨K⟩⟩ :=
 ZaB (e:=E2 j none (some (t,b)) (.call f c as)) rfl fun a N T=>by simp [E2,rdK,qtW,updO]
@[go_sem ↓] theorem Zso {j:Nat} {d:Nat} {x:X} {c:Bool} {as:List X} {K:(Nat→AV)→Mem→Prop} :
 @RE P nb ib (E2 j (some d) none (.ccl x c as)::es) s M lg ⟨K⟩ = @KS P s M (nb+64 * j) (ib+64 * j) (.ccl x c as) ⟨fun a N T=>@qtW T N M ⟨@RE P nb ib es (upd s d a) N lg ⟨K⟩⟩⟩ :=
 ZaB (e:=E2 j (some d) none (.ccl x c as)) rfl fun a N T=>by simp [E2,rdK,qtW,updO]
@[go_sem ↓] theorem Zrt {j:Nat} {x:X} {c:Bool} {as:List X} {K:(Nat→AV)→Mem→Prop} :
 @RE P nb ib (E2 j none none (.ccl x c as)::es) s M lg ⟨K⟩ = @KS P s M (nb+64 * j) (ib+64 * j) (.ccl x c as) ⟨fun a N T=>@qtW T N M ⟨@RE P nb ib es (s) N lg ⟨K⟩⟩⟩ :=
 ZaB (e:=E2 j none none (.ccl x c as)) rfl fun a N T=>by simp [E2,rdK,qtW,updO]
@[go_sem ↓] theorem Ztu {j t:Nat} {b:Bool} {d:Nat} {x:X} {c:Bool} {as:List X} {K:(Nat→AV)→Mem→Prop} :
 @RE P nb ib (E2 j (some d) (some (t,b)) (.ccl x c as)::es) s M lg ⟨K⟩ = @gdW (gB (s t)) b ⟨@KS P s M (nb+64 * j) (ib+64 * j) (.ccl x c as) ⟨fun a N T=>@qtW T N M ⟨@RE P nb ib es (upd s d a) N lg ⟨K⟩⟩⟩⟩ ⟨@RE P nb ib es (upd s d (.tup [])) M lg ⟨K⟩⟩ :=
 ZaB (e:=E2 j (some d) (some (t,b)) (.ccl x c as)) rfl fun a N T=>by simp [E2,rdK,qtW,updO]
@[go_sem ↓] theorem ZrD {j t:Nat} {b:Bool} {x:X} {c:Bool} {as:List X} {K:(Nat→AV)→Mem→Prop} :
 @RE P nb ib (E2 j none (some (t,b)) (.ccl x c as)::es) s M lg ⟨K⟩ = @gdW (gB (s t)) b ⟨@KS P s M (nb+64 * j) (ib+64 * j) (.ccl x c as) ⟨fun a N T=>@qtW T N M ⟨@RE P nb ib es (s) N lg ⟨K⟩⟩⟩⟩ ⟨@RE P nb ib es (s) M lg ⟨K⟩⟩ :=
 ZaB (e:=E2 j none (some (t,b)) (.ccl x c as)) rfl fun a N T=>by simp [E2,rdK,qtW,updO]
def rdW (x:I) [A:CQ]:Prop:=rdI x=true∧A.p
theorem ZeU {j : Nat} {d : Option Nat} {g : Option (Nat × Bool)} {x : I} {K : (Nat → AV) → Mem → Prop} (hx : rdI x = true) : ∀ a N T, (((ER j d g x).kd = 1 → ∀ l, inR nb (ER j d g x).j l = false → T l = false ∧ N.m l = M.m l) ∧
      ((ER j d g x).kd=2→rdK (ER j d g x).k=false→(∀ l,T l=false)∧N=M)∧@RE P nb ib es (updO s (ER j d g x).d a) N (if (ER j d g x).w then upd lg (ER j d g x).j (wrt T M N) else lg) ⟨K⟩)↔@RE P nb ib es (updO s d a) N lg ⟨K⟩ :=
 fun a N T=>by simp [ER,rdK,hx]
@[go_sem ↓] theorem ZrO {j:Nat} {d:Nat} {h ag:Bool} {n:Nat} {p:X} {K:(Nat→AV)→Mem→Prop} :
 @RE P nb ib (ER j (some d) none (.load h ag n p)::es) s M lg ⟨K⟩ = @KS P s M (nb+64 * j) (ib+64 * j) (.i (.load h ag n p)) ⟨fun a N _=>@RE P nb ib es (upd s d a) N lg ⟨K⟩⟩:=ZaB (e:=ER j (some d) none (.load h ag n p)) rfl (ZeU rfl)
@[go_sem ↓] theorem Zsb {j t:Nat} {b:Bool} {d:Nat} {h ag:Bool} {n:Nat} {p:X} {K:(Nat→AV)→Mem→Prop} :
 @RE P nb ib (ER j (some d) (some (t,b)) (.load h ag n p)::es) s M lg ⟨K⟩ = @gdW (gB (s t)) b ⟨@KS P s M (nb+64 * j) (ib+64 * j) (.i (.load h ag n p)) ⟨fun a N _=>@RE P nb ib es (upd s d a) N lg ⟨K⟩⟩⟩ ⟨@RE P nb ib es (upd s d (.tup [])) M lg ⟨K⟩⟩:=ZaB (e:=ER j (some d) (some (t,b)) (.load h ag n p)) rfl (ZeU rfl)
@[go_sem ↓] theorem Zty {j:Nat} {d:Nat} {n:Nat} {p:X} {lo hi:Option X} {K:(Nat→AV)→Mem→Prop} :
 @RE P nb ib (ER j (some d) none (.slc n p lo hi)::es) s M lg ⟨K⟩ = @KS P s M (nb+64 * j) (ib+64 * j) (.i (.slc n p lo hi)) ⟨fun a N _=>@RE P nb ib es (upd s d a) N lg ⟨K⟩⟩:=ZaB (e:=ER j (some d) none (.slc n p lo hi)) rfl (ZeU rfl)
@[go_sem ↓] theorem ZsJ {j t:Nat} {b:Bool} {d:Nat} {n:Nat} {p:X} {lo hi:Option X} {K:(Nat→AV)→Mem→Prop} :
 @RE P nb ib (ER j (some d) (some (t,b)) (.slc n p lo hi)::es) s M lg ⟨K⟩ = @gdW (gB (s t)) b ⟨@KS P s M (nb+64 * j) (ib+64 * j) (.i (.slc n p lo hi)) ⟨fun a N _=>@RE P nb ib es (upd s d a) N lg ⟨K⟩⟩⟩ ⟨@RE P nb ib es (upd s d (.tup [])) M lg ⟨K⟩⟩:=ZaB (e:=ER j (some d) (some (t,b)) (.slc n p lo hi)) rfl (ZeU rfl)
@[go_sem ↓] theorem Zs0 {j:Nat} {d:Nat} {n:Nat} {p:X} {K:(Nat→AV)→Mem→Prop} :
 @RE P nb ib (ER j (some d) none (.fad n p)::es) s M lg ⟨K⟩ = @KS P s M (nb+64 * j) (ib+64 * j) (.i (.fad n p)) ⟨fun a N _=>@RE P nb ib es (upd s d a) N lg ⟨K⟩⟩:=ZaB (e:=ER j (some d) none (.fad n p)) rfl (ZeU rfl)
@[go_sem ↓] theorem Zsp {j t:Nat} {b:Bool} {d:Nat} {n:Nat} {p:X} {K:(Nat→AV)→Mem→Prop} :
 @RE P nb ib (ER j (some d) (some (t,b)) (.fad n p)::es) s M lg ⟨K⟩ = @gdW (gB (s t)) b ⟨@KS P s M (nb+64 * j) (ib+64 * j) (.i (.fad n p)) ⟨fun a N _=>@RE P nb ib es (upd s d a) N lg ⟨K⟩⟩⟩ ⟨@RE P nb ib es (upd s d (.tup [])) M lg ⟨K⟩⟩:=ZaB (e:=ER j (some d) (some (t,b)) (.fad n p)) rfl (ZeU rfl)
@[go_sem ↓] theorem Zsr {j:Nat} {d:Nat} {n:Nat} {p q:X} {K:(Nat→AV)→Mem→Prop} :
 @RE P nb ib (ER j (some d) none (.iad n p q)::es) s M lg ⟨K⟩ = @KS P s M (nb+64 * j) (ib+64 * j) (.i (.iad n p q)) ⟨fun a N _=>@RE P nb ib es (upd s d a) N lg ⟨K⟩⟩:=ZaB (e:=ER j (some d) none (.iad n p q)) rfl (ZeU rfl)
@[go_sem ↓] theorem ZsQ {j t:Nat} {b:Bool} {d:Nat} {n:Nat} {p q:X} {K:(Nat→AV)→Mem→Prop} :
 @RE P nb ib (ER j (some d) (some (t,b)) (.iad n p q)::es) s M lg ⟨K⟩ = @gdW (gB (s t)) b ⟨@KS P s M (nb+64 * j) (ib+64 * j) (.i (.iad n p q)) ⟨fun a N _=>@RE P nb ib es (upd s d a) N lg ⟨K⟩⟩⟩ ⟨@RE P nb ib es (upd s d (.tup [])) M lg ⟨K⟩⟩:=ZaB (e:=ER j (some d) (some (t,b)) (.iad n p q)) rfl (ZeU rfl)
@[go_sem ↓] theorem ZtL {j:Nat} {d:Nat} {n:Nat} {p:X} {K:(Nat→AV)→Mem→Prop} :
 @RE P nb ib (ER j (some d) none (.ext n p)::es) s M lg ⟨K⟩ = @KS P s M (nb+64 * j) (ib+64 * j) (.i (.ext n p)) ⟨fun a N _=>@RE P nb ib es (upd s d a) N lg ⟨K⟩⟩:=ZaB (e:=ER j (some d) none (.ext n p)) rfl (ZeU rfl)
@[go_sem ↓] theorem Zs2 {j t:Nat} {b:Bool} {d:Nat} {n:Nat} {p:X} {K:(Nat→AV)→Mem→Prop} :
 @RE P nb ib (ER j (some d) (some (t,b)) (.ext n p)::es) s M lg ⟨K⟩ = @gdW (gB (s t)) b ⟨@KS P s M (nb+64 * j) (ib+64 * j) (.i (.ext n p)) ⟨fun a N _=>@RE P nb ib es (upd s d a) N lg ⟨K⟩⟩⟩ ⟨@RE P nb ib es (upd s d (.tup [])) M lg ⟨K⟩⟩:=ZaB (e:=ER j (some d) (some (t,b)) (.ext n p)) rfl (ZeU rfl)
@[go_sem ↓] theorem Ztr {j:Nat} {d:Nat} {p:X} {K:(Nat→AV)→Mem→Prop} :
 @RE P nb ib (ER j (some d) none (.len p)::es) s M lg ⟨K⟩ = @KS P s M (nb+64 * j) (ib+64 * j) (.i (.len p)) ⟨fun a N _=>@RE P nb ib es (upd s d a) N lg ⟨K⟩⟩:=ZaB (e:=ER j (some d) none (.len p)) rfl (ZeU rfl)
@[go_sem ↓] theorem Ztb {j t:Nat} {b:Bool} {d:Nat} {p:X} {K:(Nat→AV)→Mem→Prop} :
 @RE P nb ib (ER j (some d) (some (t,b)) (.len p)::es) s M lg ⟨K⟩ = @gdW (gB (s t)) b ⟨@KS P s M (nb+64 * j) (ib+64 * j) (.i (.len p)) ⟨fun a N _=>@RE P nb ib es (upd s d a) N lg ⟨K⟩⟩⟩ ⟨@RE P nb ib es (upd s d (.tup [])) M lg ⟨K⟩⟩:=ZaB (e:=ER j (some d) (some (t,b)) (.len p)) rfl (ZeU rfl)
@[go_sem ↓] theorem Zsj {j:Nat} {d:Nat} {ps:List X} {K:(Nat→AV)→Mem→Prop} :
 @RE P nb ib (ER j (some d) none (.bld ps)::es) s M lg ⟨K⟩ = @KS P s M (nb+64 * j) (ib+64 * j) (.i (.bld ps)) ⟨fun a N _=>@RE P nb ib es (upd s d a) N lg ⟨K⟩⟩:=ZaB (e:=ER j (some d) none (.bld ps)) rfl (ZeU rfl)
@[go_sem ↓] theorem Zsv {j t:Nat} {b:Bool} {d:Nat} {ps:List X} {K:(Nat→AV)→Mem→Prop} :
 @RE P nb ib (ER j (some d) (some (t,b)) (.bld ps)::es) s M lg ⟨K⟩ = @gdW (gB (s t)) b ⟨@KS P s M (nb+64 * j) (ib+64 * j) (.i (.bld ps)) ⟨fun a N _=>@RE P nb ib es (upd s d a) N lg ⟨K⟩⟩⟩ ⟨@RE P nb ib es (upd s d (.tup [])) M lg ⟨K⟩⟩:=ZaB (e:=ER j (some d) (some (t,b)) (.bld ps)) rfl (ZeU rfl)
@[go_sem] theorem ZqI {d:Nat} {a:AV}:updO s (some d) a=upd s d a:=(rfl)
@[go_sem] theorem ZqK {a:AV}:updO s none a=s:=(rfl)
@[go_sem] theorem Ztx {α:Type} {f:Nat→α} {i j:Nat} {x:α}:upd f i x j=if j=i then x else f j:=(rfl)
@[go_sem] theorem ev_t {n:Nat}:X.ev s (.t n)=s n:=(rfl)
@[go_sem] theorem ev_k {a:AV}:X.ev s (.k a)=a:=(rfl)
@[go_sem] theorem Zvi {b:Bool}:asB (.dat none (.bool b))=some b:=(rfl)
@[go_sem] theorem Zvy {k:IntKind} {n:Int}:asI (.dat none (.int k n))=some n:=(rfl)
@[go_sem] theorem ZvD {n:Int}:asI (I64 n)=some n:=(rfl)
@[go_sem] theorem ZsZ {n:Int}:I64 n=.dat none (.int .i64 n):=(rfl)
def iW (o:Option (AV×Mem)) (T:Nat→Bool) [C:Cnt]:Prop:=match o with
 | some p=>C.k p.1 p.2 T
 | none=>False
@[go_sem ↓] theorem KS_i {x:I} {K:AV→Mem→(Nat→Bool)→Prop}:@KS P s M nb ib (.i x) ⟨K⟩ = @iW (stp s M nb ib x) (tgt s nb x) ⟨K⟩:=(rfl)
@[go_sem] theorem ZsF {a:AV} {N:Mem} {T:Nat→Bool} {K:AV→Mem→(Nat→Bool)→Prop}:@iW (some (a,N)) T ⟨K⟩=K a N T:=(rfl)
@[congr] theorem Zsi {o o' : Option (AV × Mem)} {T : Nat → Bool} {C : Cnt} (h : o = o') : @iW o T C = @iW o' T C := by rw [h]
def CR (P:Program) (f:FuncId) (s:Nat→AV) (M:Mem) (nb ib:Nat) (cold:Bool) (args:List (Md×X)) [C:Cnt]:Prop:=callR P f s M nb ib cold args C.k
@[go_sem ↓] theorem ZsI {f:FuncId} {cold:Bool} {args:List (Md×X)} {K:AV→Mem→(Nat→Bool)→Prop}:@KS P s M nb ib (.call f cold args) ⟨K⟩ = @CR P f s M nb ib cold args ⟨K⟩:=(rfl)
def cW (P:Program) (x:AV) (s:Nat→AV) (M:Mem) (nb ib:Nat) (cold:Bool) (args:List X) [C:Cnt]:Prop:=match x with
 | .clo f caps=>@CR P f s M nb ib cold (roA (args++caps.map X.k)) C
 | .dat none (.clo f caps)=>@CR P f s M nb ib cold (roA (args++caps.map fun c=>X.k (.dat none c))) C
 | _=>False
@[go_sem ↓] theorem Zuv {x:X} {cold:Bool} {args:List X} {K:AV→Mem→(Nat→Bool)→Prop}:@KS P s M nb ib (.ccl x cold args) ⟨K⟩ = @cW P (x.ev s) s M nb ib cold args ⟨K⟩:=(rfl)
theorem Zqs {f:FuncId} {caps:List AV} {cold:Bool} {args:List X} {K:AV→Mem→(Nat→Bool)→Prop}:@cW P (.clo f caps) s M nb ib cold args ⟨K⟩ = @CR P f s M nb ib cold (roA (args++caps.map X.k)) ⟨K⟩:=(rfl)
@[congr] theorem ZrN {x x' : AV} {cold : Bool} {args : List X} {C : Cnt} (h : x = x') : @cW P x s M nb ib cold args C = @cW P x' s M nb ib cold args C := by rw [h]
def fcF (P:Program) (f:FuncId) (ya:AV) (x:X) (s:Nat→AV) (M:Mem) (nb ib:Nat) [C:Cnt]:Prop:=match ya with
 | .dat none d=>∃ j,PCt P f d j∧@iW (stp s M nb ib (.fad j x)) (tgt s nb (.fad j x)) C
 | _=>False
@[go_sem ↓] theorem ZuH {f:FuncId} {x y:X} {K:AV→Mem→(Nat→Bool)→Prop}:@KS P s M nb ib (.fcl f x y) ⟨K⟩ = @fcF P f (y.ev s) x s M nb ib ⟨K⟩:=(rfl)
@[congr] theorem ZqH {f : FuncId} {a a' : AV} {x : X} {C : Cnt} (h : a = a') : @fcF P f a x s M nb ib C = @fcF P f a' x s M nb ib C := by rw [h]
theorem Zeb {f:FuncId} {d:D} {x:X} {j:Nat} {K:AV→Mem→(Nat→Bool)→Prop} (h:PCt P f d j) (hK:@iW (stp s M nb ib (.fad j x)) (tgt s nb (.fad j x)) ⟨K⟩):@fcF P f (.dat none d) x s M nb ib ⟨K⟩:=⟨j,h,hK⟩
def roW (P:Program) (f:FuncId) (ms:List Md) (o:Option (List D)) (cold cOk:Bool) (nb ib:Nat) (M:Mem) [C:Cnt]:Prop:=match o with
 | none=>False
 | some all=>∃ r outs,FCt P f ms all r outs∧(if cold then cOk else noRs r&&noRsL outs)=true∧((bindD nb ib r 0 M).2.1≤64∧isBad (bindD nb ib r 0 M).1=false) ∧
  C.k (bindD nb ib r 0 M).1 (bindD nb ib r 0 M).2.2 (fun l=>decide (nb≤l)&&decide (l < nb+(bindD nb ib r 0 M).2.1))
def frzR (s:Nat→AV) (M:Mem):List X→Option (List D)
 | []=>some []
 | x::xs=>match frz M 8 (x.ev s),frzR s M xs with
  | some d,some ds=>some (d::ds)
  | _,_=>none
theorem Zjs:∀ (xs:List X),takA s (roA xs) M=some ([],M)
 | []=>rfl
 | x::xs=>by have:=Zjs xs;simp only [roA] at this ⊢;simpa [takA,Md.own] using this
theorem Zkt:∀ (xs:List X),frzA s M (roA xs) []=frzR s M xs
 | []=>rfl
 | x::xs=>by
  have:=Zkt xs
  simp only [roA] at this ⊢
  simp only [List.map_cons,frzA,Md.own,Bool.false_eq_true,if_false,this,frzR]
  cases frz M 8 (x.ev s)<;>cases frzR s M xs<;>rfl
theorem ZjN {M0:Mem}:∀ (xs:List X) (outs:List D) (k:Nat),putA s nb ib M0 (roA xs) outs k M=some (k,M)
 | [],_,_=>by simp [roA,putA]
 | x::xs,outs,k=>by have:=ZjN (M0:=M0) xs outs k;simp only [roA] at this ⊢;simpa [putA] using this
theorem ZfY:∀ (xs:List X),ioNames s (roA xs)=[]
 | []=>rfl
 | x::xs=>by have:=ZfY xs;simp only [roA] at this ⊢;simpa [ioNames] using this
@[go_sem ↓] theorem ZtX {f:FuncId} {cold:Bool} {xs:List X} {K:AV→Mem→(Nat→Bool)→Prop} :
 @CR P f s M nb ib cold (roA xs) ⟨K⟩ = @roW P f (xs.map fun _=>Md.ro) (frzR s M xs) cold (xs.all fun x=>coldA (x.ev s)) nb ib M ⟨K⟩:=by
 have hany:(roA xs).any (·.1.own)=false:=by simp [roA,Md.own]
 have hms:(roA xs).map (·.1)=xs.map fun _=>Md.ro:=by simp [roA]
 have hcold:(roA xs).all (fun p=>p.1.own||coldA (p.2.ev s))=xs.all fun x=>coldA (x.ev s):=by simp [roA,Md.own,List.all_map,Function.comp_def]
 show callR P f s M nb ib cold (roA xs) K=_
 unfold callR roW
 rw [Zjs]
 simp only [hany,Bool.false_eq_true,if_false,Zkt,hms,hcold,ZjN,ZfY]
 cases frzR s M xs with
 | none=>rfl
 | some all=>simp
@[congr] theorem ZqC {f : FuncId} {ms ms' : List Md} {o o' : Option (List D)} {cold cOk cOk' : Bool} {C : Cnt} (hm : ms = ms') (h : o = o') (hc : cOk = cOk') : @roW P f ms o cold cOk nb ib M C = @roW P f ms' o' cold cOk' nb ib M C := by rw [h, hm, hc]
def fcW (P:Program) (f:FuncId) (ms:List Md) (all:List D) (cold cOk:Bool) (nb ib:Nat) (M:Mem) [C:Cnt]:Prop :=
 ∃ r outs,FCt P f ms all r outs∧(if cold then cOk else noRs r&&noRsL outs)=true∧((bindD nb ib r 0 M).2.1≤64∧isBad (bindD nb ib r 0 M).1=false) ∧
  C.k (bindD nb ib r 0 M).1 (bindD nb ib r 0 M).2.2 (fun l=>decide (nb≤l)&&decide (l < nb+(bindD nb ib r 0 M).2.1))
@[go_sem] theorem ZuZ {f:FuncId} {ms:List Md} {all:List D} {cold cOk:Bool} {K:AV→Mem→(Nat→Bool)→Prop}:@roW P f ms (some all) cold cOk nb ib M ⟨K⟩ = @fcW P f ms all cold cOk nb ib M ⟨K⟩:=(rfl)
theorem Zj6 {f:FuncId} {ms:List Md} {all:List D} {cOk:Bool} {K:AV→Mem→(Nat→Bool)→Prop} {r:D} (h:FCt P f ms all r []) {a:AV} {k:Nat} {N:Mem} (hb:bindD nb ib r 0 M=(a,k,N)) (hr:noRs r=true) (hk:k≤64) (ha:isBad a=false)
 (hK:K a N (fun l=>decide (nb≤l)&&decide (l < nb+k))):@fcW P f ms all false cOk nb ib M ⟨K⟩:=by
 refine ⟨r,[],h,by simp [hr,noRsL],?_,?_⟩
 · rw [hb];exact ⟨hk,ha⟩
 · rw [hb];exact hK
theorem Zrz {f:FuncId} {ms:List Md} {all:List D} {K:AV→Mem→(Nat→Bool)→Prop} {r:D} (h:FCt P f ms all r []) {a:AV} {k:Nat} {N:Mem} (hb:bindD nb ib r 0 M=(a,k,N)) (hk:k≤64) (ha:isBad a=false)
 (hK:K a N (fun l=>decide (nb≤l)&&decide (l < nb+k))):@fcW P f ms all true true nb ib M ⟨K⟩:=by
 refine ⟨r,[],h,by simp,?_,?_⟩
 · rw [hb];exact ⟨hk,ha⟩
 · rw [hb];exact hK
theorem Zam {f:FuncId} {ms:List Md} {all:List D} {cOk:Bool} {K:AV→Mem→(Nat→Bool)→Prop} {k:IntKind} {n:Int} (h:FCt P f ms all (.int k n) []) (hK:K (.dat none (.int k n)) M (fun l=>decide (nb≤l)&&decide (l < nb+0))):@fcW P f ms all false cOk nb ib M ⟨K⟩ :=
 Zj6 h (by simp only [bindD]) rfl (by omega) rfl hK
theorem Zap {f:FuncId} {ms:List Md} {all:List D} {cOk:Bool} {K:AV→Mem→(Nat→Bool)→Prop} {b:Bool} (h:FCt P f ms all (.bool b) []) (hK:K (.dat none (.bool b)) M (fun l=>decide (nb≤l)&&decide (l < nb+0))):@fcW P f ms all false cOk nb ib M ⟨K⟩ :=
 Zj6 h (by simp only [bindD]) rfl (by omega) rfl hK
theorem Zmr {f:FuncId} {ms:List Md} {all:List D} {cOk:Bool} {K:AV→Mem→(Nat→Bool)→Prop} {b:ByteArray} (h:FCt P f ms all (.str b) []) (hK:K (.dat none (.str b)) M (fun l=>decide (nb≤l)&&decide (l < nb+0))):@fcW P f ms all false cOk nb ib M ⟨K⟩ :=
 Zj6 h (by simp only [bindD]) rfl (by omega) rfl hK
@[go_sem] theorem Zsm:vD M none=true:=(rfl)
@[go_sem] theorem Zsw {n:Nat} {d:D}:frz M (n+1) (.dat none d)=some d:=(rfl)
@[go_sem] theorem ZuI {n:Nat} {d:D}:frz M (n+1) (.dp none d)=some (.ptr d):=(rfl)
@[go_sem] theorem Ztz {n sz:Nat}:frz M (n+1) (.nil sz)=some (.sl sz []):=(rfl)
@[go_sem] theorem Ztg {n:Nat} {xs:List AV}:frz M (n+1) (.agg xs)=(optL (xs.map (frz M n))).map .agg:=(rfl)
theorem Zpy {n:Nat} {f:FuncId} {xs:List AV}:frz M (n+1) (.clo f xs)=(optL (xs.map (frz M n))).map (.clo f):=(rfl)
def bindC:D→AV:=fun c=>match c with|.ptr d=>.dp none d|c=>.dat none c
@[go_sem] theorem Zqf {d:D}:bindC (.ptr d)=.dp none d:=(rfl)
@[go_sem] theorem Zq5 {k:IntKind} {n:Int}:bindC (.int k n)=.dat none (.int k n):=(rfl)
@[go_sem] theorem Zp5 {b:Bool}:bindC (.bool b)=.dat none (.bool b):=(rfl)
@[go_sem] theorem Zrs {sz:Nat} {xs:List D}:bindC (.sl sz xs)=.dat none (.sl sz xs):=(rfl)
@[go_sem] theorem Zp3 {d:D}:bindRo (.ptr d)=.dp none d:=(rfl)
@[go_sem] theorem Zqd {f:FuncId} {caps:List D}:bindRo (.clo f caps)=.clo f (caps.map bindC):=(rfl)
@[go_sem] theorem Zp9 {k:IntKind} {n:Int}:bindRo (.int k n)=.dat none (.int k n):=(rfl)
@[go_sem] theorem ZpI {b:Bool}:bindRo (.bool b)=.dat none (.bool b):=(rfl)
@[go_sem] theorem Zp1 {b:ByteArray}:bindRo (.str b)=.dat none (.str b):=(rfl)
@[go_sem] theorem Zq3 {sz:Nat} {xs:List D}:bindRo (.sl sz xs)=.dat none (.sl sz xs):=(rfl)
@[go_sem] theorem Zqb {xs:List D}:bindRo (.agg xs)=.dat none (.agg xs):=(rfl)
@[go_sem] theorem Zp2 {xs:List D}:bindRo (.tup xs)=.dat none (.tup xs):=(rfl)
@[go_sem] theorem Ziz {n:Nat} {d:D}:frz M (n+1) (bindC d)=some d:=by cases d<;>rfl
theorem ZiD {n:Nat}:∀ {caps:List D},optL ((caps.map bindC).map (frz M (n+1)))=some caps
 | []=>rfl
 | c::caps=>by simp only [List.map_cons,Ziz,optL,ZiD (caps:=caps)]
@[go_sem] theorem Zr4 {n:Nat} {f:FuncId} {caps:List D}:frz M (n+2) (.clo f (caps.map bindC))=some (.clo f caps):=by
 rw [Zpy,ZiD];rfl
@[go_sem] theorem Zr9 {n:Nat} {f:FuncId}:frz M (n+1) (.clo f [])=some (.clo f []):=(rfl)
@[go_sem] theorem ZrB {n:Nat} {f:FuncId} {a:AV}:frz M (n+1) (.clo f [a])=(optL [frz M n a]).map (.clo f):=(rfl)
@[go_sem] theorem Zsg {n:Nat} {f:FuncId} {a b:AV}:frz M (n+1) (.clo f [a,b])=(optL [frz M n a,frz M n b]).map (.clo f):=(rfl)
@[go_sem] theorem Zr5 {n:Nat} {f:FuncId} {a b c:AV}:frz M (n+1) (.clo f [a,b,c])=(optL [frz M n a,frz M n b,frz M n c]).map (.clo f):=(rfl)
@[go_sem] theorem Zr8 {n:Nat} {f:FuncId} {a b c d:AV}:frz M (n+1) (.clo f [a,b,c,d])=(optL [frz M n a,frz M n b,frz M n c,frz M n d]).map (.clo f):=(rfl)
@[go_sem] theorem ZsR {n l v i:Nat} {j:Option Nat}:frz M (n+1) (.ptr l v i j)=match M.m l with
 | some (.arr v' _ _ xs)=>if v'=v then ((xs[i]?).bind (fldD · j)).map .ptr else none
 | some (.box v' x)=>if v'=v∧i=0 then match fldA M x j with|some y=>(frz M n y).map .ptr|none=>none else none
 | none=>none:=(rfl)
@[go_sem] theorem Ztk {n l v off len sz:Nat}:frz M (n+1) (.sl l v off len sz)=match M.m l with
 | some (.arr v' _ sz' xs)=>if v'=v∧sz'=sz∧off+len≤xs.length then some (.sl sz ((xs.drop off).take len)) else none
 | _=>none:=(rfl)
@[go_sem] theorem Ztm {n l v r i:Nat} {j:Option Nat}:frz M (n+1) (.ref l v r i j)=if r=M.r∧r≠0 then (placeD M l v i j).map (·.2) else none:=(rfl)
@[go_sem] theorem ZrY {n e:Nat} {d:D}:frz M (n+1) (.dat (some e) d)=if vD M (some e) then some d else none:=(rfl)
@[go_sem] theorem ZsK {n e:Nat} {d:D}:frz M (n+1) (.dp (some e) d)=if vD M (some e) then some (.ptr d) else none:=(rfl)
@[go_sem] theorem ZtC {e:Nat}:vD M (some e)=(e == M.e):=(rfl)
@[go_sem] theorem ZvB {l l':Nat} {o:Option Obj}:(M.set l o).m l'=if l'=l then o else M.m l':=(rfl)
@[go_sem] theorem Zvj {l:Nat} {o:Option Obj}:(M.set l o).e=M.e:=(rfl)
@[go_sem] theorem Zvs {l:Nat} {o:Option Obj}:(M.set l o).r=M.r:=(rfl)
@[go_sem] theorem Zvx {l:Nat} {o:Option Obj}:(M.set l o).c=M.c:=(rfl)
@[go_sem] theorem Zuf {k l:Nat}:(M.bump k).m l=M.m l:=(rfl)
@[go_sem] theorem ZuP {k:Nat}:(M.bump k).e=M.e:=(rfl)
@[go_sem] theorem Zuz {k:Nat}:(M.bump k).r=M.r:=(rfl)
@[go_sem] theorem ZuJ {k:Nat}:(M.bump k).c=M.c+k:=(rfl)
@[go_sem] theorem Zs5 {l:Nat}:M.tickR.m l=M.m l:=(rfl)
@[go_sem] theorem ZsG:M.tickR.e=M.e:=(rfl)
@[go_sem] theorem ZsT:M.tickR.r=M.r+1:=(rfl)
@[go_sem] theorem ZtT:M.tickR.c=M.c:=(rfl)
@[go_sem] theorem Zvl {l:Nat}:M00.m l=none:=(rfl)
@[go_sem] theorem Zve:M00.e=0:=(rfl)
@[go_sem] theorem Zvo:M00.r=1:=(rfl)
@[go_sem] theorem Zvh:M00.c=0:=(rfl)
end
section
variable {P:Program} {s:Nat→AV} {M:Mem}
@[go_sem] theorem Zqq {as:List AV} {t:Nat}:slots0 as t=(as[t]?).getD .bad:=(rfl)
@[go_sem] theorem Zrb {nb ib k:Nat} {ds:List D}:bindA nb ib [] ds k M=([],k,M):=by simp [bindA]
@[go_sem] theorem ZrW {nb ib k:Nat} {ms:List Md} {d:D} {ds:List D}:bindA nb ib (.ro::ms) (d::ds) k M=(bindRo d::(bindA nb ib ms ds k M).1,(bindA nb ib ms ds k M).2):=by simp [bindA,Md.own]
@[go_sem] theorem ZrK {nb ib k:Nat} {ms:List Md} {d:D} {ds:List D}:bindA nb ib (.io::ms) (d::ds) k M =
 ((bindD nb ib d k M).1::(bindA nb ib ms ds (bindD nb ib d k M).2.1 (bindD nb ib d k M).2.2).1,(bindA nb ib ms ds (bindD nb ib d k M).2.1 (bindD nb ib d k M).2.2).2):=by simp [bindA,Md.own]
@[go_sem] theorem Zr1 {nb ib k:Nat} {ms:List Md} {d:D} {ds:List D}:bindA nb ib (.co::ms) (d::ds) k M =
 ((bindD nb ib d k M).1::(bindA nb ib ms ds (bindD nb ib d k M).2.1 (bindD nb ib d k M).2.2).1,(bindA nb ib ms ds (bindD nb ib d k M).2.1 (bindD nb ib d k M).2.2).2):=by simp [bindA,Md.own]
def endW (o:Option (List AV)) (ios:List AV) (M:Mem) (r:D) (outs:List D):Prop:=match o with
 | none=>False
 | some xs=>match takL (tak 8) (xs++ios) M with
  | none=>False
  | some (all,_)=>mkR (all.take xs.length)=r∧all.drop xs.length=outs
@[go_sem ↓] theorem Zuu {res:List RV} {ios:List AV} {r:D} {outs:List D}:finP res ios r outs .n s M=endW (optL (res.map (resV1 s M))) ios M r outs:=by
 simp only [finP,endW,true_and]
 all_goals (cases optL (res.map (resV1 s M))<;>rfl)
@[go_sem ↓] theorem Zut {res:List RV} {ios:List AV} {r:D} {outs:List D}:finP res ios r outs .r s M=endW (optL (res.map (resV1 s M))) ios M r outs:=by
 simp only [finP,endW,true_and]
 all_goals (cases optL (res.map (resV1 s M))<;>rfl)
end
def RunF (P:Program) (code:KC) (res:List RV) (ms:List Md) (b:List AV×Nat×Mem) (r:D) (outs:List D):Prop:=Wp P code (finP res (ioA ms b.1) r outs) (slots0 b.1) (b.2.2.bump b.2.1)
section
variable {P:Program} {s:Nat→AV} {M:Mem}
@[go_sem] theorem Zrx {code:KC} {res:List RV} {ms:List Md} {as:List AV} {k:Nat} {r:D} {outs:List D}:RunF P code res ms (as,k,M) r outs = @R P code (slots0 as) (M.bump k) ⟨finP res (ioA ms as) r outs⟩:=(rfl)
@[congr] theorem Zqc {code : KC} {res : List RV} {ms : List Md} {b b' : List AV × Nat × Mem} {r : D} {outs : List D} (h : b = b') : RunF P code res ms b r outs = RunF P code res ms b' r outs := by rw [h]
theorem Zak {f:FuncId} {fi:FI} {ms:List Md} {ds:List D} {r:D} {outs:List D} {res:List RV} {code:KC} (hc:chkF P f ms.length fi=true) (hfi:fi = { res:=res,code:=code })
 (h:RunF P code res ms (bindA 0 0 ms ds 0 M00) r outs):FCt P f ms ds r outs:=by
 subst hfi
 exact Zq2 hc h
end
@[go_sem] theorem ZsE {d:D}:mkR [d]=d:=(rfl)
@[go_sem] theorem Zto {a b:D}:mkR [a,b]=.tup [a,b]:=(rfl)
@[go_sem] theorem Zqe {a b c:D}:mkR [a,b,c]=.tup [a,b,c]:=(rfl)
@[go_sem] theorem Zs4:mkR []=.tup []:=(rfl)
attribute [go_sem] endW resV1 ioA
section
variable {P:Program} {s:Nat→AV} {M:Mem}
theorem ZaI {c:KC} {K:Post} {α:Type} (I:α→(Nat→AV)→Mem→Prop) (μ:α→Nat) (a0:α) (h0:I a0 s M)
 (h:∀ a s' M',I a s' M'→Off c.ws s s'→@R P c s' M' ⟨Post.seq (Rnd I μ a) K⟩):@R P (.loop c) s M ⟨K⟩:=Zn5 I μ a0 h0 h
theorem ZtF {c:KC} {K:Post} (Q:Post) (h:@R P c s M ⟨Q⟩) (hk:∀ e s' M',Q e s' M'→Off c.ws s s'→K e s' M'):@R P c s M ⟨K⟩:=Zh7 Q h hk
theorem Zux {nb ib:Nat} {es:List Ent} {lg:Lg} {K:(Nat→AV)→Mem→Prop} (Q:(Nat→AV)→Mem→Prop) (h:@RE P nb ib es s M lg ⟨Q⟩) (hk:∀ s' M',Q s' M'→Off (dsE es) s s'→K s' M'):@RE P nb ib es s M lg ⟨K⟩ :=
 Zcz es s M lg (ZiJ es s M lg h) fun s' M' hh=>hk s' M' hh.1 hh.2
end
theorem Zaj {x:Int} (h1:-9223372036854775808≤x) (h2:x≤9223372036854775807):IntKind.i64.wrap x=x:=by
 simp [IntKind.wrap,IntKind.signed,IntKind.bits,Int.bmod];omega
attribute [go_sem] stp stpLoad stpLen stpIad stpStore stpSlc stpSls stpApp mvE bindD isBad isAg isAgD AV.size D.size fldA fldD setA setD gd isSc isSc1 ldD dbin ibin isShift dun frzR coldA coldA1 noRs noRsL optL
 oneA oneD okA tak takL rsOk rsOk1 rsD rs1 slD sl1 hasRs hasRs1 placeD lsOf opI nrmS fldsOf eqL eqS1
attribute [go_sem] decide_true decide_false Option.map_some Option.map_none Option.bind_some Option.getD_some List.map_cons List.map_nil List.getElem?_cons_zero List.getElem?_cons_succ List.append_nil List.cons_append List.nil_append Bool.and_true Bool.true_and Bool.not_true Bool.not_false if_true if_false List.take_succ_cons List.take_zero List.take_nil List.drop_succ_cons List.drop_zero List.drop_nil List.length_cons List.length_nil Nat.zero_add and_true true_and and_self and_false false_and Bool.and_false Bool.false_and Bool.or_true Bool.or_false Bool.true_or Bool.false_or List.all_cons List.all_nil List.any_cons List.any_nil beq_self_eq_true List.length_map List.getElem?_map Int.natCast_nonneg Int.toNat_natCast bne_self_eq_false ne_eq not_false_eq_true not_true_eq_false or_true true_or or_false false_or List.set_cons_zero List.set_cons_succ Nat.le_refl Bool.not_eq_true Bool.false_eq_true
end Go.Vm
namespace Go.Vm
open Go
set_option linter.unusedSimpArgs false
set_option linter.unusedVariables false
def EX (j:Nat) (d:Option Nat) (g:Option (Nat×Bool)) (k:KO) (kd:Nat) (hs hd:List Nat) (w:Bool):Ent:={ j:=j,d:=d,g:=g,k:=k,kd:=kd,hs:=hs,hd:=hd,w:=w }
def EP (j:Nat) (d:Option Nat) (g:Option (Nat×Bool)) (k:KO) (kd:Nat) (w:Bool):Ent:={ j:=j,d:=d,g:=g,k:=k,kd:=kd,w:=w }
def hdM (nb:Nat) (lg:Lg) (hs hd:List Nat) (M:Mem):Mem:={ M with m:=fun l=>if hs.any (inR nb · l)||hd.any (lg · l) then none else M.m l,r:=if hd=[] then M.r else 0 }
def mgM (T:Nat→Bool) (hd:List Nat) (Mh M1 M:Mem):Mem:={ m:=fun l=>if wrt T Mh M1 l then M1.m l else M.m l,e:=M1.e,r:=if hd=[] then M1.r else M.r,c:=M.c }
def okW (kd nb j:Nat) (Mh N:Mem) (T:Nat→Bool) [A:CQ]:Prop:=((kd=1→∀ l,inR nb j l=false→T l=false∧N.m l=Mh.m l)∧(kd=2→∀ l,T l=false∧N.m l=Mh.m l))∧A.p
def okP (kd nb j:Nat) (k:KO) (M N:Mem) (T:Nat→Bool) [A:CQ]:Prop:=((kd=1→∀ l,inR nb j l=false→T l=false∧N.m l=M.m l)∧(kd=2→rdK k=false→(∀ l,T l=false)∧N=M))∧A.p
section
variable {P:Program} {s:Nat→AV} {M:Mem} {nb ib:Nat} {lg:Lg} {es:List Ent}
theorem Zo3 {e : Ent} {K : (Nat → AV) → Mem → Prop} (h : plE e = false) (hb : e.b = false := by rfl) : @RE P nb ib (e :: es) s M lg ⟨K⟩ = match e.g with
      | none=>@KS P s (hdM nb lg e.hs e.hd M) (nb+64 * e.j) (ib+64 * e.j) e.k ⟨fun a N T=>@okW e.kd nb e.j (hdM nb lg e.hs e.hd M) N T ⟨@RE P nb ib es (updO s e.d a) (mgM T e.hd (hdM nb lg e.hs e.hd M) N M) (if e.w then upd lg e.j (wrt T (hdM nb lg e.hs e.hd M) N) else lg) ⟨K⟩⟩⟩
      | some (t,b)=>@gdW (gB (s t)) b ⟨@KS P s (hdM nb lg e.hs e.hd M) (nb+64 * e.j) (ib+64 * e.j) e.k ⟨fun a N T=>@okW e.kd nb e.j (hdM nb lg e.hs e.hd M) N T ⟨@RE P nb ib es (updO s e.d a) (mgM T e.hd (hdM nb lg e.hs e.hd M) N M) (if e.w then upd lg e.j (wrt T (hdM nb lg e.hs e.hd M) N) else lg) ⟨K⟩⟩⟩⟩ ⟨@RE P nb ib es (updO s e.d (.tup [])) M lg ⟨K⟩⟩:=by
 show WpE P nb ib (e::es) s M lg K=_
 simp only [WpE,h,Bool.false_eq_true,if_false]
 have eB:∀ a A B,OkB e a A B=True:=fun a A B=>eq_true fun q=>by rw [hb] at q;cases q
 have eH:hid nb lg e M=hdM nb lg e.hs e.hd M:=by simp only [hid,hdM,hb,hidB,Bool.false_eq_true,if_false];rfl
 unfold exR
 simp only [eB,true_and,eH]
 cases hg:e.g with
 | none=>rfl
 | some p =>
  obtain ⟨t,b⟩:=p
  simp only [gdS,gB]
  split
  · rename_i hx
    split at hx<;>first|(cases hx;done)|(rename_i h1;simp [h1,gdW])
  · rename_i hx
    split at hx
    · rename_i x h1
      simp only [h1,gdW]
      rw [if_neg (by simpa using hx)]
      rfl
    · rename_i h1;simp [h1,gdW];rfl
    · cases hx
  · rename_i hx
    split at hx
    · rename_i x h1
      simp only [h1,gdW]
      rw [if_pos (by simpa using hx)]
      rfl
    · cases hx
    · cases hx
def noH (hs hd:List Nat):Bool:=match hs,hd with|[],[]=>true|_,_=>false
theorem Zkz {j d:Nat} {k:KO} {kd:Nat} {hs hd:List Nat} {w:Bool} {K:(Nat→AV)→Mem→Prop} (h:noH hs hd=false) :
 @RE P nb ib (EX j (some d) none k kd hs hd w::es) s M lg ⟨K⟩ = @KS P s (hdM nb lg hs hd M) (nb+64 * j) (ib+64 * j) k ⟨fun a N T=>@okW kd nb j (hdM nb lg hs hd M) N T ⟨@RE P nb ib es (upd s d a) (mgM T hd (hdM nb lg hs hd M) N M) (if w then upd lg j (wrt T (hdM nb lg hs hd M) N) else lg) ⟨K⟩⟩⟩ :=
 Zo3 (e:=EX j (some d) none k kd hs hd w) h
theorem Zmo {j:Nat} {k:KO} {kd:Nat} {hs hd:List Nat} {w:Bool} {K:(Nat→AV)→Mem→Prop} (h:noH hs hd=false) :
 @RE P nb ib (EX j none none k kd hs hd w::es) s M lg ⟨K⟩ = @KS P s (hdM nb lg hs hd M) (nb+64 * j) (ib+64 * j) k ⟨fun a N T=>@okW kd nb j (hdM nb lg hs hd M) N T ⟨@RE P nb ib es s (mgM T hd (hdM nb lg hs hd M) N M) (if w then upd lg j (wrt T (hdM nb lg hs hd M) N) else lg) ⟨K⟩⟩⟩ :=
 Zo3 (e:=EX j none none k kd hs hd w) h
theorem ZjW {j d t:Nat} {b:Bool} {k:KO} {kd:Nat} {hs hd:List Nat} {w:Bool} {K:(Nat→AV)→Mem→Prop} (h:noH hs hd=false) :
 @RE P nb ib (EX j (some d) (some (t,b)) k kd hs hd w::es) s M lg ⟨K⟩ = @gdW (gB (s t)) b ⟨@KS P s (hdM nb lg hs hd M) (nb+64 * j) (ib+64 * j) k ⟨fun a N T=>@okW kd nb j (hdM nb lg hs hd M) N T ⟨@RE P nb ib es (upd s d a) (mgM T hd (hdM nb lg hs hd M) N M) (if w then upd lg j (wrt T (hdM nb lg hs hd M) N) else lg) ⟨K⟩⟩⟩⟩ ⟨@RE P nb ib es (upd s d (.tup [])) M lg ⟨K⟩⟩ :=
 Zo3 (e:=EX j (some d) (some (t,b)) k kd hs hd w) h
@[go_sem ↓] theorem EXn1f {j d:Nat} {k:KO} {kd x:Nat} {hs hd:List Nat} {K:(Nat→AV)→Mem→Prop} :
 @RE P nb ib (EX j (some d) none k kd (x::hs) hd false::es) s M lg ⟨K⟩ = @KS P s (hdM nb lg (x::hs) hd M) (nb+64 * j) (ib+64 * j) k ⟨fun a N T=>@okW kd nb j (hdM nb lg (x::hs) hd M) N T ⟨@RE P nb ib es (upd s d a) (mgM T hd (hdM nb lg (x::hs) hd M) N M) lg ⟨K⟩⟩⟩:=Zkz rfl
@[go_sem ↓] theorem EXn1t {j d:Nat} {k:KO} {kd x:Nat} {hs hd:List Nat} {K:(Nat→AV)→Mem→Prop} :
 @RE P nb ib (EX j (some d) none k kd (x::hs) hd true::es) s M lg ⟨K⟩ = @KS P s (hdM nb lg (x::hs) hd M) (nb+64 * j) (ib+64 * j) k ⟨fun a N T=>@okW kd nb j (hdM nb lg (x::hs) hd M) N T ⟨@RE P nb ib es (upd s d a) (mgM T hd (hdM nb lg (x::hs) hd M) N M) (upd lg j (wrt T (hdM nb lg (x::hs) hd M) N)) ⟨K⟩⟩⟩:=Zkz rfl
@[go_sem ↓] theorem EXn2f {j d:Nat} {k:KO} {kd x:Nat} {hd:List Nat} {K:(Nat→AV)→Mem→Prop} :
 @RE P nb ib (EX j (some d) none k kd [] (x::hd) false::es) s M lg ⟨K⟩ = @KS P s (hdM nb lg [] (x::hd) M) (nb+64 * j) (ib+64 * j) k ⟨fun a N T=>@okW kd nb j (hdM nb lg [] (x::hd) M) N T ⟨@RE P nb ib es (upd s d a) (mgM T (x::hd) (hdM nb lg [] (x::hd) M) N M) lg ⟨K⟩⟩⟩:=Zkz rfl
@[go_sem ↓] theorem EXn2t {j d:Nat} {k:KO} {kd x:Nat} {hd:List Nat} {K:(Nat→AV)→Mem→Prop} :
 @RE P nb ib (EX j (some d) none k kd [] (x::hd) true::es) s M lg ⟨K⟩ = @KS P s (hdM nb lg [] (x::hd) M) (nb+64 * j) (ib+64 * j) k ⟨fun a N T=>@okW kd nb j (hdM nb lg [] (x::hd) M) N T ⟨@RE P nb ib es (upd s d a) (mgM T (x::hd) (hdM nb lg [] (x::hd) M) N M) (upd lg j (wrt T (hdM nb lg [] (x::hd) M) N)) ⟨K⟩⟩⟩:=Zkz rfl
@[go_sem ↓] theorem ZuE {j:Nat} {k:KO} {kd x:Nat} {hs hd:List Nat} {K:(Nat→AV)→Mem→Prop} :
 @RE P nb ib (EX j none none k kd (x::hs) hd false::es) s M lg ⟨K⟩ = @KS P s (hdM nb lg (x::hs) hd M) (nb+64 * j) (ib+64 * j) k ⟨fun a N T=>@okW kd nb j (hdM nb lg (x::hs) hd M) N T ⟨@RE P nb ib es s (mgM T hd (hdM nb lg (x::hs) hd M) N M) lg ⟨K⟩⟩⟩:=Zmo rfl
@[go_sem ↓] theorem ZuR {j:Nat} {k:KO} {kd x:Nat} {hs hd:List Nat} {K:(Nat→AV)→Mem→Prop} :
 @RE P nb ib (EX j none none k kd (x::hs) hd true::es) s M lg ⟨K⟩ = @KS P s (hdM nb lg (x::hs) hd M) (nb+64 * j) (ib+64 * j) k ⟨fun a N T=>@okW kd nb j (hdM nb lg (x::hs) hd M) N T ⟨@RE P nb ib es s (mgM T hd (hdM nb lg (x::hs) hd M) N M) (upd lg j (wrt T (hdM nb lg (x::hs) hd M) N)) ⟨K⟩⟩⟩:=Zmo rfl
@[go_sem ↓] theorem EXg1f {j d t:Nat} {b:Bool} {k:KO} {kd x:Nat} {hs hd:List Nat} {K:(Nat→AV)→Mem→Prop} :
 @RE P nb ib (EX j (some d) (some (t,b)) k kd (x::hs) hd false::es) s M lg ⟨K⟩ = @gdW (gB (s t)) b ⟨@KS P s (hdM nb lg (x::hs) hd M) (nb+64 * j) (ib+64 * j) k ⟨fun a N T=>@okW kd nb j (hdM nb lg (x::hs) hd M) N T ⟨@RE P nb ib es (upd s d a) (mgM T hd (hdM nb lg (x::hs) hd M) N M) lg ⟨K⟩⟩⟩⟩ ⟨@RE P nb ib es (upd s d (.tup [])) M lg ⟨K⟩⟩:=ZjW rfl
@[go_sem ↓] theorem EXg1t {j d t:Nat} {b:Bool} {k:KO} {kd x:Nat} {hs hd:List Nat} {K:(Nat→AV)→Mem→Prop} :
 @RE P nb ib (EX j (some d) (some (t,b)) k kd (x::hs) hd true::es) s M lg ⟨K⟩ = @gdW (gB (s t)) b ⟨@KS P s (hdM nb lg (x::hs) hd M) (nb+64 * j) (ib+64 * j) k ⟨fun a N T=>@okW kd nb j (hdM nb lg (x::hs) hd M) N T ⟨@RE P nb ib es (upd s d a) (mgM T hd (hdM nb lg (x::hs) hd M) N M) (upd lg j (wrt T (hdM nb lg (x::hs) hd M) N)) ⟨K⟩⟩⟩⟩ ⟨@RE P nb ib es (upd s d (.tup [])) M lg ⟨K⟩⟩:=ZjW rfl
@[go_sem ↓] theorem EXg2f {j d t:Nat} {b:Bool} {k:KO} {kd x:Nat} {hd:List Nat} {K:(Nat→AV)→Mem→Prop} :
 @RE P nb ib (EX j (some d) (some (t,b)) k kd [] (x::hd) false::es) s M lg ⟨K⟩ = @gdW (gB (s t)) b ⟨@KS P s (hdM nb lg [] (x::hd) M) (nb+64 * j) (ib+64 * j) k ⟨fun a N T=>@okW kd nb j (hdM nb lg [] (x::hd) M) N T ⟨@RE P nb ib es (upd s d a) (mgM T (x::hd) (hdM nb lg [] (x::hd) M) N M) lg ⟨K⟩⟩⟩⟩ ⟨@RE P nb ib es (upd s d (.tup [])) M lg ⟨K⟩⟩:=ZjW rfl
@[go_sem ↓] theorem EXg2t {j d t:Nat} {b:Bool} {k:KO} {kd x:Nat} {hd:List Nat} {K:(Nat→AV)→Mem→Prop} :
 @RE P nb ib (EX j (some d) (some (t,b)) k kd [] (x::hd) true::es) s M lg ⟨K⟩ = @gdW (gB (s t)) b ⟨@KS P s (hdM nb lg [] (x::hd) M) (nb+64 * j) (ib+64 * j) k ⟨fun a N T=>@okW kd nb j (hdM nb lg [] (x::hd) M) N T ⟨@RE P nb ib es (upd s d a) (mgM T (x::hd) (hdM nb lg [] (x::hd) M) N M) (upd lg j (wrt T (hdM nb lg [] (x::hd) M) N)) ⟨K⟩⟩⟩⟩ ⟨@RE P nb ib es (upd s d (.tup [])) M lg ⟨K⟩⟩:=ZjW rfl
@[go_sem ↓] theorem Ztv {j d:Nat} {k:KO} {kd:Nat} {K:(Nat→AV)→Mem→Prop} :
 @RE P nb ib (EP j (some d) none k kd false::es) s M lg ⟨K⟩ = @KS P s M (nb+64 * j) (ib+64 * j) k ⟨fun a N T=>@okP kd nb j k M N T ⟨@RE P nb ib es (upd s d a) N lg ⟨K⟩⟩⟩ :=
 ZaB (e:=EP j (some d) none k kd false) rfl fun a N T=>and_assoc.symm
@[go_sem ↓] theorem Ztc {j d:Nat} {k:KO} {kd:Nat} {K:(Nat→AV)→Mem→Prop} :
 @RE P nb ib (EP j (some d) none k kd true::es) s M lg ⟨K⟩ = @KS P s M (nb+64 * j) (ib+64 * j) k ⟨fun a N T=>@okP kd nb j k M N T ⟨@RE P nb ib es (upd s d a) N (upd lg j (wrt T M N)) ⟨K⟩⟩⟩ :=
 ZaB (e:=EP j (some d) none k kd true) rfl fun a N T=>and_assoc.symm
@[go_sem ↓] theorem Zsh {j:Nat} {k:KO} {kd:Nat} {K:(Nat→AV)→Mem→Prop} :
 @RE P nb ib (EP j none none k kd false::es) s M lg ⟨K⟩ = @KS P s M (nb+64 * j) (ib+64 * j) k ⟨fun a N T=>@okP kd nb j k M N T ⟨@RE P nb ib es s N lg ⟨K⟩⟩⟩ :=
 ZaB (e:=EP j none none k kd false) rfl fun a N T=>and_assoc.symm
@[go_sem ↓] theorem Zrv {j:Nat} {k:KO} {kd:Nat} {K:(Nat→AV)→Mem→Prop} :
 @RE P nb ib (EP j none none k kd true::es) s M lg ⟨K⟩ = @KS P s M (nb+64 * j) (ib+64 * j) k ⟨fun a N T=>@okP kd nb j k M N T ⟨@RE P nb ib es s N (upd lg j (wrt T M N)) ⟨K⟩⟩⟩ :=
 ZaB (e:=EP j none none k kd true) rfl fun a N T=>and_assoc.symm
@[go_sem] theorem Zvt {hs hd:List Nat} {l:Nat}:(hdM nb lg hs hd M).m l=if hs.any (inR nb · l)||hd.any (lg · l) then none else M.m l:=(rfl)
@[go_sem] theorem Zu7 {hs hd:List Nat}:(hdM nb lg hs hd M).e=M.e:=(rfl)
@[go_sem] theorem ZvK {hs hd:List Nat}:(hdM nb lg hs hd M).c=M.c:=(rfl)
@[go_sem] theorem Zuy {hs:List Nat}:(hdM nb lg hs [] M).r=M.r:=(rfl)
@[go_sem] theorem Zvz {T:Nat→Bool} {hd:List Nat} {Mh N:Mem} {l:Nat}:(mgM T hd Mh N M).m l=if wrt T Mh N l then N.m l else M.m l:=(rfl)
@[go_sem] theorem Zu6 {T:Nat→Bool} {hd:List Nat} {Mh N:Mem}:(mgM T hd Mh N M).e=N.e:=(rfl)
@[go_sem] theorem ZvJ {T:Nat→Bool} {hd:List Nat} {Mh N:Mem}:(mgM T hd Mh N M).c=M.c:=(rfl)
@[go_sem] theorem Zuk {T:Nat→Bool} {Mh N:Mem}:(mgM T [] Mh N M).r=N.r:=(rfl)
@[go_sem] theorem Zt4 {T:Nat→Bool} {x:Nat} {hd:List Nat} {Mh N:Mem}:(mgM T (x::hd) Mh N M).r=M.r:=(rfl)
@[go_sem] theorem ZsO {T:Nat→Bool} {N:Mem} {l:Nat}:wrt T M N l=(((M.m l).isSome&&(N.m l).isNone)||T l):=(rfl)
@[go_sem] theorem ZvI {j:Nat} {Mh N:Mem} {T:Nat→Bool} {A:Prop}:@okW 0 nb j Mh N T ⟨A⟩=A:=by simp [okW]
theorem ZfN {j n:Nat} {x:I} {A:Prop} (h:rdI x=true):@okW 2 nb j M M (tgt s n x) ⟨A⟩=A:=by
 have:∀ l,tgt s n x l=false:=fun l=>by cases x<;>simp [rdI,zk] at h<;>rfl
 simp [okW,this]
@[go_sem ↓] theorem ZrA {j n:Nat} {A:Prop}:@okW 2 nb j M M (fun l=>decide (n≤l)&&decide (l < n+0)) ⟨A⟩=A:=by
 unfold okW
 refine propext ⟨fun h=>h.2,fun h=>⟨⟨fun q=>absurd q (by decide),fun _ l=>⟨?_,rfl⟩⟩,h⟩⟩
 simp only [Nat.add_zero,Bool.and_eq_false_iff,decide_eq_false_iff_not]
 omega
theorem Zps {j:Nat} {n:Nat} {x:X} {o:Option Obj} {A:Prop} (hn:n=nb+64 * j) (h:A):@okW 1 nb j M (M.set n o) (tgt s n (.box x)) ⟨A⟩:=by
 refine ⟨⟨fun _ l hl=>?_,fun h=>by cases h⟩,h⟩
 subst hn
 have:l≠nb+64 * j:=fun e=>by subst e;simp [inR] at hl
 simp [tgt,this,Mem.set,upd]
@[go_sem ↓] theorem Zr3 {j n:Nat} {h ag:Bool} {k:Nat} {p:X} {A:Prop}:@okW 2 nb j M M (tgt s n (.load h ag k p)) ⟨A⟩=A:=ZfN rfl
@[go_sem ↓] theorem Zsk {j n:Nat} {k:Nat} {p:X} {lo hi:Option X} {A:Prop}:@okW 2 nb j M M (tgt s n (.slc k p lo hi)) ⟨A⟩=A:=ZfN rfl
@[go_sem ↓] theorem ZtY {j n:Nat} {k:Nat} {p:X} {A:Prop}:@okW 2 nb j M M (tgt s n (.fad k p)) ⟨A⟩=A:=ZfN rfl
@[go_sem ↓] theorem ZsW {j n:Nat} {k:Nat} {p q:X} {A:Prop}:@okW 2 nb j M M (tgt s n (.iad k p q)) ⟨A⟩=A:=ZfN rfl
@[go_sem ↓] theorem Zti {j n:Nat} {k:Nat} {p:X} {A:Prop}:@okW 2 nb j M M (tgt s n (.ext k p)) ⟨A⟩=A:=ZfN rfl
@[go_sem ↓] theorem Ztp {j n:Nat} {p:X} {A:Prop}:@okW 2 nb j M M (tgt s n (.len p)) ⟨A⟩=A:=ZfN rfl
@[go_sem ↓] theorem ZtA {j n:Nat} {ps:List X} {A:Prop}:@okW 2 nb j M M (tgt s n (.bld ps)) ⟨A⟩=A:=ZfN rfl
theorem Zhx {T:Nat→Bool} {hs hd:List Nat} (hT:∀ l,T l=false):mgM T hd (hdM nb lg hs hd M) (hdM nb lg hs hd M) M=M:=by
 unfold mgM
 have e1:(fun l=>if wrt T (hdM nb lg hs hd M) (hdM nb lg hs hd M) l=true then (hdM nb lg hs hd M).m l else M.m l)=M.m:=by
  funext l
  have:wrt T (hdM nb lg hs hd M) (hdM nb lg hs hd M) l=false:=by
   simp only [wrt,hT,Bool.or_false]
   cases (hdM nb lg hs hd M).m l<;>rfl
  rw [this];simp
 rw [e1]
 have e2:(if hd=[] then (hdM nb lg hs hd M).r else M.r)=M.r:=by
  split
  · rename_i h;subst h;rfl
  · rfl
 rw [e2]
 rfl
theorem ZhL {T:Nat→Bool} {hs hd:List Nat} {n:Nat} {o:Obj} (hT:∀ l,T l=decide (l=n)):mgM T hd (hdM nb lg hs hd M) ((hdM nb lg hs hd M).set n (some o)) M=M.set n (some o):=by
 unfold mgM
 have e1:(fun l=>if wrt T (hdM nb lg hs hd M) ((hdM nb lg hs hd M).set n (some o)) l=true then ((hdM nb lg hs hd M).set n (some o)).m l else M.m l)=(M.set n (some o)).m:=by
  funext l
  by_cases hl:l=n
  · subst hl;simp [wrt,hT,Mem.set,upd]
  · have:wrt T (hdM nb lg hs hd M) ((hdM nb lg hs hd M).set n (some o)) l=false:=by
     simp only [wrt,hT,hl,decide_false,Bool.or_false,Zbj hl]
     cases (hdM nb lg hs hd M).m l<;>rfl
    rw [this];simp [Zbj hl]
 rw [e1]
 have e2:(if hd=[] then ((hdM nb lg hs hd M).set n (some o)).r else M.r)=M.r:=by
  split
  · rename_i h;subst h;rfl
  · rfl
 rw [e2]
 rfl
theorem Zi7 {hs hd:List Nat} {n:Nat} {x:I} {lg':Lg} {K:(Nat→AV)→Mem→Prop} (h:rdI x=true) {s':Nat→AV} :
 @RE P nb ib es s' (mgM (tgt s n x) hd (hdM nb lg hs hd M) (hdM nb lg hs hd M) M) lg' ⟨K⟩ = @RE P nb ib es s' M lg' ⟨K⟩:=by
 rw [Zhx fun l=>by cases x<;>simp [rdI,zk] at h<;>rfl]
section
variable {hs hd:List Nat} {n:Nat} {lg':Lg} {K:(Nat→AV)→Mem→Prop} {s':Nat→AV}
@[go_sem ↓ high] theorem Zr2 {h ag:Bool} {k:Nat} {p:X}:@RE P nb ib es s' (mgM (tgt s n (.load h ag k p)) hd (hdM nb lg hs hd M) (hdM nb lg hs hd M) M) lg' ⟨K⟩ = @RE P nb ib es s' M lg' ⟨K⟩:=Zi7 rfl
@[go_sem ↓ high] theorem Ztw {k:Nat} {p:X} {lo hi:Option X}:@RE P nb ib es s' (mgM (tgt s n (.slc k p lo hi)) hd (hdM nb lg hs hd M) (hdM nb lg hs hd M) M) lg' ⟨K⟩ = @RE P nb ib es s' M lg' ⟨K⟩:=Zi7 rfl
@[go_sem ↓ high] theorem ZtS {k:Nat} {p:X}:@RE P nb ib es s' (mgM (tgt s n (.fad k p)) hd (hdM nb lg hs hd M) (hdM nb lg hs hd M) M) lg' ⟨K⟩ = @RE P nb ib es s' M lg' ⟨K⟩:=Zi7 rfl
@[go_sem ↓ high] theorem ZsV {k:Nat} {p q:X}:@RE P nb ib es s' (mgM (tgt s n (.iad k p q)) hd (hdM nb lg hs hd M) (hdM nb lg hs hd M) M) lg' ⟨K⟩ = @RE P nb ib es s' M lg' ⟨K⟩:=Zi7 rfl
@[go_sem ↓ high] theorem Zs6 {k:Nat} {p:X}:@RE P nb ib es s' (mgM (tgt s n (.ext k p)) hd (hdM nb lg hs hd M) (hdM nb lg hs hd M) M) lg' ⟨K⟩ = @RE P nb ib es s' M lg' ⟨K⟩:=Zi7 rfl
@[go_sem ↓ high] theorem Zs7 {p:X}:@RE P nb ib es s' (mgM (tgt s n (.len p)) hd (hdM nb lg hs hd M) (hdM nb lg hs hd M) M) lg' ⟨K⟩ = @RE P nb ib es s' M lg' ⟨K⟩:=Zi7 rfl
@[go_sem ↓ high] theorem ZsU {ps:List X}:@RE P nb ib es s' (mgM (tgt s n (.bld ps)) hd (hdM nb lg hs hd M) (hdM nb lg hs hd M) M) lg' ⟨K⟩ = @RE P nb ib es s' M lg' ⟨K⟩:=Zi7 rfl
@[go_sem ↓ high] theorem ZtV {p:X} {o:Obj}:@RE P nb ib es s' (mgM (tgt s n (.box p)) hd (hdM nb lg hs hd M) ((hdM nb lg hs hd M).set n (some o)) M) lg' ⟨K⟩ = @RE P nb ib es s' (M.set n (some o)) lg' ⟨K⟩:=by
 rw [ZhL fun l=>by simp only [tgt];rw [Bool.eq_iff_iff];simp]
@[go_sem ↓ high] theorem ZqD:@RE P nb ib es s' (mgM (fun l=>decide (n≤l)&&decide (l < n+0)) hd (hdM nb lg hs hd M) (hdM nb lg hs hd M) M) lg' ⟨K⟩ = @RE P nb ib es s' M lg' ⟨K⟩:=by
 rw [Zhx fun l=>by simp only [Nat.add_zero,Bool.and_eq_false_iff,decide_eq_false_iff_not];omega]
@[go_sem ↓ high] theorem Zq8 {o:Obj}:@RE P nb ib es s' (mgM (fun l=>decide (n≤l)&&decide (l < n+1)) hd (hdM nb lg hs hd M) ((hdM nb lg hs hd M).set n (some o)) M) lg' ⟨K⟩ = @RE P nb ib es s' (M.set n (some o)) lg' ⟨K⟩:=by
 rw [ZhL fun l=>by rw [Bool.eq_iff_iff];simp only [Bool.and_eq_true,decide_eq_true_eq];omega]
end
@[go_sem] theorem Zvf {j:Nat} {k:KO} {N:Mem} {T:Nat→Bool} {A:Prop}:@okP 0 nb j k M N T ⟨A⟩=A:=by simp [okP]
theorem Zf1 {j:Nat} {k:KO} {N:Mem} {T:Nat→Bool} {A:Prop} (h:rdK k=true):@okP 2 nb j k M N T ⟨A⟩=A:=by simp [okP,h]
@[go_sem ↓] theorem Zro {j:Nat} {h ag:Bool} {n:Nat} {p:X} {N:Mem} {T:Nat→Bool} {A:Prop}:@okP 2 nb j (.i (.load h ag n p)) M N T ⟨A⟩=A:=Zf1 rfl
@[go_sem ↓] theorem Zss {j:Nat} {n:Nat} {p:X} {lo hi:Option X} {N:Mem} {T:Nat→Bool} {A:Prop}:@okP 2 nb j (.i (.slc n p lo hi)) M N T ⟨A⟩=A:=Zf1 rfl
@[go_sem ↓] theorem Zst {j:Nat} {n:Nat} {p:X} {N:Mem} {T:Nat→Bool} {A:Prop}:@okP 2 nb j (.i (.fad n p)) M N T ⟨A⟩=A:=Zf1 rfl
@[go_sem ↓] theorem ZsD {j:Nat} {n:Nat} {p q:X} {N:Mem} {T:Nat→Bool} {A:Prop}:@okP 2 nb j (.i (.iad n p q)) M N T ⟨A⟩=A:=Zf1 rfl
@[go_sem ↓] theorem ZtN {j:Nat} {n:Nat} {p:X} {N:Mem} {T:Nat→Bool} {A:Prop}:@okP 2 nb j (.i (.ext n p)) M N T ⟨A⟩=A:=Zf1 rfl
@[go_sem ↓] theorem ZtU {j:Nat} {p:X} {N:Mem} {T:Nat→Bool} {A:Prop}:@okP 2 nb j (.i (.len p)) M N T ⟨A⟩=A:=Zf1 rfl
@[go_sem ↓] theorem ZtK {j:Nat} {ps:List X} {N:Mem} {T:Nat→Bool} {A:Prop}:@okP 2 nb j (.i (.bld ps)) M N T ⟨A⟩=A:=Zf1 rfl
@[go_sem ↓] theorem ZrJ {j n:Nat} {k:KO} {A:Prop}:@okP 2 nb j k M M (fun l=>decide (n≤l)&&decide (l < n+0)) ⟨A⟩=A:=by
 unfold okP
 refine propext ⟨fun h=>h.2,fun h=>⟨⟨fun q=>absurd q (by decide),fun _ _=>⟨fun l=>?_,rfl⟩⟩,h⟩⟩
 simp only [Nat.add_zero,Bool.and_eq_false_iff,decide_eq_false_iff_not]
 omega
theorem Zpw {j:Nat} {n:Nat} {x:X} {k:KO} {o:Option Obj} {A:Prop} (hn:n=nb+64 * j) (h:A):@okP 1 nb j k M (M.set n o) (tgt s n (.box x)) ⟨A⟩:=by
 refine ⟨⟨fun _ l hl=>?_,fun h=>by cases h⟩,h⟩
 subst hn
 have:l≠nb+64 * j:=fun e=>by subst e;simp [inR] at hl
 simp [tgt,this,Mem.set,upd]
@[go_sem ↓] theorem ZrP {j:Nat} {n:Nat} {x:X} {o:Option Obj} {A:Prop} (hn:n=nb+64 * j):@okW 1 nb j M (M.set n o) (tgt s n (.box x)) ⟨A⟩=A:=propext ⟨fun h=>h.2,Zps hn⟩
@[go_sem ↓] theorem Zsa {j:Nat} {n:Nat} {x:X} {k:KO} {o:Option Obj} {A:Prop} (hn:n=nb+64 * j):@okP 1 nb j k M (M.set n o) (tgt s n (.box x)) ⟨A⟩=A:=propext ⟨fun h=>h.2,Zpw hn⟩
@[go_sem] theorem Zqm {l l' v i:Nat} {j:Option Nat}:ptrAt (.ptr l' v i j) l=decide (l=l'):=(rfl)
attribute [go_sem] tgt inR Option.isSome_some Option.isSome_none Option.isNone_some Option.isNone_none
end
def EB (j:Nat) (d:Option Nat) (k:KO) (kd:Nat) (hs hd:List Nat) (w:Bool):Ent:={ j:=j,d:=d,g:=none,k:=k,kd:=kd,hs:=hs,hd:=hd,w:=w,b:=true }
def EPB (j:Nat) (d:Option Nat) (k:KO) (kd:Nat) (w:Bool):Ent:={ j:=j,d:=d,g:=none,k:=k,kd:=kd,w:=w,b:=true }
def hdV (nb:Nat) (lg:Lg) (hs hd:List Nat) (M:Mem):Mem:={ M with m:=fun l=>if hs.any (inR nb · l)||hd.any (lg · l) then none else M.m l }
def okB (kd:Nat) (a:AV) (Mh N:Mem) [A:CQ]:Prop:=((kd=2→noE a=true)∧N.r=Mh.r)∧A.p
section
variable {P:Program} {s:Nat→AV} {M:Mem} {nb ib:Nat} {lg:Lg} {es:List Ent}
theorem ZsP {e:Ent} {K:(Nat→AV)→Mem→Prop} (h:plE e=false) (hg:e.g=none) (hb:e.b=true):@RE P nb ib (e::es) s M lg ⟨K⟩ =
 @KS P s (hdV nb lg e.hs e.hd M) (nb+64 * e.j) (ib+64 * e.j) e.k ⟨fun a N T=>@okW e.kd nb e.j (hdV nb lg e.hs e.hd M) N T ⟨@okB e.kd a (hdV nb lg e.hs e.hd M) N ⟨@RE P nb ib es (updO s e.d a) (mgM T e.hd (hdV nb lg e.hs e.hd M) N M) (if e.w then upd lg e.j (wrt T (hdV nb lg e.hs e.hd M) N) else lg) ⟨K⟩⟩⟩⟩:=by
 show WpE P nb ib (e::es) s M lg K=_
 simp only [WpE,h,Bool.false_eq_true,if_false]
 have eB:∀ a A B,OkB e a A B=((e.kd=2→noE a=true)∧B.r=A.r):=fun a A B=>by simp only [OkB,hb,forall_const]
 have eH:hid nb lg e M=hdV nb lg e.hs e.hd M:=by simp only [hid,hdV,hb,hidB,if_true];rfl
 unfold exR
 simp only [eB,eH,hg]
 rfl
@[go_sem ↓] theorem Zu9 {j d:Nat} {k:KO} {kd x:Nat} {hs hd:List Nat} {K:(Nat→AV)→Mem→Prop} :
 @RE P nb ib (EB j (some d) k kd hs (x::hd) false::es) s M lg ⟨K⟩ = @KS P s (hdV nb lg hs (x::hd) M) (nb+64 * j) (ib+64 * j) k ⟨fun a N T=>@okW kd nb j (hdV nb lg hs (x::hd) M) N T ⟨@okB kd a (hdV nb lg hs (x::hd) M) N ⟨@RE P nb ib es (upd s d a) (mgM T (x::hd) (hdV nb lg hs (x::hd) M) N M) lg ⟨K⟩⟩⟩⟩ :=
 ZsP (e:=EB j (some d) k kd hs (x::hd) false) (by cases hs<;>rfl) rfl rfl
theorem Zkc {e:Ent} {K:(Nat→AV)→Mem→Prop} (h:plE e=true) (hg:e.g=none) (hb:e.b=true) :
 @RE P nb ib (e::es) s M lg ⟨K⟩ = @KS P s M (nb+64 * e.j) (ib+64 * e.j) e.k ⟨fun a N T=>@okP e.kd nb e.j e.k M N T ⟨@okB e.kd a M N ⟨@RE P nb ib es (updO s e.d a) N (if e.w then upd lg e.j (wrt T M N) else lg) ⟨K⟩⟩⟩⟩:=by
 rw [Zq9 h,Zow,hg]
 refine Zlp fun a N T=>?_
 simp only [okP,okB,OkB,hb,forall_const,and_assoc]
@[go_sem ↓] theorem ZuK {j d:Nat} {k:KO} {kd:Nat} {K:(Nat→AV)→Mem→Prop} :
 @RE P nb ib (EPB j (some d) k kd true::es) s M lg ⟨K⟩ = @KS P s M (nb+64 * j) (ib+64 * j) k ⟨fun a N T=>@okP kd nb j k M N T ⟨@okB kd a M N ⟨@RE P nb ib es (upd s d a) N (upd lg j (wrt T M N)) ⟨K⟩⟩⟩⟩ :=
 Zkc (e:=EPB j (some d) k kd true) rfl rfl rfl
@[go_sem ↓] theorem Zsx {j:Nat} {k:KO} {kd:Nat} {K:(Nat→AV)→Mem→Prop} :
 @RE P nb ib (EPB j none k kd true::es) s M lg ⟨K⟩ = @KS P s M (nb+64 * j) (ib+64 * j) k ⟨fun a N T=>@okP kd nb j k M N T ⟨@okB kd a M N ⟨@RE P nb ib es s N (upd lg j (wrt T M N)) ⟨K⟩⟩⟩⟩ :=
 Zkc (e:=EPB j none k kd true) rfl rfl rfl
@[go_sem] theorem ZvC {hs hd:List Nat} {l:Nat}:(hdV nb lg hs hd M).m l=if hs.any (inR nb · l)||hd.any (lg · l) then none else M.m l:=(rfl)
@[go_sem] theorem Zvb {hs hd:List Nat}:(hdV nb lg hs hd M).e=M.e:=(rfl)
@[go_sem] theorem ZvM {hs hd:List Nat}:(hdV nb lg hs hd M).c=M.c:=(rfl)
@[go_sem] theorem ZvN {hs hd:List Nat}:(hdV nb lg hs hd M).r=M.r:=(rfl)
@[go_sem] theorem Zvn {a:AV} {N:Mem} {A:Prop}:@okB 0 a M N ⟨A⟩=(N.r=M.r∧A):=by simp [okB]
theorem Zk9 {a:AV} {A:Prop} (h:noE a=true):@okB 2 a M M ⟨A⟩=A:=by simp [okB,h]
@[go_sem ↓] theorem Zta {l v r i:Nat} {j:Option Nat} {A:Prop}:@okB 2 (.ref l v r i j) M M ⟨A⟩=A:=Zk9 rfl
@[go_sem ↓] theorem Zte {l v i:Nat} {j:Option Nat} {A:Prop}:@okB 2 (.ptr l v i j) M M ⟨A⟩=A:=Zk9 rfl
@[go_sem ↓] theorem Zup {l v o n z:Nat} {A:Prop}:@okB 2 (.sl l v o n z) M M ⟨A⟩=A:=Zk9 rfl
@[go_sem ↓] theorem Zsz {d:D} {A:Prop}:@okB 2 (.dat none d) M M ⟨A⟩=A:=Zk9 rfl
@[go_sem ↓] theorem Zuq {d:D} {A:Prop}:@okB 2 (.dp none d) M M ⟨A⟩=A:=Zk9 rfl
@[go_sem ↓] theorem Zs1 {xs:List AV} {A:Prop}:@okB 2 (.agg xs) M M ⟨A⟩=A:=Zk9 rfl
theorem Zn4 {T:Nat→Bool} {hs hd:List Nat} (hT:∀ l,T l=false):mgM T hd (hdV nb lg hs hd M) (hdV nb lg hs hd M) M=M:=by
 unfold mgM
 have e1:(fun l=>if wrt T (hdV nb lg hs hd M) (hdV nb lg hs hd M) l=true then (hdV nb lg hs hd M).m l else M.m l)=M.m:=by
  funext l
  have:wrt T (hdV nb lg hs hd M) (hdV nb lg hs hd M) l=false:=by
   simp only [wrt,hT,Bool.or_false]
   cases (hdV nb lg hs hd M).m l<;>rfl
  rw [this];simp
 rw [e1]
 have e2:(if hd=[] then (hdV nb lg hs hd M).r else M.r)=M.r:=by
  split<;>rfl
 rw [e2]
 rfl
theorem ZmE {hs hd:List Nat} {n:Nat} {x:I} {lg':Lg} {K:(Nat→AV)→Mem→Prop} (h:rdI x=true) {s':Nat→AV} :
 @RE P nb ib es s' (mgM (tgt s n x) hd (hdV nb lg hs hd M) (hdV nb lg hs hd M) M) lg' ⟨K⟩ = @RE P nb ib es s' M lg' ⟨K⟩:=by
 rw [Zn4 fun l=>by cases x<;>simp [rdI,zk] at h<;>rfl]
section
variable {hs hd:List Nat} {n:Nat} {lg':Lg} {K:(Nat→AV)→Mem→Prop} {s':Nat→AV}
@[go_sem ↓ high] theorem ZrV {h ag:Bool} {k:Nat} {p:X}:@RE P nb ib es s' (mgM (tgt s n (.load h ag k p)) hd (hdV nb lg hs hd M) (hdV nb lg hs hd M) M) lg' ⟨K⟩ = @RE P nb ib es s' M lg' ⟨K⟩:=ZmE rfl
@[go_sem ↓ high] theorem ZtI {k:Nat} {p:X}:@RE P nb ib es s' (mgM (tgt s n (.fad k p)) hd (hdV nb lg hs hd M) (hdV nb lg hs hd M) M) lg' ⟨K⟩ = @RE P nb ib es s' M lg' ⟨K⟩:=ZmE rfl
@[go_sem ↓ high] theorem Ztd {k:Nat} {p q:X}:@RE P nb ib es s' (mgM (tgt s n (.iad k p q)) hd (hdV nb lg hs hd M) (hdV nb lg hs hd M) M) lg' ⟨K⟩ = @RE P nb ib es s' M lg' ⟨K⟩:=ZmE rfl
end
end
end Go.Vm
namespace Go.Vm
open Go
set_option linter.unusedSimpArgs false
set_option linter.unusedVariables false
section
variable {P:Program} {s:Nat→AV} {M:Mem} {nb ib:Nat}
def tkV:List (Md×AV)→Mem→Option (List D×Mem)
 | [],M=>some ([],M)
 | (md,a)::as,M=>if md.own then match tak 8 a M with
  | some (d,M1)=>match tkV as M1 with
   | some (ds,M2)=>some (d::ds,M2)
   | none=>none
  | none=>none else tkV as M
def fzV (M:Mem):List (Md×AV)→List D→Option (List D)
 | [],_=>some []
 | (md,a)::as,ds=>if md.own then match ds with
  | d::ds=>(fzV M as ds).map (d::·)
  | []=>none else match frz M 8 a,fzV M as ds with
  | some d,some r=>some (d::r)
  | _,_=>none
def ptV (nb ib:Nat) (M0:Mem):List (Md×AV)→List D→Nat→Mem→Option (Nat×Mem)
 | [],_,k,M=>some (k,M)
 | (md,a)::as,ds,k,M=>if md=.io then match ds with
  | d::ds=>match putX M0 nb ib a d k M with
   | some (k',M')=>ptV nb ib M0 as ds k' M'
   | none=>none
  | []=>none else ptV nb ib M0 as ds k M
def nmV:List (Md×AV)→List Nat
 | []=>[]
 | (md,a)::as=>if md=.io then ioN a++nmV as else nmV as
def evA (s:Nat→AV) (as:List (Md×X)):List (Md×AV):=as.map fun p=>(p.1,p.2.ev s)
theorem Zm1:∀ (as:List (Md×X)) (M:Mem),takA s as M=tkV (evA s as) M
 | [],M=>rfl
 | (md,x)::as,M=>by
  have:=Zm1 as
  simp only [evA] at this
  simp only [takA,evA,List.map_cons,tkV,this]
  try rfl
theorem ZlW:∀ (as:List (Md×X)) (ds:List D),frzA s M as ds=fzV M (evA s as) ds
 | [],ds=>rfl
 | (md,x)::as,ds=>by
  have:=ZlW as
  simp only [evA] at this
  simp only [frzA,evA,List.map_cons,fzV,this]
  try rfl
theorem ZmZ {M0:Mem}:∀ (as:List (Md×X)) (ds:List D) (k:Nat) (M:Mem),putA s nb ib M0 as ds k M=ptV nb ib M0 (evA s as) ds k M
 | [],ds,k,M=>rfl
 | (md,x)::as,ds,k,M=>by
  have:=ZmZ (M0:=M0) as
  simp only [evA] at this
  simp only [putA,evA,List.map_cons,ptV,this]
  try rfl
theorem ZgB:∀ (as:List (Md×X)),ioNames s as=nmV (evA s as)
 | []=>rfl
 | (md,x)::as=>by
  have:=ZgB as
  simp only [evA] at this
  simp only [ioNames,evA,List.map_cons,nmV,this]
def bdW (b:AV×Nat×Mem) (nb:Nat) (nm:List Nat) [C:Cnt]:Prop :=
 (b.2.1≤64∧isBad b.1=false)∧C.k b.1 b.2.2 (fun l=>nm.contains l||(decide (nb≤l)&&decide (l < nb+b.2.1)))
def pvW (r:D) (nb ib:Nat) (o:Option (Nat×Mem)) (nm:List Nat) [C:Cnt]:Prop:=match o with
 | none=>False
 | some p=>@bdW (bindD nb ib r p.1 p.2) nb nm C
def coW (P:Program) (f:FuncId) (ms:List Md) (all:List D) (cold cOk:Bool) (as:List (Md×AV)) (nb ib:Nat) (M0 M:Mem) [C:Cnt]:Prop :=
 ∃ r outs,FCt P f ms all r outs∧(if cold then cOk else noRs r&&noRsL outs)=true∧@pvW r nb ib (ptV nb ib M0 as outs 0 M) (nmV as) C
def fzQ (P:Program) (f:FuncId) (ms:List Md) (o:Option (List D)) (cold cOk:Bool) (as:List (Md×AV)) (nb ib:Nat) (M0 M:Mem) [C:Cnt]:Prop:=match o with
 | none=>False
 | some all=>@coW P f ms all cold cOk as nb ib M0 M C
def tkW (P:Program) (f:FuncId) (cold:Bool) (as:List (Md×AV)) (o:Option (List D×Mem)) (ow:Bool) (nb ib:Nat) (M0:Mem) [C:Cnt]:Prop:=match o with
 | none=>False
 | some p=>@fzQ P f (as.map (·.1)) (fzV (if ow then p.2.tick else p.2) as p.1) cold (as.all fun p=>p.1.own||coldA p.2) as nb ib M0 (if ow then p.2.tick else p.2) C
def evW (P:Program) (f:FuncId) (cold:Bool) (as:List (Md×AV)) (nb ib:Nat) (M:Mem) [C:Cnt]:Prop:=@tkW P f cold as (tkV as M) (as.any (·.1.own)) nb ib M C
theorem Zo6 {f:FuncId} {cold:Bool} {args:List (Md×X)} {K:AV→Mem→(Nat→Bool)→Prop}:@CR P f s M nb ib cold args ⟨K⟩ = @evW P f cold (evA s args) nb ib M ⟨K⟩:=by
 have h1:∀ as:List (Md×X),(evA s as).any (·.1.own)=as.any (·.1.own):=fun as=>by simp [evA,List.any_map,Function.comp_def]
 have h2:∀ as:List (Md×X),(evA s as).map (·.1)=as.map (·.1):=fun as=>by simp [evA]
 have h3:(evA s args).all (fun p=>p.1.own||coldA p.2)=args.all (fun p=>p.1.own||coldA (p.2.ev s)):=by simp [evA,List.all_map,Function.comp_def]
 show callR P f s M nb ib cold args K=_
 unfold callR evW tkW
 rw [Zm1,h1,h2,h3]
 cases tkV (evA s args) M with
 | none=>rfl
 | some p =>
  obtain ⟨ds,M1⟩:=p
  simp only [ZlW]
  unfold fzQ
  generalize (if (args.any fun x=>x.fst.own)=true then M1.tick else M1)=M2
  cases fzV M2 (evA s args) ds with
  | none=>rfl
  | some all =>
   unfold coW pvW bdW
   simp only [ZmZ,ZgB]
   refine propext (exists_congr fun r=>exists_congr fun outs=>?_)
   cases ptV nb ib M (evA s args) outs 0 M2 with
   | none=>simp
   | some p=>simp
@[go_sem ↓] theorem Zvc {f:FuncId} {cold:Bool} {x:X} {args:List (Md×X)} {K:AV→Mem→(Nat→Bool)→Prop}:@CR P f s M nb ib cold ((.io,x)::args) ⟨K⟩ = @evW P f cold ((.io,x.ev s)::evA s args) nb ib M ⟨K⟩:=Zo6
@[go_sem ↓] theorem Zvp {f:FuncId} {cold:Bool} {x:X} {args:List (Md×X)} {K:AV→Mem→(Nat→Bool)→Prop}:@CR P f s M nb ib cold ((.co,x)::args) ⟨K⟩ = @evW P f cold ((.co,x.ev s)::evA s args) nb ib M ⟨K⟩:=Zo6
@[go_sem ↓] theorem Zvw {f:FuncId} {cold:Bool} {x:X} {args:List (Md×X)} {K:AV→Mem→(Nat→Bool)→Prop}:@CR P f s M nb ib cold ((.ro,x)::args) ⟨K⟩ = @evW P f cold ((.ro,x.ev s)::evA s args) nb ib M ⟨K⟩:=Zo6
@[go_sem] theorem ZtD:evA s []=[]:=(rfl)
@[go_sem] theorem ZrE {md:Md} {x:X} {as:List (Md×X)}:evA s ((md,x)::as)=(md,x.ev s)::evA s as:=(rfl)
@[congr] theorem Zrj {f : FuncId} {cold : Bool} {as as' : List (Md × AV)} {C : Cnt} (h : as = as') : @evW P f cold as nb ib M C = @evW P f cold as' nb ib M C := by rw [h]
def litA:List (Md×AV)→Bool
 | []=>true
 | _::as=>litA as
@[go_sem] theorem Zt9 {f:FuncId} {cold:Bool} {as:List (Md×AV)} {K:AV→Mem→(Nat→Bool)→Prop}:@evW P f cold as nb ib M ⟨K⟩ = @tkW P f cold as (tkV as M) (as.any (·.1.own)) nb ib M ⟨K⟩:=(rfl)
@[congr] theorem Zre {f : FuncId} {cold : Bool} {as : List (Md × AV)} {o o' : Option (List D × Mem)} {ow ow' : Bool} {C : Cnt} (h : o = o') (hw : ow = ow') : @tkW P f cold as o ow nb ib M C = @tkW P f cold as o' ow' nb ib M C := by rw [h, hw]
@[go_sem] theorem Zu8 {f:FuncId} {cold:Bool} {as:List (Md×AV)} {ds:List D} {M1:Mem} {K:AV→Mem→(Nat→Bool)→Prop} :
 @tkW P f cold as (some (ds,M1)) true nb ib M ⟨K⟩ = @fzQ P f (as.map (·.1)) (fzV M1.tick as ds) cold (as.all fun p=>p.1.own||coldA p.2) as nb ib M M1.tick ⟨K⟩:=(rfl)
@[go_sem] theorem Zvr {f:FuncId} {cold:Bool} {as:List (Md×AV)} {ds:List D} {M1:Mem} {K:AV→Mem→(Nat→Bool)→Prop} :
 @tkW P f cold as (some (ds,M1)) false nb ib M ⟨K⟩ = @fzQ P f (as.map (·.1)) (fzV M1 as ds) cold (as.all fun p=>p.1.own||coldA p.2) as nb ib M M1 ⟨K⟩:=(rfl)
@[congr] theorem ZqX {f : FuncId} {ms ms' : List Md} {o o' : Option (List D)} {cold cOk cOk' : Bool} {as : List (Md × AV)} {M0 : Mem} {C : Cnt} (hm : ms = ms') (h : o = o') (hc : cOk = cOk') : @fzQ P f ms o cold cOk as nb ib M0 M C = @fzQ P f ms' o' cold cOk' as nb ib M0 M C := by rw [h, hm, hc]
@[go_sem] theorem Zrr {f:FuncId} {ms:List Md} {all:List D} {cold cOk:Bool} {as:List (Md×AV)} {M0:Mem} {K:AV→Mem→(Nat→Bool)→Prop}:@fzQ P f ms (some all) cold cOk as nb ib M0 M ⟨K⟩ = @coW P f ms all cold cOk as nb ib M0 M ⟨K⟩:=(rfl)
theorem ZbL {f:FuncId} {ms:List Md} {all:List D} {cOk:Bool} {as:List (Md×AV)} {M0:Mem} {K:AV→Mem→(Nat→Bool)→Prop} {r:D} {outs:List D} (h:FCt P f ms all r outs) (hr:noRs r=true) (ho:noRsL outs=true)
 (hK:@pvW r nb ib (ptV nb ib M0 as outs 0 M) (nmV as) ⟨K⟩):@coW P f ms all false cOk as nb ib M0 M ⟨K⟩:=⟨r,outs,h,by simp [hr,ho],hK⟩
@[congr] theorem Zqu {r : D} {o o' : Option (Nat × Mem)} {nm nm' : List Nat} {C : Cnt} (h : o = o') (hn : nm = nm') : @pvW r nb ib o nm C = @pvW r nb ib o' nm' C := by rw [h, hn]
@[go_sem] theorem Zr6 {r:D} {k:Nat} {N:Mem} {nm:List Nat} {K:AV→Mem→(Nat→Bool)→Prop}:@pvW r nb ib (some (k,N)) nm ⟨K⟩ = @bdW (bindD nb ib r k N) nb nm ⟨K⟩:=(rfl)
@[congr] theorem ZqU {b b' : AV × Nat × Mem} {nm : List Nat} {C : Cnt} (h : b = b') : @bdW b nb nm C = @bdW b' nb nm C := by rw [h]
def inW (k:Nat) (b:Bool) (p:Prop):Prop:=(k≤64∧b=false)∧p
@[go_sem] theorem Zrw {a:AV} {k:Nat} {N:Mem} {nm:List Nat} {K:AV→Mem→(Nat→Bool)→Prop}:@bdW (a,k,N) nb nm ⟨K⟩=((k≤64∧isBad a=false)∧K a N (fun l=>nm.contains l||(decide (nb≤l)&&decide (l < nb+k)))):=(rfl)
@[go_sem] theorem Zth:tkV [] M=some ([],M):=(rfl)
@[go_sem] theorem Zu1 {a:AV} {as:List (Md×AV)}:tkV ((.ro,a)::as) M=tkV as M:=(rfl)
def tkC (d:D) (o:Option (List D×Mem)):Option (List D×Mem):=match o with
 | some (ds,M2)=>some (d::ds,M2)
 | none=>none
def tkB (as:List (Md×AV)) (o:Option (D×Mem)):Option (List D×Mem):=match o with
 | some (d,M1)=>tkC d (tkV as M1)
 | none=>none
@[go_sem] theorem ZuV {a:AV} {as:List (Md×AV)}:tkV ((.io,a)::as) M=tkB as (tak 8 a M):=by simp only [tkV,Md.own,if_true];try rfl
@[go_sem] theorem Zus {a:AV} {as:List (Md×AV)}:tkV ((.co,a)::as) M=tkB as (tak 8 a M):=by simp only [tkV,Md.own,if_true];try rfl
@[go_sem] theorem Zrq {as:List (Md×AV)} {d:D} {M1:Mem}:tkB as (some (d,M1))=tkC d (tkV as M1):=(rfl)
@[go_sem] theorem Zrm {d:D} {ds:List D} {M1:Mem}:tkC d (some (ds,M1))=some (d::ds,M1):=(rfl)
@[go_sem] theorem Ztt {ds:List D}:fzV M [] ds=some []:=(rfl)
@[go_sem] theorem ZuL {a:AV} {as:List (Md×AV)} {d:D} {ds:List D}:fzV M ((.io,a)::as) (d::ds)=(fzV M as ds).map (d::·):=(rfl)
@[go_sem] theorem Zub {a:AV} {as:List (Md×AV)} {d:D} {ds:List D}:fzV M ((.co,a)::as) (d::ds)=(fzV M as ds).map (d::·):=(rfl)
def fzB (o:Option D) (p:Option (List D)):Option (List D):=match o,p with
 | some d,some r=>some (d::r)
 | _,_=>none
@[go_sem] theorem Zuo {a:AV} {as:List (Md×AV)} {ds:List D}:fzV M ((.ro,a)::as) ds=fzB (frz M 8 a) (fzV M as ds):=by simp only [fzV,Md.own,Bool.false_eq_true,if_false,fzB]
@[go_sem] theorem Zry {d:D} {ds:List D}:fzB (some d) (some ds)=some (d::ds):=(rfl)
@[go_sem] theorem Zts {M0:Mem} {ds:List D} {k:Nat}:ptV nb ib M0 [] ds k M=some (k,M):=(rfl)
@[go_sem] theorem Zuc {M0:Mem} {a:AV} {as:List (Md×AV)} {ds:List D} {k:Nat}:ptV nb ib M0 ((.ro,a)::as) ds k M=ptV nb ib M0 as ds k M:=(rfl)
@[go_sem] theorem Zt1 {M0:Mem} {a:AV} {as:List (Md×AV)} {ds:List D} {k:Nat}:ptV nb ib M0 ((.co,a)::as) ds k M=ptV nb ib M0 as ds k M:=(rfl)
def ptB (nb ib:Nat) (M0:Mem) (as:List (Md×AV)) (ds:List D) (o:Option (Nat×Mem)):Option (Nat×Mem):=match o with
 | some (k',M')=>ptV nb ib M0 as ds k' M'
 | none=>none
@[go_sem] theorem Zt3 {M0:Mem} {a:AV} {as:List (Md×AV)} {d:D} {ds:List D} {k:Nat}:ptV nb ib M0 ((.io,a)::as) (d::ds) k M=ptB nb ib M0 as ds (putX M0 nb ib a d k M):=(rfl)
@[go_sem] theorem ZrX {M0:Mem} {as:List (Md×AV)} {ds:List D} {k:Nat} {N:Mem}:ptB nb ib M0 as ds (some (k,N))=ptV nb ib M0 as ds k N:=(rfl)
@[go_sem] theorem Zsu:nmV []=[]:=(rfl)
@[go_sem] theorem ZuY {a:AV} {as:List (Md×AV)}:nmV ((.io,a)::as)=ioN a++nmV as:=(rfl)
@[go_sem] theorem ZuO {a:AV} {as:List (Md×AV)}:nmV ((.co,a)::as)=nmV as:=(rfl)
@[go_sem] theorem Zt0 {a:AV} {as:List (Md×AV)}:nmV ((.ro,a)::as)=nmV as:=(rfl)
@[go_sem] theorem Zui {l:Nat}:M.tick.m l=M.m l:=(rfl)
@[go_sem] theorem ZuT:M.tick.e=M.e+1:=(rfl)
@[go_sem] theorem Zue:M.tick.r=M.r:=(rfl)
@[go_sem] theorem Zt5:M.tick.c=M.c:=(rfl)
attribute [go_sem] putX putV1 putL ioN ioN1 Md.own
def bdV (b:AV×Nat×Mem) (nb:Nat) [C:Cnt]:Prop:=(b.2.1≤64∧isBad b.1=false)∧C.k b.1 b.2.2 (fun l=>decide (nb≤l)&&decide (l < nb+b.2.1))
@[congr] theorem Zqp {b b' : AV × Nat × Mem} {C : Cnt} (h : b = b') : @bdV b nb C = @bdV b' nb C := by rw [h]
@[go_sem] theorem Zru {a:AV} {k:Nat} {N:Mem} {K:AV→Mem→(Nat→Bool)→Prop}:@bdV (a,k,N) nb ⟨K⟩=((k≤64∧isBad a=false)∧K a N (fun l=>decide (nb≤l)&&decide (l < nb+k))):=(rfl)
theorem Zal {f:FuncId} {ms:List Md} {all:List D} {cOk:Bool} {K:AV→Mem→(Nat→Bool)→Prop} {r:D} (h:FCt P f ms all r []) (hr:noRs r=true) (hK:@bdV (bindD nb ib r 0 M) nb ⟨K⟩):@fcW P f ms all false cOk nb ib M ⟨K⟩ :=
 ⟨r,[],h,by simp [hr,noRsL],hK.1,hK.2⟩
theorem ZiI {f:FuncId} {ms:List Md} {all:List D} {K:AV→Mem→(Nat→Bool)→Prop} {r:D} (h:FCt P f ms all r []) (hK:@bdV (bindD nb ib r 0 M) nb ⟨K⟩):@fcW P f ms all true true nb ib M ⟨K⟩ :=
 ⟨r,[],h,by simp,hK.1,hK.2⟩
section
variable {lg:Lg}
@[go_sem ↓] theorem ZuQ {j n:Nat} {k:KO} {A:Prop}:@okP 1 nb j k M M (fun l=>decide (n≤l)&&decide (l < n+0)) ⟨A⟩=A:=by
 unfold okP
 refine propext ⟨fun h=>h.2,fun h=>⟨⟨fun _ l _=>⟨?_,rfl⟩,fun q=>absurd q (by decide)⟩,h⟩⟩
 simp only [Nat.add_zero,Bool.and_eq_false_iff,decide_eq_false_iff_not]
 omega
theorem Zea {j l:Nat} (h:inR nb j l=false):l < nb+64 * j∨nb+64 * j+64≤l:=by
 simp only [inR,Bool.and_eq_false_iff,decide_eq_false_iff_not] at h
 omega
@[go_sem ↓] theorem Zu4 {j n:Nat} {k:KO} {o:Option Obj} {A:Prop} (hn:n=nb+64 * j):@okP 1 nb j k M (M.set n o) (fun l=>decide (n≤l)&&decide (l < n+1)) ⟨A⟩=A:=by
 unfold okP
 refine propext ⟨fun h=>h.2,fun h=>⟨⟨fun _ l hl=>⟨?_,?_⟩,fun q=>absurd q (by decide)⟩,h⟩⟩
 · have:=Zea hl
   simp only [Bool.and_eq_false_iff,decide_eq_false_iff_not]
   omega
 · have:=Zea hl
   exact Zbj (by omega)
@[go_sem ↓] theorem Zt8 {j n:Nat} {A:Prop}:@okW 1 nb j M M (fun l=>decide (n≤l)&&decide (l < n+0)) ⟨A⟩=A:=by
 unfold okW
 refine propext ⟨fun h=>h.2,fun h=>⟨⟨fun _ l _=>⟨?_,rfl⟩,fun q=>absurd q (by decide)⟩,h⟩⟩
 simp only [Nat.add_zero,Bool.and_eq_false_iff,decide_eq_false_iff_not]
 omega
@[go_sem ↓] theorem ZuS {j n:Nat} {o:Option Obj} {A:Prop} (hn:n=nb+64 * j):@okW 1 nb j M (M.set n o) (fun l=>decide (n≤l)&&decide (l < n+1)) ⟨A⟩=A:=by
 unfold okW
 refine propext ⟨fun h=>h.2,fun h=>⟨⟨fun _ l hl=>⟨?_,?_⟩,fun q=>absurd q (by decide)⟩,h⟩⟩
 · have:=Zea hl
   simp only [Bool.and_eq_false_iff,decide_eq_false_iff_not]
   omega
 · have:=Zea hl
   exact Zbj (by omega)
end
@[go_sem] theorem Zos {l:Nat}:([]:List Nat).contains l=false:=(rfl)
attribute [go_sem] bindL Bool.false_or
@[go_sem] theorem Zsd {l:Nat} {a b:Option Obj}:(M.set l a).set l b=M.set l b:=Mem.set_set
end
end Go.Vm
