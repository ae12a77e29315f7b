/- An interpreter for loaded functions over plain data, and that it is right: part 4 (no condition). -/
import Derived.Test.YtmbhjcgikblpiaaGreatVmc
namespace Go.Vm
open Go
set_option linter.unusedSimpArgs false
set_option linter.unusedVariables false
section
variable {M:Mem} {nb ib:Nat}
def ifO {α:Type} (p:Prop) [Decidable p] (o:Option α):Option α:=if p then o else none
@[go_sem] theorem ZvF {α:Type} {h:Decidable True} {o:Option α}:@ifO α True h o=o:=by simp [ifO]
@[congr] theorem Zra {α : Type} {p p' : Prop} {h : Decidable p} {h' : Decidable p'} {o : Option α} (e : p = p') : @ifO α p h o = @ifO α p' h' o := by
 subst e;simp [ifO]
def mvK (own all:Bool) (l:Nat) (ys:List D) (M:Mem):Option (Bool×List D×Mem):=if all then some (true,ys,M) else some (own,ys,M.set l none)
@[go_sem] theorem Zvm {own:Bool} {l:Nat} {ys:List D}:mvK own true l ys M=some (true,ys,M):=(rfl)
@[go_sem] theorem ZvO {own:Bool} {l:Nat} {ys:List D}:mvK own false l ys M=some (own,ys,M.set l none):=(rfl)
def mvS (M:Mem) (sz l v off len sz':Nat) (o:Option Obj):Option (Bool×List D×Mem):=match o with
 | some (.arr v' own sz'' xs)=>ifO (v'=v∧sz'=sz∧sz''=sz∧off+len≤xs.length) (mvK own (((xs.drop off).take len).all isSc) l ((xs.drop off).take len) M)
 | _=>none
@[go_sem ↓ high] theorem Zud {sz l v off len sz':Nat}:mvE M sz (.sl l v off len sz')=mvS M sz l v off len sz' (M.m l):=by
 simp only [mvE,mvS,mvK,ifO]
 try rfl
@[go_sem] theorem ZtJ {sz l v off len sz' v' sz'':Nat} {own:Bool} {xs:List D}:mvS M sz l v off len sz' (some (.arr v' own sz'' xs))=ifO (v'=v∧sz'=sz∧sz''=sz∧off+len≤xs.length) (mvK own (((xs.drop off).take len).all isSc) l ((xs.drop off).take len) M):=(rfl)
@[go_sem ↓ high] theorem ZsN {sz sz':Nat}:mvE M sz (.nil sz')=ifO (sz'=sz) (some (true,[],M)):=by simp only [mvE,ifO]
def apB (nb ib sz bytes:Nat) (s:AV) (o:Option (Bool×List D×Mem)):Option (AV×Mem):=match o with
 | some (own,ys,M1)=>match s with
  | .nil sz'=>if sz'=sz∧ys.length * bytes≤70368744177664 then some (.sl nb ib 0 ys.length sz,M1.set nb (some (.arr ib own sz ys))) else none
  | .sl l v off len sz'=>match M1.m l with
   | some (.arr v' own' sz'' xs) =>
    if v'=v∧sz'=sz∧sz''=sz∧off+len≤xs.length∧(len+ys.length) * bytes≤70368744177664 then
     some (.sl l ib 0 (len+ys.length) sz,M1.set l (some (.arr ib (own'&&own) sz ((xs.drop off).take len++ys))))
    else none
   | _=>none
  | _=>none
 | none=>none
@[go_sem ↓ high] theorem Zk7 {sz bytes:Nat} {s x:AV}:stpApp M nb ib sz bytes s x=apB nb ib sz bytes s (mvE M sz x):=by
 simp only [stpApp,apB]
 try rfl
@[congr] theorem Zqh {sz bytes : Nat} {s s' : AV} {o o' : Option (Bool × List D × Mem)} (hs : s = s') (h : o = o') : apB nb ib sz bytes s o = apB nb ib sz bytes s' o' := by rw [hs, h]
@[go_sem] theorem Zsl {sz bytes sz':Nat} {own:Bool} {ys:List D}:apB nb ib sz bytes (.nil sz') (some (own,ys,M))=ifO (sz'=sz∧ys.length * bytes≤70368744177664) (some (.sl nb ib 0 ys.length sz,M.set nb (some (.arr ib own sz ys)))):=by
 simp only [apB,ifO]
 try rfl
def apS (ib sz bytes:Nat) (own:Bool) (ys:List D) (M:Mem) (l v off len sz':Nat) (o:Option Obj):Option (AV×Mem):=match o with
 | some (.arr v' own' sz'' xs)=>ifO (v'=v∧sz'=sz∧sz''=sz∧off+len≤xs.length∧(len+ys.length) * bytes≤70368744177664) (some (.sl l ib 0 (len+ys.length) sz,M.set l (some (.arr ib (own'&&own) sz ((xs.drop off).take len++ys)))))
 | _=>none
@[go_sem] theorem Zuw {sz bytes l v off len sz':Nat} {own:Bool} {ys:List D}:apB nb ib sz bytes (.sl l v off len sz') (some (own,ys,M))=apS ib sz bytes own ys M l v off len sz' (M.m l):=by
 simp only [apB,apS,ifO]
 try rfl
@[go_sem] theorem Ztf {sz bytes l v off len sz' v' sz'':Nat} {own own':Bool} {ys xs:List D}:apS ib sz bytes own ys M l v off len sz' (some (.arr v' own' sz'' xs)) =
 ifO (v'=v∧sz'=sz∧sz''=sz∧off+len≤xs.length∧(len+ys.length) * bytes≤70368744177664) (some (.sl l ib 0 (len+ys.length) sz,M.set l (some (.arr ib (own'&&own) sz ((xs.drop off).take len++ys))))):=(rfl)
def aprC (M:Mem) (nb ib sz bytes l v i:Nat) (x:AV) (sz':Nat) (xs:List D) (o:Option D):Option (AV×Mem):=match o with
 | some (.sl s2 ys)=>ifO (s2=sz) (apB nb ib sz bytes (.sl nb (ib+1) 0 ys.length sz) (mvE (((M.set l (some (.arr v true sz' (xs.set i .dead)))).tick.tickR).set nb (some (.arr (ib+1) true sz ys))) sz x))
 | _=>none
@[go_sem] theorem Zsy {sz bytes l v i sz' s2:Nat} {x:AV} {xs ys:List D}:aprC M nb ib sz bytes l v i x sz' xs (some (.sl s2 ys)) =
 ifO (s2=sz) (apB nb ib sz bytes (.sl nb (ib+1) 0 ys.length sz) (mvE (((M.set l (some (.arr v true sz' (xs.set i .dead)))).tick.tickR).set nb (some (.arr (ib+1) true sz ys))) sz x)):=(rfl)
def aprB (M:Mem) (nb ib sz bytes l v r i:Nat) (x:AV) (o:Option Obj):Option (AV×Mem):=match o with
 | some (.arr v' own sz' xs)=>ifO ((r=M.r∧r≠0)∧v'=v∧own=true) (aprC M nb ib sz bytes l v i x sz' xs xs[i]?)
 | _=>none
@[go_sem] theorem ZrQ {sz bytes l v r i v' sz':Nat} {own:Bool} {x:AV} {xs:List D}:aprB M nb ib sz bytes l v r i x (some (.arr v' own sz' xs))=ifO ((r=M.r∧r≠0)∧v'=v∧own=true) (aprC M nb ib sz bytes l v i x sz' xs xs[i]?):=(rfl)
@[go_sem ↓ high] theorem Zp7 {sz bytes l v r i:Nat} {x:AV}:stpApr M nb ib sz bytes (.ref l v r i none) x=aprB M nb ib sz bytes l v r i x (M.m l):=by
 unfold stpApr takeOut aprB ifO
 simp only [Zk7]
 cases hm:M.m l with
 | none=>simp
 | some o=>cases o with
  | box v' y=>simp
  | arr v' own sz' xs =>
   by_cases h1:r=M.r∧r≠0
   · have h0:¬ M.r=0:=h1.1▸h1.2
     by_cases h2:v'=v∧own=true
     · simp only [h1,h2,and_self,ne_eq,not_false_eq_true,if_true]
       cases hx:xs[i]? with
       | none=>simp [aprC]
       | some d=>cases d with
        | sl s2 ys =>
         by_cases h3:s2=sz
         · simp [aprC,fldD,setD,h3,h0,ifO]
         · simp [aprC,fldD,setD,h3,ifO]
        | _=>simp [aprC,fldD,setD]
     · simp [h1,h2]
   · simp [h1]
def plV (o:Option (Bool×List D×Mem)):Option (List D):=match o with
 | some (_,ys,_)=>ifO (ys.all isSc=true) (some ys)
 | none=>none
@[go_sem] theorem ZvH {sz:Nat} {a:AV}:plO M sz a=plV (mvE M sz a):=by
 unfold plO plV ifO;try rfl
@[go_sem] theorem ZrF {own:Bool} {ys:List D} {N:Mem}:plV (some (own,ys,N))=ifO (ys.all isSc=true) (some ys):=(rfl)
def wrO (M:Mem) (l v sz off:Nat) (ys:List D) (o:Option Obj):Option Mem:=match o with
 | some (.arr v' own sz' xs)=>ifO (v'=v∧sz'=sz∧off+ys.length≤xs.length∧((xs.drop off).take ys.length).all isSc=true)
  (some (M.set l (some (.arr v own sz (xs.take off++ys++xs.drop (off+ys.length))))).tickR)
 | _=>none
@[go_sem ↓ high] theorem ZtQ {l v sz off:Nat} {ys:List D}:stpWr M l v sz off ys=wrO M l v sz off ys (M.m l):=by
 unfold stpWr wrO ifO;try rfl
@[go_sem] theorem Ztn {l v sz off v' sz' : Nat} {own : Bool} {ys xs : List D} : wrO M l v sz off ys (some (.arr v' own sz' xs)) = ifO (v' = v ∧ sz' = sz ∧ off + ys.length ≤ xs.length ∧ ((xs.drop off).take ys.length).all isSc = true)
      (some (M.set l (some (.arr v own sz (xs.take off++ys++xs.drop (off+ys.length))))).tickR):=(rfl)
def cpW (M:Mem) (sz:Nat) (d:AV) (o:Option (List D)):Option (AV×Mem):=match o,d with
 | some ys,.sl l v off len sz'=>if len=0 then some (I64 0,M) else if sz'=sz then (stpWr M l v sz off (ys.take len)).map (I64 (min ys.length len:Nat),·) else none
 | _,_=>none
@[go_sem ↓ high] theorem Ztj {s:Nat→AV} {sz:Nat} {d x:X}:stp s M nb ib (.cpy sz d x)=cpW M sz (d.ev s) (plO M sz (x.ev s)):=(rfl)
@[congr] theorem ZqO {sz : Nat} {d d' : AV} {o o' : Option (List D)} (h : d = d') (k : o = o') : cpW M sz d o = cpW M sz d' o' := by rw [h, k]
@[go_sem] theorem ZuG {sz l v off len sz':Nat} {ys:List D}:cpW M sz (.sl l v off len sz') (some ys)=if len=0 then some (I64 0,M) else if sz'=sz then (stpWr M l v sz off (ys.take len)).map (I64 (min ys.length len:Nat),·) else none:=(rfl)
def bsW (M:Mem) (o:Option (List D)):Option (AV×Mem):=match o with
 | some ys=>(bytesOf ys).map fun b=>(.dat none (.str ⟨b.toArray⟩),M)
 | none=>none
@[go_sem ↓ high] theorem ZsX {s:Nat→AV} {x:X}:stp s M nb ib (.b2s x)=bsW M (plO M 1 (x.ev s)):=(rfl)
@[congr] theorem Zqo {o o' : Option (List D)} (k : o = o') : bsW M o = bsW M o' := by rw [k]
@[go_sem] theorem Zr0 {ys:List D}:bsW M (some ys)=(bytesOf ys).map fun b=>(.dat none (.str ⟨b.toArray⟩),M):=(rfl)
attribute [go_sem] bytesOf Int.sub_zero ishift
end
section
variable {P:Program} {s:Nat→AV} {M:Mem} {nb ib:Nat} {lg:Lg} {es:List Ent}
def setL (M:Mem):List (Nat×Obj)→Mem
 | []=>M
 | (n,o)::l=>setL (M.set n (some o)) l
theorem Zef:∀ (os:List (Nat×Obj)) (M:Mem) (l:Nat),(∀ p∈os,l≠p.1)→(setL M os).m l=M.m l
 | [],_,_,_=>rfl
 | (n,o)::os,M,l,h=>by
  simp only [setL]
  rw [Zef os _ l fun p hp=>h p (List.mem_cons_of_mem _ hp),Zbj (h _ List.mem_cons_self)]
theorem Zmu:∀ (os:List (Nat×Obj)) (M M':Mem) (l:Nat),(∃ p∈os,l=p.1)→(setL M os).m l=(setL M' os).m l∧((setL M os).m l).isSome=true
 | [],_,_,_,h=>by obtain ⟨p,hp,_⟩:=h;cases hp
 | (n,o)::os,M,M',l,h=>by
  simp only [setL]
  by_cases hh:∃ p∈os,l=p.1
  · exact Zmu os _ _ l hh
  · obtain ⟨p,hp,e⟩:=h
    have hn:∀ q∈os,l≠q.1:=fun q hq e2=>hh ⟨q,hq,e2⟩
    have e3:l=n:=by
     rcases List.mem_cons.1 hp with rfl|hp
     · exact e
     · exact absurd e (hn p hp)
    subst e3
    rw [Zef os _ _ hn,Zef os _ _ hn]
    simp [Mem.set,upd]
theorem ZlF:∀ (os:List (Nat×Obj)) (M:Mem),(setL M os).e=M.e∧(setL M os).r=M.r∧(setL M os).c=M.c
 | [],_=>⟨rfl,rfl,rfl⟩
 | (n,o)::os,M=>ZlF os _
theorem ZiQ {j n c:Nat} {k:KO} {os:List (Nat×Obj)} {A:Prop} (hn:n=nb+64 * j) (hc:c≤64) (h:∀ p∈os,n≤p.1∧p.1 < n+c):@okP 1 nb j k M (setL M os) (fun l=>decide (n≤l)&&decide (l < n+c)) ⟨A⟩=A:=by
 unfold okP
 refine propext ⟨fun h=>h.2,fun hA=>⟨⟨fun _ l hl=>⟨?_,?_⟩,fun q=>absurd q (by decide)⟩,hA⟩⟩
 · have:=Zea hl
   simp only [Bool.and_eq_false_iff,decide_eq_false_iff_not]
   omega
 · have:=Zea hl
   exact Zef os M l fun p hp e=>by have:=h p hp;omega
theorem ZiH {j n c:Nat} {os:List (Nat×Obj)} {A:Prop} (hn:n=nb+64 * j) (hc:c≤64) (h:∀ p∈os,n≤p.1∧p.1 < n+c):@okW 1 nb j M (setL M os) (fun l=>decide (n≤l)&&decide (l < n+c)) ⟨A⟩=A:=by
 unfold okW
 refine propext ⟨fun h=>h.2,fun hA=>⟨⟨fun _ l hl=>⟨?_,?_⟩,fun q=>absurd q (by decide)⟩,hA⟩⟩
 · have:=Zea hl
   simp only [Bool.and_eq_false_iff,decide_eq_false_iff_not]
   omega
 · have:=Zea hl
   exact Zef os M l fun p hp e=>by have:=h p hp;omega
theorem ZiV {T:Nat→Bool} {hs hd:List Nat} {os:List (Nat×Obj)} (hT:∀ l,T l=true↔∃ p∈os,l=p.1):mgM T hd (hdM nb lg hs hd M) (setL (hdM nb lg hs hd M) os) M=setL M os:=by
 obtain ⟨e1,e2,e3⟩:=ZlF os (hdM nb lg hs hd M)
 obtain ⟨f1,f2,f3⟩:=ZlF os M
 have key:∀ (a b:Mem),a.m=b.m→a.e=b.e→a.r=b.r→a.c=b.c→a=b:=fun a b h1 h2 h3 h4=>by cases a;cases b;simp_all
 refine key _ _ ?_ ?_ ?_ ?_
 · funext l
   simp only [mgM]
   by_cases h:∃ p∈os,l=p.1
   · have hw:wrt T (hdM nb lg hs hd M) (setL (hdM nb lg hs hd M) os) l=true:=by simp only [wrt,(hT l).2 h,Bool.or_true]
     rw [hw,if_pos rfl]
     exact (Zmu os _ _ l h).1
   · have hn:∀ p∈os,l≠p.1:=fun p hp e=>h ⟨p,hp,e⟩
     have hTl:T l=false:=by rw [← Bool.not_eq_true,hT];exact h
     have hw:wrt T (hdM nb lg hs hd M) (setL (hdM nb lg hs hd M) os) l=false:=by
      simp only [wrt,hTl,Bool.or_false,Zef os _ l hn]
      cases (hdM nb lg hs hd M).m l<;>rfl
     rw [hw]
     simp only [Bool.false_eq_true,if_false]
     exact (Zef os M l hn).symm
 · simp only [mgM];rw [e1,f1];rfl
 · simp only [mgM]
   rw [f2]
   split
   · rename_i h;subst h;rw [e2];rfl
   · rfl
 · simp only [mgM];rw [f3]
@[go_sem ↓] theorem Zu5 {j n:Nat} {k:KO} {a0 a1:Obj} {A:Prop} (hn:n=nb+64 * j):@okP 1 nb j k M (((M).set n (some a0)).set (n+1) (some a1)) (fun l=>decide (n≤l)&&decide (l < n+2)) ⟨A⟩=A :=
 ZiQ (os:=[(n,a0),(n+1,a1)]) hn (by omega) (by intro p hp;simp only [List.mem_cons,List.not_mem_nil,or_false] at hp;rcases hp with rfl|rfl<;>simp)
@[go_sem ↓] theorem ZuU {j n:Nat} {a0 a1:Obj} {A:Prop} (hn:n=nb+64 * j):@okW 1 nb j M (((M).set n (some a0)).set (n+1) (some a1)) (fun l=>decide (n≤l)&&decide (l < n+2)) ⟨A⟩=A :=
 ZiH (os:=[(n,a0),(n+1,a1)]) hn (by omega) (by intro p hp;simp only [List.mem_cons,List.not_mem_nil,or_false] at hp;rcases hp with rfl|rfl<;>simp)
@[go_sem ↓ high] theorem Zqn {hs hd:List Nat} {n:Nat} {a0 a1:Obj} {lg':Lg} {K:(Nat→AV)→Mem→Prop} {s':Nat→AV}:@RE P nb ib es s' (mgM (fun l=>decide (n≤l)&&decide (l < n+2)) hd (hdM nb lg hs hd M) (((hdM nb lg hs hd M).set n (some a0)).set (n+1) (some a1)) M) lg' ⟨K⟩ = @RE P nb ib es s' (((M).set n (some a0)).set (n+1) (some a1)) lg' ⟨K⟩:=by
 have:=ZiV (M:=M) (nb:=nb) (lg:=lg) (hs:=hs) (hd:=hd) (T:=fun l=>decide (n≤l)&&decide (l < n+2)) (os:=[(n,a0),(n+1,a1)]) (fun l=>by
  simp only [Bool.and_eq_true,decide_eq_true_eq,List.mem_cons,List.not_mem_nil,or_false]
  constructor
  · intro h
    have:l=n∨l=n+1:=by omega
    rcases this with e|e
    · exact ⟨(n,a0),by simp,e⟩
    · exact ⟨(n+1,a1),by simp,e⟩
  · rintro ⟨p,hp,rfl⟩
    rcases hp with rfl|rfl<;>simp)
 simp only [setL] at this
 rw [this]
@[go_sem ↓] theorem ZuX {j n:Nat} {k:KO} {a0 a1 a2:Obj} {A:Prop} (hn:n=nb+64 * j):@okP 1 nb j k M ((((M).set n (some a0)).set (n+1) (some a1)).set (n+2) (some a2)) (fun l=>decide (n≤l)&&decide (l < n+3)) ⟨A⟩=A :=
 ZiQ (os:=[(n,a0),(n+1,a1),(n+2,a2)]) hn (by omega) (by intro p hp;simp only [List.mem_cons,List.not_mem_nil,or_false] at hp;rcases hp with rfl|rfl|rfl<;>simp)
@[go_sem ↓] theorem Zu0 {j n:Nat} {a0 a1 a2:Obj} {A:Prop} (hn:n=nb+64 * j):@okW 1 nb j M ((((M).set n (some a0)).set (n+1) (some a1)).set (n+2) (some a2)) (fun l=>decide (n≤l)&&decide (l < n+3)) ⟨A⟩=A :=
 ZiH (os:=[(n,a0),(n+1,a1),(n+2,a2)]) hn (by omega) (by intro p hp;simp only [List.mem_cons,List.not_mem_nil,or_false] at hp;rcases hp with rfl|rfl|rfl<;>simp)
@[go_sem ↓ high] theorem ZqW {hs hd:List Nat} {n:Nat} {a0 a1 a2:Obj} {lg':Lg} {K:(Nat→AV)→Mem→Prop} {s':Nat→AV}:@RE P nb ib es s' (mgM (fun l=>decide (n≤l)&&decide (l < n+3)) hd (hdM nb lg hs hd M) ((((hdM nb lg hs hd M).set n (some a0)).set (n+1) (some a1)).set (n+2) (some a2)) M) lg' ⟨K⟩ = @RE P nb ib es s' ((((M).set n (some a0)).set (n+1) (some a1)).set (n+2) (some a2)) lg' ⟨K⟩:=by
 have:=ZiV (M:=M) (nb:=nb) (lg:=lg) (hs:=hs) (hd:=hd) (T:=fun l=>decide (n≤l)&&decide (l < n+3)) (os:=[(n,a0),(n+1,a1),(n+2,a2)]) (fun l=>by
  simp only [Bool.and_eq_true,decide_eq_true_eq,List.mem_cons,List.not_mem_nil,or_false]
  constructor
  · intro h
    have:l=n∨l=n+1∨l=n+2:=by omega
    rcases this with e|e|e
    · exact ⟨(n,a0),by simp,e⟩
    · exact ⟨(n+1,a1),by simp,e⟩
    · exact ⟨(n+2,a2),by simp,e⟩
  · rintro ⟨p,hp,rfl⟩
    rcases hp with rfl|rfl|rfl<;>simp)
 simp only [setL] at this
 rw [this]
@[go_sem ↓] theorem ZuW {j n:Nat} {k:KO} {a0 a1 a2 a3:Obj} {A:Prop} (hn:n=nb+64 * j):@okP 1 nb j k M (((((M).set n (some a0)).set (n+1) (some a1)).set (n+2) (some a2)).set (n+3) (some a3)) (fun l=>decide (n≤l)&&decide (l < n+4)) ⟨A⟩=A :=
 ZiQ (os:=[(n,a0),(n+1,a1),(n+2,a2),(n+3,a3)]) hn (by omega) (by intro p hp;simp only [List.mem_cons,List.not_mem_nil,or_false] at hp;rcases hp with rfl|rfl|rfl|rfl<;>simp)
@[go_sem ↓] theorem Zt2 {j n:Nat} {a0 a1 a2 a3:Obj} {A:Prop} (hn:n=nb+64 * j):@okW 1 nb j M (((((M).set n (some a0)).set (n+1) (some a1)).set (n+2) (some a2)).set (n+3) (some a3)) (fun l=>decide (n≤l)&&decide (l < n+4)) ⟨A⟩=A :=
 ZiH (os:=[(n,a0),(n+1,a1),(n+2,a2),(n+3,a3)]) hn (by omega) (by intro p hp;simp only [List.mem_cons,List.not_mem_nil,or_false] at hp;rcases hp with rfl|rfl|rfl|rfl<;>simp)
@[go_sem ↓ high] theorem Zri {hs hd:List Nat} {n:Nat} {a0 a1 a2 a3:Obj} {lg':Lg} {K:(Nat→AV)→Mem→Prop} {s':Nat→AV}:@RE P nb ib es s' (mgM (fun l=>decide (n≤l)&&decide (l < n+4)) hd (hdM nb lg hs hd M) (((((hdM nb lg hs hd M).set n (some a0)).set (n+1) (some a1)).set (n+2) (some a2)).set (n+3) (some a3)) M) lg' ⟨K⟩ = @RE P nb ib es s' (((((M).set n (some a0)).set (n+1) (some a1)).set (n+2) (some a2)).set (n+3) (some a3)) lg' ⟨K⟩:=by
 have:=ZiV (M:=M) (nb:=nb) (lg:=lg) (hs:=hs) (hd:=hd) (T:=fun l=>decide (n≤l)&&decide (l < n+4)) (os:=[(n,a0),(n+1,a1),(n+2,a2),(n+3,a3)]) (fun l=>by
  simp only [Bool.and_eq_true,decide_eq_true_eq,List.mem_cons,List.not_mem_nil,or_false]
  constructor
  · intro h
    have:l=n∨l=n+1∨l=n+2∨l=n+3:=by omega
    rcases this with e|e|e|e
    · exact ⟨(n,a0),by simp,e⟩
    · exact ⟨(n+1,a1),by simp,e⟩
    · exact ⟨(n+2,a2),by simp,e⟩
    · exact ⟨(n+3,a3),by simp,e⟩
  · rintro ⟨p,hp,rfl⟩
    rcases hp with rfl|rfl|rfl|rfl<;>simp)
 simp only [setL] at this
 rw [this]
theorem ZiN {j n:Nat} {o:Option Obj} {T:Nat→Bool} {A:Prop} (hn:n=nb+64 * j) (hT:∀ l,l≠n→T l=false):@okW 1 nb j M (M.set n o) T ⟨A⟩=A:=by
 unfold okW
 refine propext ⟨fun h=>h.2,fun hA=>⟨⟨fun _ l hl=>?_,fun q=>absurd q (by decide)⟩,hA⟩⟩
 have:=Zea hl
 have hne:l≠n:=by omega
 exact ⟨hT l hne,Zbj hne⟩
theorem Zi8 {j n:Nat} {k:KO} {o:Option Obj} {T:Nat→Bool} {A:Prop} (hn:n=nb+64 * j) (hT:∀ l,l≠n→T l=false):@okP 1 nb j k M (M.set n o) T ⟨A⟩=A:=by
 unfold okP
 refine propext ⟨fun h=>h.2,fun hA=>⟨⟨fun _ l hl=>?_,fun q=>absurd q (by decide)⟩,hA⟩⟩
 have:=Zea hl
 have hne:l≠n:=by omega
 exact ⟨hT l hne,Zbj hne⟩
@[go_sem ↓] theorem ZrC {j n:Nat} {sz byt:Nat} {z:D} {a b:X} {o:Option Obj} {A:Prop} (hn:n=nb+64 * j):@okW 1 nb j M (M.set n o) (tgt s n (.mks sz byt z a b)) ⟨A⟩=A:=ZiN hn fun l h=>by simp [tgt,h]
@[go_sem ↓] theorem ZrR {j n:Nat} {sz byt:Nat} {z:D} {a b:X} {k:KO} {o:Option Obj} {A:Prop} (hn:n=nb+64 * j):@okP 1 nb j k M (M.set n o) (tgt s n (.mks sz byt z a b)) ⟨A⟩=A:=Zi8 hn fun l h=>by simp [tgt,h]
@[go_sem ↓ high] theorem ZsC {hs hd:List Nat} {n:Nat} {sz byt:Nat} {z:D} {a b:X} {o:Obj} {lg':Lg} {K:(Nat→AV)→Mem→Prop} {s':Nat→AV}:@RE P nb ib es s' (mgM (tgt s n (.mks sz byt z a b)) hd (hdM nb lg hs hd M) ((hdM nb lg hs hd M).set n (some o)) M) lg' ⟨K⟩ = @RE P nb ib es s' (M.set n (some o)) lg' ⟨K⟩:=by
 rw [ZhL fun l=>by simp only [tgt];rw [Bool.eq_iff_iff];simp]
@[go_sem ↓] theorem ZrL {j n:Nat} {sz byt:Nat} {z:D} {a b:X} {o:Option Obj} {A:Prop} (hn:n=nb+64 * j):@okW 1 nb j M (M.set n o) (tgt s n (.apz sz byt z a b)) ⟨A⟩=A:=ZiN hn fun l h=>by simp [tgt,h]
@[go_sem ↓] theorem ZrG {j n:Nat} {sz byt:Nat} {z:D} {a b:X} {k:KO} {o:Option Obj} {A:Prop} (hn:n=nb+64 * j):@okP 1 nb j k M (M.set n o) (tgt s n (.apz sz byt z a b)) ⟨A⟩=A:=Zi8 hn fun l h=>by simp [tgt,h]
@[go_sem ↓] theorem Zrn {j n:Nat} {sz:Nat} {xs:List X} {o:Option Obj} {A:Prop} (hn:n=nb+64 * j):@okW 1 nb j M (M.set n o) (tgt s n (.bsl false sz xs)) ⟨A⟩=A:=ZiN hn fun l h=>by simp [tgt,h]
@[go_sem ↓] theorem Zsf {j n:Nat} {sz:Nat} {xs:List X} {k:KO} {o:Option Obj} {A:Prop} (hn:n=nb+64 * j):@okP 1 nb j k M (M.set n o) (tgt s n (.bsl false sz xs)) ⟨A⟩=A:=Zi8 hn fun l h=>by simp [tgt,h]
@[go_sem ↓ high] theorem Zs8 {hs hd:List Nat} {n:Nat} {sz:Nat} {xs:List X} {o:Obj} {lg':Lg} {K:(Nat→AV)→Mem→Prop} {s':Nat→AV}:@RE P nb ib es s' (mgM (tgt s n (.bsl false sz xs)) hd (hdM nb lg hs hd M) ((hdM nb lg hs hd M).set n (some o)) M) lg' ⟨K⟩ = @RE P nb ib es s' (M.set n (some o)) lg' ⟨K⟩:=by
 rw [ZhL fun l=>by simp only [tgt];rw [Bool.eq_iff_iff];simp]
@[go_sem ↓] theorem ZrZ {j n:Nat} {k:KO} {sz:Nat} {xs:List X} {A:Prop}:@okP 1 nb j k M M (tgt s n (.bsl true sz xs)) ⟨A⟩=A:=by
 unfold okP
 exact propext ⟨fun h=>h.2,fun hA=>⟨⟨fun _ l hl=>⟨rfl,rfl⟩,fun q=>absurd q (by decide)⟩,hA⟩⟩
@[go_sem ↓] theorem ZrI {j n:Nat} {sz:Nat} {xs:List X} {A:Prop}:@okW 1 nb j M M (tgt s n (.bsl true sz xs)) ⟨A⟩=A:=by
 unfold okW
 exact propext ⟨fun h=>h.2,fun hA=>⟨⟨fun _ l hl=>⟨rfl,rfl⟩,fun q=>absurd q (by decide)⟩,hA⟩⟩
@[go_sem ↓ high] theorem Zsc {hs hd:List Nat} {n:Nat} {sz:Nat} {xs:List X} {lg':Lg} {K:(Nat→AV)→Mem→Prop} {s':Nat→AV}:@RE P nb ib es s' (mgM (tgt s n (.bsl true sz xs)) hd (hdM nb lg hs hd M) (hdM nb lg hs hd M) M) lg' ⟨K⟩ = @RE P nb ib es s' M lg' ⟨K⟩:=by
 rw [Zhx (T:=tgt s n (.bsl true sz xs)) fun l=>rfl]
end
theorem Zbk {P:Program} {f:FuncId} {ms:List Md} {all:List D} {as:List (Md×AV)} {nb ib:Nat} {M0 M:Mem} {K:AV→Mem→(Nat→Bool)→Prop} {r:D} {outs:List D} (h:FCt P f ms all r outs)
 (hK:@pvW r nb ib (ptV nb ib M0 as outs 0 M) (nmV as) ⟨K⟩):@coW P f ms all true true as nb ib M0 M ⟨K⟩:=⟨r,outs,h,rfl,hK⟩
end Go.Vm
namespace Go.Vm
open Go
set_option linter.unusedSimpArgs false
set_option linter.unusedVariables false
section
variable {P:Program}
theorem Zga {f:FuncId} {s:Nat→AV} {M:Mem} {nb ib:Nat} {cold:Bool} {args:List (Md×X)} {K:AV→Mem→(Nat→Bool)→Prop} (h:callR P f s M nb ib cold args K) :
 ∃ a N T,K a N T∧callR P f s M nb ib cold args (fun a1 N1 T1=>a1=a∧N1=N∧T1=T):=by
 revert h
 unfold callR
 cases takA s args M with
 | none=>intro h;cases h
 | some p =>
  obtain ⟨ds,M1⟩:=p
  dsimp only
  cases frzA s (if args.any (·.1.own) then M1.tick else M1) args ds with
  | none=>intro h;cases h
  | some all =>
   rintro ⟨r,outs,h1,h2,h3⟩
   cases hq:putA s nb ib M args outs 0 (if args.any (·.1.own) then M1.tick else M1) with
   | none=>rw [hq] at h3;cases h3
   | some q =>
    obtain ⟨k,M3⟩:=q
    rw [hq] at h3
    exact ⟨_,_,_,h3.2,r,outs,h1,h2,by rw [hq];exact ⟨h3.1,rfl,rfl,rfl⟩⟩
theorem Zji {s:Nat→AV} {M:Mem} {nb ib:Nat} {K:AV→Mem→(Nat→Bool)→Prop}:∀ {k:KO},kstR P s M nb ib K k→∃ a N T,K a N T∧kstR P s M nb ib (fun a1 N1 T1=>a1=a∧N1=N∧T1=T) k
 | .i x,h=>by
  simp only [kstR] at h ⊢
  split at h
  · exact ⟨_,_,_,h,rfl,rfl,rfl⟩
  · cases h
 | .call f cold args,h=>Zga h
 | .ccl x cold args,h=>by
  simp only [kstR] at h ⊢
  split at h
  · exact Zga h
  · exact Zga h
  · cases h
 | .tkl n x,h=>by
  simp only [kstR] at h ⊢
  split at h
  · exact ⟨_,_,_,h,rfl,rfl,rfl⟩
  · cases h
 | .fcl f x y,h=>by
  simp only [kstR] at h ⊢
  split at h
  · obtain ⟨j,h1,h2⟩:=h
    split at h2
    · rename_i hq
      exact ⟨_,_,_,h2,j,h1,by rw [hq];exact ⟨rfl,rfl,rfl⟩⟩
    · cases h2
  · cases h
theorem ZpL {nb ib:Nat} {e:Ent} {s:Nat→AV} {M:Mem} {lg:Lg} {K:AV→Mem→Lg→Prop} (h:exR P nb ib e s M lg K):∃ a N l,K a N l∧exR P nb ib e s M lg (fun a1 N1 l1=>a1=a∧N1=N∧l1=l):=by
 unfold exR at h ⊢
 split at h
 · cases h
 · exact ⟨_,_,_,h,rfl,rfl,rfl⟩
 · obtain ⟨a,N,T,⟨h1,hb,h2⟩,h3⟩:=Zji h
   exact ⟨_,_,_,h2,Zck h3 fun a1 N1 T1 ⟨e1,e2,e3⟩=>by subst e1 e2 e3;exact ⟨h1,hb,rfl,rfl,rfl⟩⟩
theorem ZpS {nb ib:Nat} {e:Ent} {s:Nat→AV} {M:Mem} {lg:Lg} {K:AV→Mem→Lg→Prop} (h:exP P nb ib e s M lg K):∃ a N l,K a N l∧exP P nb ib e s M lg (fun a1 N1 l1=>a1=a∧N1=N∧l1=l):=by
 unfold exP at h ⊢
 split at h
 · cases h
 · exact ⟨_,_,_,h,rfl,rfl,rfl⟩
 · obtain ⟨a,N,T,⟨h1,h2,hb,h4⟩,h3⟩:=Zji h
   exact ⟨_,_,_,h4,Zck h3 fun a1 N1 T1 ⟨e1,e2,e3⟩=>by subst e1 e2 e3;exact ⟨h1,h2,hb,rfl,rfl,rfl⟩⟩
theorem Zoc {nb ib:Nat} {e:Ent} {s:Nat→AV} {M:Mem} {lg:Lg} {K K':AV→Mem→Lg→Prop} (h:exR P nb ib e s M lg K) (hk:∀ a N l,K a N l→K' a N l):exR P nb ib e s M lg K':=by
 unfold exR at h ⊢
 split at h
 · cases h
 · exact hk _ _ _ h
 · exact Zck h fun a N T hh=>⟨hh.1,hh.2.1,hk _ _ _ hh.2.2⟩
theorem Znp {nb ib:Nat} {e:Ent} {s:Nat→AV} {M:Mem} {lg:Lg} {K K':AV→Mem→Lg→Prop} (h:exP P nb ib e s M lg K) (hk:∀ a N l,K a N l→K' a N l):exP P nb ib e s M lg K':=by
 unfold exP at h ⊢
 split at h
 · cases h
 · exact hk _ _ _ h
 · exact Zck h fun a N T hh=>⟨hh.1,hh.2.1,hh.2.2.1,hk _ _ _ hh.2.2.2⟩
theorem Zjd {nb ib:Nat}:∀ (es:List Ent) (s:Nat→AV) (M:Mem) (lg:Lg) {K:(Nat→AV)→Mem→Prop},WpE P nb ib es s M lg K→∃ s1 M1,K s1 M1∧WpE P nb ib es s M lg (fun s2 M2=>s2=s1∧M2=M1)
 | [],s,M,lg,K,h=>⟨_,_,h,rfl,rfl⟩
 | e::es,s,M,lg,K,h=>by
  simp only [WpE] at h ⊢
  split at h
  · rename_i hp
    obtain ⟨a,N,l,h1,h2⟩:=ZpS h
    obtain ⟨s1,M1,h3,h4⟩:=Zjd es _ _ _ h1
    exact ⟨s1,M1,h3,by rw [if_pos hp];exact Znp h2 fun a1 N1 l1 ⟨e1,e2,e3⟩=>by subst e1 e2 e3;exact h4⟩
  · rename_i hp
    obtain ⟨a,N,l,h1,h2⟩:=ZpL h
    obtain ⟨s1,M1,h3,h4⟩:=Zjd es _ _ _ h1
    exact ⟨s1,M1,h3,by rw [if_neg hp];exact Zoc h2 fun a1 N1 l1 ⟨e1,e2,e3⟩=>by subst e1 e2 e3;exact h4⟩
def ends (e:KEx) (s:Nat→AV) (M:Mem):Post:=fun e1 s1 M1=>e1=e∧s1=s∧M1=M
theorem Zcj {e:KEx} {s:Nat→AV} {M:Mem} {K:Post} (h:K e s M):∀ e1 s1 M1,ends e s M e1 s1 M1→K e1 s1 M1:=by
 rintro _ _ _ ⟨rfl,rfl,rfl⟩;exact h
def KC.det:KC→Bool
 | .condu _ _ _=>false
 | .seq a b|.cond _ a b=>a.det&&b.det
 | .block _ a|.loop a|.nrm _ _ _ a|.fz _ a=>a.det
 | _=>true
theorem ZeI:∀ (c:KC) (s:Nat→AV) (M:Mem) {K:Post},c.det=true→Wp P c K s M→∃ e s1 M1,K e s1 M1∧Wp P c (ends e s1 M1) s M
 | .skip,s,M,K,hd,h=>⟨_,_,_,h,rfl,rfl,rfl⟩
 | .reg nb n es,s,M,K,hd,h=>by
  obtain ⟨s1,M1,h1,h2⟩:=Zjd es s M _ h
  exact ⟨_,_,_,h1,Zcz es s M _ h2 fun s2 M2 ⟨e1,e2⟩=>by subst e1 e2;exact ⟨rfl,rfl,rfl⟩⟩
 | .seq a b,s,M,K,hd,h=>by
  simp only [KC.det,Bool.and_eq_true] at hd
  obtain ⟨e,s1,M1,h1,h2⟩:=ZeI a s M hd.1 h
  cases e with
  | n =>
   obtain ⟨e2,s2,M2,h3,h4⟩:=ZeI b s1 M1 hd.2 h1
   exact ⟨e2,s2,M2,h3,Zaw a s M h2 (Zcj (K:=Post.seq (Wp P b (ends e2 s2 M2)) (ends e2 s2 M2)) h4)⟩
  | ex i=>exact ⟨_,s1,M1,h1,Zaw a s M h2 (Zcj (K:=Post.seq (Wp P b (ends (.ex i) s1 M1)) (ends (.ex i) s1 M1)) ⟨rfl,rfl,rfl⟩)⟩
  | r=>exact ⟨_,s1,M1,h1,Zaw a s M h2 (Zcj (K:=Post.seq (Wp P b (ends .r s1 M1)) (ends .r s1 M1)) ⟨rfl,rfl,rfl⟩)⟩
 | .cond x a b,s,M,K,hd,h=>by
  simp only [KC.det,Bool.and_eq_true] at hd
  simp only [Wp] at h ⊢
  split at h
  · exact ZeI a s M hd.1 h
  · exact ZeI b s M hd.2 h
  · cases h
  · cases h
 | .block i a,s,M,K,hd,h=>by
  simp only [KC.det] at hd
  obtain ⟨e,s1,M1,h1,h2⟩:=ZeI a s M hd h
  cases e with
  | n=>exact ⟨.n,s1,M1,h1,Zaw a s M h2 (Zcj (K:=Post.blk i (ends .n s1 M1)) ⟨rfl,rfl,rfl⟩)⟩
  | r=>exact ⟨.r,s1,M1,h1,Zaw a s M h2 (Zcj (K:=Post.blk i (ends .r s1 M1)) ⟨rfl,rfl,rfl⟩)⟩
  | ex j =>
   simp only [Post.blk] at h1
   split at h1
   · rename_i q
     refine ⟨.n,s1,M1,h1,Zaw a s M h2 (Zcj (K:=Post.blk i (ends .n s1 M1)) ?_)⟩
     simp only [Post.blk];rw [if_pos q];exact ⟨rfl,rfl,rfl⟩
   · rename_i q
     refine ⟨.ex j,s1,M1,h1,Zaw a s M h2 (Zcj (K:=Post.blk i (ends (.ex j) s1 M1)) ?_)⟩
     simp only [Post.blk];rw [if_neg q];exact ⟨rfl,rfl,rfl⟩
 | .loop a,s,M,K,hd,h=>by
  simp only [KC.det] at hd
  obtain ⟨I,⟨k0,h0⟩,hs⟩:=h
  have key:∀ k s M,I k s M→∃ e s1 M1,K e s1 M1∧Wp P (.loop a) (ends e s1 M1) s M:=by
   intro k
   induction k using Nat.strongRecOn with
   | _ k ih =>
    intro s M hI
    obtain ⟨e,s1,M1,h1,h2⟩:=ZeI a s M hd (hs k s M hI)
    have out:∀ e,e≠.n→K e s1 M1→Wp P a (ends e s1 M1) s M→∃ e s1 M1,K e s1 M1∧Wp P (.loop a) (ends e s1 M1) s M:=by
     intro e hn h1 h2
     refine ⟨e,s1,M1,h1,fun k s' M'=>s'=s∧M'=M,⟨0,rfl,rfl⟩,?_⟩
     rintro k _ _ ⟨rfl,rfl⟩
     refine Zaw a _ _ h2 (Zcj ?_)
     cases e with
     | n=>exact absurd rfl hn
     | ex i=>exact ⟨rfl,rfl,rfl⟩
     | r=>exact ⟨rfl,rfl,rfl⟩
    cases e with
    | ex i=>exact out (.ex i) (by simp) h1 h2
    | r=>exact out .r (by simp) h1 h2
    | n =>
     obtain ⟨k1,hlt,hI1⟩:=h1
     obtain ⟨e2,s2,M2,h3,h4⟩:=ih k1 hlt s1 M1 hI1
     refine ⟨e2,s2,M2,h3,?_⟩
     obtain ⟨J,⟨j0,hj0⟩,hJ⟩:=h4
     refine ⟨fun k s' M'=>J k s' M'∨(k=j0+1∧s'=s∧M'=M),⟨j0+1,.inr ⟨rfl,rfl,rfl⟩⟩,?_⟩
     rintro k s' M' (hk|⟨rfl,rfl,rfl⟩)
     · refine Zaw a _ _ (hJ k s' M' hk) fun e s3 M3 he=>?_
       cases e with
       | n=>obtain ⟨k',q1,q2⟩:=he;exact ⟨k',q1,.inl q2⟩
       | ex i=>exact he
       | r=>exact he
     · exact Zaw a _ _ h2 (Zcj (K:=Post.seq _ _) ⟨j0,by omega,.inl hj0⟩)
  exact key k0 s M h0
 | .exit i,s,M,K,hd,h=>⟨_,_,_,h,rfl,rfl,rfl⟩
 | .ret,s,M,K,hd,h=>⟨_,_,_,h,rfl,rfl,rfl⟩
 | .nrm t l sz a,s,M,K,hd,h=>by
  simp only [KC.det] at hd
  simp only [Wp] at h ⊢
  exact ZeI a _ _ hd h
 | .fz t a,s,M,K,hd,h=>by
  simp only [KC.det] at hd
  simp only [Wp] at h ⊢
  split at h
  · exact ZeI a _ _ hd h
  · cases h
 | .condu x a b,s,M,K,hd,h=>by simp only [KC.det] at hd;cases hd
end
def finX (res:List RV) (ios:List AV) (Q:D→List D→Prop):Post:=fun e s M =>
 (match e with|.ex _=>False|_=>True)∧match optL (res.map (resV1 s M)) with
  | none=>False
  | some xs=>match takL (tak 8) (xs++ios) M with
   | none=>False
   | some (all,_)=>Q (mkR (all.take xs.length)) (all.drop xs.length)
theorem ZqR {res:List RV} {ios:List AV} {Q:D→List D→Prop} {e:KEx} {s:Nat→AV} {M:Mem} (h:finX res ios Q e s M):∃ r outs,Q r outs∧finP res ios r outs e s M:=by
 obtain ⟨h1,h2⟩:=h
 cases hx:optL (res.map (resV1 s M)) with
 | none=>rw [hx] at h2;cases h2
 | some xs =>
  rw [hx] at h2
  dsimp only at h2
  cases ht:takL (tak 8) (xs++ios) M with
  | none=>rw [ht] at h2;cases h2
  | some p =>
   obtain ⟨all,N⟩:=p
   rw [ht] at h2
   refine ⟨_,_,h2,?_⟩
   unfold finP
   rw [hx]
   dsimp only
   rw [ht]
   exact ⟨h1,rfl,rfl⟩
def endX (o:Option (List AV)) (ios:List AV) (M:Mem) (Q:D→List D→Prop):Prop:=match o with
 | none=>False
 | some xs=>match takL (tak 8) (xs++ios) M with
  | none=>False
  | some (all,_)=>Q (mkR (all.take xs.length)) (all.drop xs.length)
section
variable {P:Program} {s:Nat→AV} {M:Mem}
@[go_sem ↓] theorem Zt6 {res:List RV} {ios:List AV} {Q:D→List D→Prop}:finX res ios Q .n s M=endX (optL (res.map (resV1 s M))) ios M Q:=by
 simp only [finX,endX,true_and]
 all_goals (cases optL (res.map (resV1 s M))<;>rfl)
@[go_sem ↓] theorem Zuj {res:List RV} {ios:List AV} {Q:D→List D→Prop}:finX res ios Q .r s M=endX (optL (res.map (resV1 s M))) ios M Q:=by
 simp only [finX,endX,true_and]
 all_goals (cases optL (res.map (resV1 s M))<;>rfl)
def RunX (P:Program) (code:KC) (res:List RV) (ms:List Md) (b:List AV×Nat×Mem) (Q:D→List D→Prop):Prop:=Wp P code (finX res (ioA ms b.1) Q) (slots0 b.1) (b.2.2.bump b.2.1)
@[go_sem] theorem Zrp {code:KC} {res:List RV} {ms:List Md} {as:List AV} {k:Nat} {Q:D→List D→Prop}:RunX P code res ms (as,k,M) Q = @R P code (slots0 as) (M.bump k) ⟨finX res (ioA ms as) Q⟩:=(rfl)
@[congr] theorem Zp8 {code : KC} {res : List RV} {ms : List Md} {b b' : List AV × Nat × Mem} {Q : D → List D → Prop} (h : b = b') : RunX P code res ms b Q = RunX P code res ms b' Q := by rw [h]
theorem Zrh {f:FuncId} {fi:FI} {ms:List Md} {ds:List D} {res:List RV} {code:KC} (Q:D→List D→Prop) (hc:chkF P f ms.length fi=true) (hfi:fi = { res:=res,code:=code }) (hd:code.det=true)
 (h:RunX P code res ms (bindA 0 0 ms ds 0 M00) Q):∃ r outs,Q r outs∧FCt P f ms ds r outs:=by
 obtain ⟨e,s1,M1,h1,h2⟩:=ZeI code _ _ hd h
 obtain ⟨r,outs,hq,hf⟩:=ZqR h1
 exact ⟨r,outs,hq,Zak hc hfi (Zaw code _ _ h2 (Zcj hf))⟩
end
attribute [go_sem] endX
theorem Zpf {P:Program} {o:Option Bool} {a b:KC} {s:Nat→AV} {M:Mem} {K:Post} (Q:Post) (h:@cdW o ⟨@R P a s M ⟨Q⟩⟩ ⟨@R P b s M ⟨Q⟩⟩) (hk:∀ e s' M',Q e s' M'→Off (a.ws++b.ws) s s'→K e s' M'):@cdW o ⟨@R P a s M ⟨K⟩⟩ ⟨@R P b s M ⟨K⟩⟩:=by
 unfold cdW at h ⊢
 split at h
 · exact Zh7 Q h fun e s' M' h1 h2=>hk e s' M' h1 (h2.mono fun t ht=>List.mem_append_left _ ht)
 · exact Zh7 Q h fun e s' M' h1 h2=>hk e s' M' h1 (h2.mono fun t ht=>List.mem_append_right _ ht)
 · cases h
theorem ZuF {P:Program} {a b:KC} {s:Nat→AV} {M:Mem} {K:Post} (Q:(Nat→AV)→Mem→Prop) (h:@R P a s M ⟨fun e s' M'=>e=.n∧Q s' M'⟩) (hk:∀ s' M',Q s' M'→Off a.ws s s'→@R P b s' M' ⟨K⟩):@R P (.seq a b) s M ⟨K⟩:=by
 refine Zh7 (c:=a) (fun e s' M'=>e=.n∧Q s' M') h ?_
 rintro e s' M' ⟨rfl,hq⟩ ho
 exact hk s' M' hq ho
theorem ZrT {P:Program} {a b:KC} {s:Nat→AV} {M:Mem} {K:Post} (Q:Post) (h:@R P a s M ⟨Q⟩) (hk:∀ e s' M',Q e s' M'→Off a.ws s s'→Post.seq (fun s M=>@R P b s M ⟨K⟩) K e s' M'):@R P (.seq a b) s M ⟨K⟩ :=
 Zh7 (c:=a) Q h hk
@[go_sem] theorem Zr7 {a b c d:D}:mkR [a,b,c,d]=.tup [a,b,c,d]:=(rfl)
@[go_sem] theorem Zse {a b c d e:D}:mkR [a,b,c,d,e]=.tup [a,b,c,d,e]:=(rfl)
section
variable {P:Program} {s:Nat→AV} {M:Mem} {nb ib:Nat} {lg:Lg} {es:List Ent}
@[go_sem ↓] theorem RE_EPgf {j d t:Nat} {b:Bool} {k:KO} {kd:Nat} {K:(Nat→AV)→Mem→Prop} :
 @RE P nb ib (EP j (some d) (some (t,b)) k kd false::es) s M lg ⟨K⟩ = @gdW (gB (s t)) b ⟨@KS P s M (nb+64 * j) (ib+64 * j) k ⟨fun a N T=>@okP kd nb j k M N T ⟨@RE P nb ib es (upd s d a) N lg ⟨K⟩⟩⟩⟩ ⟨@RE P nb ib es (upd s d (.tup [])) M lg ⟨K⟩⟩ :=
 ZaB (e:=EP j (some d) (some (t,b)) k kd false) rfl fun a N T=>and_assoc.symm
@[go_sem ↓] theorem RE_EPgt {j d t:Nat} {b:Bool} {k:KO} {kd:Nat} {K:(Nat→AV)→Mem→Prop} :
 @RE P nb ib (EP j (some d) (some (t,b)) k kd true::es) s M lg ⟨K⟩ = @gdW (gB (s t)) b ⟨@KS P s M (nb+64 * j) (ib+64 * j) k ⟨fun a N T=>@okP kd nb j k M N T ⟨@RE P nb ib es (upd s d a) N (upd lg j (wrt T M N)) ⟨K⟩⟩⟩⟩ ⟨@RE P nb ib es (upd s d (.tup [])) M lg ⟨K⟩⟩ :=
 ZaB (e:=EP j (some d) (some (t,b)) k kd true) rfl fun a N T=>and_assoc.symm
end
theorem ZqT {P:Program} {s:Nat→AV} {M:Mem} {nb ib n l v i sz:Nat} {x:X} {xs:List D} {d:D} {K:AV→Mem→(Nat→Bool)→Prop} (hx:x.ev s=.ptr l v i none) (hm:M.m l=some (.arr v true sz xs)) (hi:xs[i]? = some d) (h1:isAgD d=true) (h2:d.size=n)
 (hK:@bdV (bindD nb ib d 0 (M.set l none).tick) nb ⟨K⟩):@KS P s M nb ib (.tkl n x) ⟨K⟩:=by
 unfold KS
 simp only [kstR,stpTkl,hx,hm]
 simp only [if_true,hi]
 rw [if_pos ⟨h1,h2,hK.1.1⟩]
 exact hK.2
end Go.Vm
