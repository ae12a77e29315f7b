/- What the functions that the law reaches return: part 1 (the conditions stand at each). -/
import Derived.Test.YtljjgfmappionaaIr
import Derived.Tactics
import Derived.Tactics2
import Derived.StillTactics
import Derived.Laws.Pointers
open Int renaming reduceEq → iQ, reduceBEq → iB, reduceBNe → iX, reduceNeg → iN, reduceAdd → iA, reduceSub → iS, reduceMul → iM
attribute [go_sem_proc] Nat.reduceEqDiff Nat.reduceAdd Nat.reduceMul Nat.reduceBEq Int.reduceToNat Nat.reduceSub Nat.reduceLT Nat.reduceLeDiff Int.reduceLE Int.reduceLT reduceCtorEq
attribute [go_sem_proc ↓] reduceIte
attribute [go_sem] Option.getD_none
namespace Go.Vm
open Go
set_option linter.unusedSimpArgs false
set_option linter.unusedVariables false
abbrev Ii (n:Int):D:=.int .i64 n
abbrev Bb (b:Bool):D:=.bool b
abbrev ints (l:List Int):D:=.sl 1 (l.map Ii)
abbrev aI (n:Int):AV:=.dat none (.int .i64 n)
abbrev aB (b:Bool):AV:=.dat none (.bool b)
def i64 (n:Int):Prop:=-9223372036854775808≤n∧n≤9223372036854775807
theorem wrap_k {k m:Nat} (h:k < m) (hm:m≤9223372036854775807):IntKind.i64.wrap ((k:Int)+1)=((k+1:Nat):Int):=by
 rw [wrap_in (by omega) (by omega)];rfl
theorem take_succ' {α:Type} {l:List α} {k:Nat} (h:k < l.length):l.take (k+1)=l.take k++[l[k]]:=by
 rw [List.take_succ_eq_append_getElem h]
theorem all_take {α:Type} {p:α→Bool} {l:List α} {k:Nat} (h:k < l.length) (h1:(l.take k).all p=true) (h2:p l[k]=true):(l.take (k+1)).all p=true:=by
 rw [take_succ' h,List.all_append,h1];simpa using h2
theorem not_all {α:Type} {p:α→Bool} {l:List α} {k:Nat} (h:k < l.length) (h2:p l[k]=false):l.all p=false:=by
 rw [← Bool.not_eq_true,List.all_eq_true]
 intro hh
 have:=hh _ (List.getElem_mem h)
 rw [h2] at this;cases this
section
variable {α:Type} {f:α→D} {z:D} {l:List α} {k:Nat}
theorem take_map_len:(l.map f).take l.length=l.map f:=by rw [List.take_of_length_le (by simp)]
end
section
variable {α:Type} {A B:List α} {k:Nat}
end
def RowAt (x:AV) (M:Mem) (nm sz:Nat) (ds:List D):Prop:=(ds=[]∧x=.nil sz)∨∃ v,x=.sl nm v 0 ds.length sz∧M.m nm=some (.arr v true sz ds)
theorem RowAt.nil {M:Mem} {nm sz:Nat}:RowAt (.nil sz) M nm sz []:=.inl ⟨rfl,rfl⟩
theorem RowAt.sl {x:AV} {M:Mem} {nm sz v n:Nat} {ds:List D} (hx:x=.sl nm v 0 n sz) (hn:n=ds.length) (hm:M.m nm=some (.arr v true sz ds)):RowAt x M nm sz ds:=.inr ⟨v,by rw [hx,hn],hm⟩
section
variable {α:Type} {f:Int→α→α} {c:α→Nat}
end
theorem noRsL_all:∀ {ds:List D},(∀ d∈ds,noRs d=true)→noRsL ds=true
 | [],_=>rfl
 | d::ds,h=>by simp only [noRsL,Bool.and_eq_true];exact ⟨h d List.mem_cons_self,noRsL_all fun x hx=>h x (List.mem_cons_of_mem _ hx)⟩
theorem noRs_sl {sz:Nat} {ds:List D} (h:∀ d∈ds,noRs d=true):noRs (.sl sz ds)=true:=by simp only [noRs];exact noRsL_all h
theorem noRs_ints {l:List Int}:noRs (ints l)=true:=noRs_sl (by simp [noRs])
section
variable {P:Program} {s:Nat→AV} {M:Mem} {nb ib:Nat}
theorem frzR_caps:∀ (caps:List D),frzR s M ((caps.map bindC).map X.k)=some caps
 | []=>rfl
 | c::caps=>by simp only [List.map_cons,frzR,ev_k,frz_bindC,frzR_caps caps]
theorem frzR_app:∀ (xs ys:List X),frzR s M (xs++ys)=match frzR s M xs,frzR s M ys with|some a,some b=>some (a++b)|_,_=>none
 | [],ys=>by simp only [List.nil_append,frzR];cases frzR s M ys<;>rfl
 | x::xs,ys=>by
  simp only [List.cons_append,frzR,frzR_app xs ys]
  cases frz M 8 (x.ev s)<;>cases frzR s M xs<;>cases frzR s M ys<;>rfl
theorem ccl_ro {f:FuncId} {caps:List D} {args:List X} {ds:List D} {K:AV→Mem→(Nat→Bool)→Prop} (ha:frzR s M args=some ds)
 (h:@fcW P f (args.map (fun _=>Md.ro)++caps.map fun _=>Md.ro) (ds++caps) false ((args++(caps.map bindC).map X.k).all fun x=>coldA (x.ev s)) nb ib M ⟨K⟩):@cW P (.clo f (caps.map bindC)) s M nb ib false args ⟨K⟩:=by
 rw [cW_clo,CR_ro,frzR_app,ha,frzR_caps]
 have e:((args++(caps.map bindC).map X.k).map fun _=>Md.ro)=(args.map (fun _=>Md.ro)++caps.map fun _=>Md.ro):=by simp [List.map_map,Function.comp_def]
 rw [e]
 exact h
end
def idxB {α:Type} (p:α→Bool) (l:List α):Int:=match l.findIdx? p with
 | some i=>i
 | none=>-1
theorem idxB_none {α:Type} {p:α→Bool} {l:List α} (h:l.all (fun x=>!p x)=true):idxB p l = -1:=by
 unfold idxB
 rw [List.findIdx?_eq_none_iff.2 (fun x hx=>by simpa using List.all_eq_true.1 h x hx)]
theorem idxB_some {α:Type} {p:α→Bool} {l:List α} {k:Nat} (hk:k < l.length) (h:(l.take k).all (fun x=>!p x)=true) (hp:p l[k]=true):idxB p l=k:=by
 unfold idxB
 rw [List.findIdx?_eq_some_iff_getElem.2 ⟨hk,hp,fun j hj=>by
  have:=List.all_eq_true.1 h l[j] (by rw [List.mem_take_iff_getElem];exact ⟨j,by omega,rfl⟩)
  simpa using this⟩]
theorem idxB_any {α:Type} {p:α→Bool} {l:List α}:decide (0≤idxB p l)=l.any p:=by
 unfold idxB
 cases h:l.findIdx? p with
 | none =>
  rw [List.findIdx?_eq_none_iff] at h
  rw [List.any_eq_false.2 (fun x hx=>by simp [h x hx])];rfl
 | some i =>
  rw [List.findIdx?_eq_some_iff_getElem] at h
  obtain ⟨hi,hp,_⟩:=h
  rw [List.any_eq_true.2 ⟨l[i],List.getElem_mem hi,hp⟩]
  simp
end Go.Vm
namespace Go.Vm.Ytljjgfmappionaa
open Go Go.Vm
set_option maxRecDepth 10000
set_option maxHeartbeats 4000000
set_option linter.unusedSimpArgs false
set_option linter.unusedVariables false
def inB (n lo hi:Int):Bool:=decide (lo≤n)&&decide (n≤hi)
theorem impl_in.fc (n lo hi:Int):FCt prog F_impl_in [.ro,.ro,.ro] [Ii n,Ii lo,Ii hi] (Bb (inB n lo hi)) []:=by
 refine fct_run impl_in.ok rfl ?_
 unfold inB
 by_cases h:lo≤n
 · simp only [go_sem,ge_iff_le,h]
 · simp only [go_sem,ge_iff_le,h]
theorem spec_l1In.fc (n lo hi:Int):FCt prog F_spec_l1In [.ro,.ro,.ro] [Ii n,Ii lo,Ii hi] (Bb (inB n lo hi)) []:=by
 refine fct_run spec_l1In.ok rfl ?_
 unfold inB
 by_cases h:lo≤n
 · simp only [go_sem,ge_iff_le,h]
 · simp only [go_sem,ge_iff_le,h]
structure RuleD where
 ifs:List Int
 thn:Int
 deriving DecidableEq
abbrev RuleD.d (r:RuleD):D:=.agg [ints r.ifs,Ii r.thn]
abbrev rules (l:List RuleD):D:=.sl 2 (l.map RuleD.d)
abbrev pr (a b:Int):D:=.agg [Ii a,Ii b]
def goodS (a b:Int):Bool:=inB a 0 65535&&inB b 0 65535&&decide (a≤b)
def andI (a b:Int):Int:=IntKind.i64.wrap (BitVec.ofInt IntKind.i64.bits a &&& BitVec.ofInt IntKind.i64.bits b).toNat
def goodK (a b:Int):Bool:=inB a 0 65535&&inB b 0 65535&&(andI a b == 0)
theorem spec_l1Least.fc (a b:Int):FCt prog F_spec_l1Least [.ro,.ro] [Ii a,Ii b] (Ii (if b < a then b else a)) []:=by
 refine fct_run spec_l1Least.ok rfl ?_
 by_cases h:a < b
 · have e:(if b < a then b else a)=a:=by split<;>omega
   simp only [go_sem,h,e]
 · have e:(if b < a then b else a)=b:=by split<;>omega
   simp only [go_sem,h,e]
abbrev arcD (a:Int×Int):D:=pr a.1 a.2
abbrev arcs (l:List (Int×Int)):D:=.sl 2 (l.map arcD)
theorem slices_IndexFunc__sint_int.fc (l:List Int) (f:FuncId) (caps:List D) (p:Int→Bool) (hl:l.length≤4294967296)
 (h:∀ x∈l,FCt prog f (.ro::caps.map fun _=>.ro) (Ii x::caps) (Bb (p x)) []):FCt prog F_slices_IndexFunc__sint_int [.ro,.ro] [ints l,.clo f caps] (Ii (idxB p l)) []:=by
 refine fct_run slices_IndexFunc__sint_int.ok rfl ?_
 simp only [go_sem]
 refine R_loop (α:=Nat) (fun k s' M'=>k≤l.length∧s' 8=aI k∧(l.take k).all (fun x=>!p x)=true) (fun k=>l.length - k) 0 ⟨by omega,by simp only [go_sem];rfl,by simp⟩ ?_
 rintro k s' M' ⟨hk,h8,hr⟩ ho
 have h0:s' 0=.dat none (ints l):=by rw [ho 0 rfl];simp only [go_sem]
 have h1:s' 1=.clo f (caps.map bindC):=by rw [ho 1 rfl];simp only [go_sem]
 have h7:s' 7=aI l.length:=by rw [ho 7 rfl];simp only [go_sem]
 clear ho
 unfold slices_IndexFunc__sint_int.b0
 by_cases hlt:k < l.length
 · have hi':(k:Int) < l.length:=by omega
   have ga:l[k]? = some l[k]:=List.getElem?_eq_getElem hlt
   have hw:IntKind.i64.wrap (k+1)=((k+1:Nat):Int):=wrap_k hlt (by omega)
   simp only [go_sem,h0,h1,h7,h8,hi',ga]
   refine ccl_ro (ds:=[Ii l[k]]) (by simp only [go_sem]) ?_
   refine fcW_bool (h _ (List.getElem_mem hlt)) ?_
   cases hp:p l[k] with
   | true=>simp only [go_sem,idxB_some hlt hr hp]
   | false =>
    simp only [go_sem,h8,hw]
    exact ⟨k+1,by dsimp only;omega,by omega,by simp only [go_sem],all_take hlt hr (by simp [hp])⟩
 · have hi':¬ (k:Int) < l.length:=by omega
   rw [List.take_of_length_le (by omega)] at hr
   simp only [go_sem,h0,h1,h7,h8,hi',idxB_none hr]
theorem slices_ContainsFunc__sint_int.fc (l:List Int) (f:FuncId) (caps:List D) (p:Int→Bool) (hl:l.length≤4294967296)
 (h:∀ x∈l,FCt prog f (.ro::caps.map fun _=>.ro) (Ii x::caps) (Bb (p x)) []):FCt prog F_slices_ContainsFunc__sint_int [.ro,.ro] [ints l,.clo f caps] (Bb (l.any p)) []:=by
 refine fct_run slices_ContainsFunc__sint_int.ok rfl ?_
 simp only [go_sem]
 refine fcW_int (slices_IndexFunc__sint_int.fc l f caps p hl h) ?_
 simp only [go_sem,ge_iff_le,idxB_any]
def putK (l:List Int) (x:Int):Nat:=l.findIdx (fun y=>!decide (y < x))
def putI (l:List Int) (x:Int):List Int:=if l[putK l x]? = some x then l else l.take (putK l x)++x::l.drop (putK l x)
theorem allSc {l:List Int}:(l.map Ii).all isSc=true:=by
 rw [List.all_eq_true];intro d hd;obtain ⟨x,_,rfl⟩:=List.mem_map.1 hd;rfl
theorem putI_len (l:List Int) (x:Int):(putI l x).length≤l.length+1:=by
 unfold putI
 split
 · omega
 · simp;omega
abbrev bools (l:List Bool):D:=.sl 1 (l.map Bb)
def hasI (so:List Int) (x:Int):Bool:=so.any (· == x)
def listI (n:Nat) (p:Nat→Bool):List Int:=((List.range n).filter p).map fun (i:Nat)=>(i:Int)
theorem noRs_bools {l:List Bool}:noRs (bools l)=true:=noRs_sl (by
 intro d hd;obtain ⟨x,_,rfl⟩:=List.mem_map.1 hd;rfl)
theorem allScB {l:List Bool}:(l.map Bb).all isSc=true:=by
 rw [List.all_eq_true];intro d hd;obtain ⟨x,_,rfl⟩:=List.mem_map.1 hd;rfl
theorem slices_Equal__sbool_bool.fc (a b:List Bool) (ha:a.length≤4294967296) (hb:b.length≤4294967296):FCt prog F_slices_Equal__sbool_bool [.ro,.ro] [bools a,bools b] (Bb (decide (a=b))) []:=by
 refine fct_run slices_Equal__sbool_bool.ok rfl ?_
 simp only [go_sem]
 by_cases hl:a.length=b.length
 case neg =>
  have e:((a.length:Int) != (b.length:Int))=true:=by simp;omega
  have hne:¬ a=b:=fun h=>hl (by rw [h])
  simp only [go_sem,e,decide_eq_false hne]
 have e:((a.length:Int) != (b.length:Int))=false:=by simp;omega
 simp only [go_sem,e]
 refine R_loop (α:=Nat) (fun k s' M'=>k≤a.length∧s' 13=aI k∧a.take k=b.take k) (fun k=>a.length - k) 0 ⟨by omega,by simp only [go_sem];rfl,by simp⟩ ?_
 rintro k s' M' ⟨hk,h13,hr⟩ ho
 unfold slices_Equal__sbool_bool.b0
 have j0:s' 0=.dat none (bools a):=by rw [ho 0 rfl];simp only [go_sem]
 have j1:s' 1=.dat none (bools b):=by rw [ho 1 rfl];simp only [go_sem]
 have j12:s' 12=aI a.length:=by rw [ho 12 rfl];simp only [go_sem]
 clear ho
 by_cases hlt:k < a.length
 · have hi':(k:Int) < a.length:=by omega
   have ga:a[k]? = some a[k]:=List.getElem?_eq_getElem hlt
   have hw:IntKind.i64.wrap (k+1)=((k+1:Nat):Int):=wrap_k hlt (by omega)
   have gb:b[k]? = some b[k]:=List.getElem?_eq_getElem (by omega)
   have ib:(k:Int) < b.length:=by omega
   cases hq:(a[k] == b[k]) with
   | false =>
    have hne:¬ a=b:=fun h=>by subst h;simp at hq
    have hq1:(a[k] != b[k])=true:=by rw [bne,hq];rfl
    have hq2:((a[k] == b[k]) != true)=true:=by rw [hq];rfl
    simp only [go_sem,hi',ga,gb,ib,hq1,hq2,decide_eq_false hne,j0,j1,j12,h13]
   | true =>
    have hq1:(a[k] != b[k])=false:=by rw [bne,hq];rfl
    have hq2:((a[k] == b[k]) != true)=false:=by rw [hq];rfl
    simp only [go_sem,hi',ga,gb,ib,hq1,hq2,hw,j0,j1,j12,h13]
    exact ⟨k+1,by dsimp only;omega,by omega,by simp only [go_sem,j0,j1,j12,h13],by rw [take_succ' hlt,take_succ' (show k < b.length by omega),hr,eq_of_beq hq]⟩
 · have hi':¬ (k:Int) < a.length:=by omega
   obtain rfl:k=a.length:=by omega
   rw [List.take_length,hl,List.take_length] at hr
   simp only [go_sem,Int.lt_irrefl,decide_eq_true hr,j0,j1,j12,h13]
def segI (a b:Nat) (p:Nat→Bool):List Int:=((List.range' a b).filter p).map fun (i:Nat)=>(i:Int)
theorem listI_seg (n:Nat) (p:Nat→Bool):listI n p=segI 0 n p:=by simp only [listI,segI,List.range_eq_range']
theorem segI_split {a b c:Nat} {p:Nat→Bool}:segI a (b+c) p=segI a b p++segI (a+b) c p:=by
 simp only [segI]
 rw [← List.range'_append_1,List.filter_append,List.map_append]
theorem segI_mem {a b:Nat} {p:Nat→Bool} {x:Int} (h:x∈segI a b p):∃ i:Nat,x=i∧a≤i∧i < a+b∧p i=true:=by
 simp only [segI,List.mem_map,List.mem_filter,List.mem_range'_1] at h
 obtain ⟨i,⟨hi,hp⟩,rfl⟩:=h
 exact ⟨i,rfl,hi.1,hi.2,hp⟩
theorem segI_congr {a b:Nat} {p q:Nat→Bool} (h:∀ i,a≤i→i < a+b→p i=q i):segI a b p=segI a b q:=by
 simp only [segI]
 congr 1
 exact List.filter_congr fun i hi=>by rw [List.mem_range'_1] at hi;exact h i hi.1 hi.2
theorem putK_app {A C:List Int} {x:Int} (hA:∀ y∈A,y < x) (hC:∀ y∈C,¬ y < x):putK (A++C) x=A.length:=by
 unfold putK
 have h1:A.findIdx (fun y=>!decide (y < x))=A.length:=by
  rw [List.findIdx_eq_length];intro y hy;simp [hA y hy]
 rw [List.findIdx_append,h1,if_neg (by omega)]
 cases C with
 | nil=>simp
 | cons c C =>
  have:=hC c List.mem_cons_self
  simp only [List.findIdx_cons,this,decide_false,Bool.not_false,cond_true,Nat.zero_add]
theorem putI_app {A C:List Int} {x:Int} (hA:∀ y∈A,y < x) (hC:∀ y∈C,x < y):putI (A++C) x=A++x::C∧putI (A++x::C) x=A++x::C:=by
 constructor
 · unfold putI
   rw [putK_app hA (fun y hy=>by have:=hC y hy;omega)]
   have:(A++C)[A.length]?≠some x:=by
    rw [List.getElem?_append_right (Nat.le_refl _),Nat.sub_self]
    cases C with
    | nil=>simp
    | cons c C=>have:=hC c List.mem_cons_self;simp;omega
   rw [if_neg this]
   simp
 · unfold putI
   rw [putK_app hA (fun y hy=>by
    rcases List.mem_cons.1 hy with rfl|hy
    · omega
    · have:=hC y hy;omega)]
   simp
theorem putI_list {n:Nat} {p:Nat→Bool} {x:Nat} (hx:x < n):putI (listI n p) x=listI n (fun i=>if i=x then true else p i):=by
 obtain ⟨m,rfl⟩:∃ m,n=x+(1+m):=⟨n - x - 1,by omega⟩
 rw [listI_seg,listI_seg,segI_split (p:=p),segI_split (p:=p) (b:=1),segI_split (p:=fun i=>if i=x then true else p i),segI_split (p:=fun i=>if i=x then true else p i) (b:=1)]
 simp only [Nat.zero_add]
 have hA:∀ q,∀ y∈segI 0 x q,y < (x:Int):=fun q y hy=>by obtain ⟨i,rfl,_,h,_⟩:=segI_mem hy;omega
 have hC:∀ q,∀ y∈segI (x+1) m q,(x:Int) < y:=fun q y hy=>by obtain ⟨i,rfl,h,_,_⟩:=segI_mem hy;omega
 have e1:segI 0 x (fun i=>if i=x then true else p i)=segI 0 x p:=segI_congr fun i _ h=>by rw [if_neg (by omega)]
 have e2:segI (x+1) m (fun i=>if i=x then true else p i)=segI (x+1) m p:=segI_congr fun i h _=>by rw [if_neg (by omega)]
 have e3:segI x 1 (fun i=>if i=x then true else p i)=[(x:Int)]:=by simp [segI]
 rw [e1,e2,e3]
 cases hp:p x with
 | true =>
  have e4:segI x 1 p=[(x:Int)]:=by simp [segI,hp]
  rw [e4]
  exact (putI_app (hA p) (hC p)).2
 | false =>
  have e4:segI x 1 p=[]:=by simp [segI,hp]
  rw [e4,List.nil_append]
  exact (putI_app (hA p) (hC p)).1
theorem listI_congr {n:Nat} {p q:Nat→Bool} (h:∀ i,i < n→p i=q i):listI n p=listI n q:=by
 rw [listI_seg,listI_seg];exact segI_congr fun i _ hi=>h i (by omega)
theorem noRs_agg {fs:List D} (h:∀ d∈fs,noRs d=true):noRs (.agg fs)=true:=by simp only [noRs];exact noRsL_all h
theorem hasSl {α:Type} {f:α→D} {p:α→Prop} {T:Ty} (one:∀ x,HasTy T x→∃ a,x=f a∧p a) {d:D} (h:HasTy (.sl T) d):∃ l:List α,d=.sl T.cells (l.map f)∧l.length≤9223372036854775807∧∀ a∈l,p a:=by
 simp only [HasTy] at h
 obtain ⟨xs,rfl,hl,h⟩:=h
 have:∀ xs:List D,(∀ x∈xs,HasTy T x)→∃ l:List α,xs=l.map f∧∀ a∈l,p a:=by
  intro xs
  induction xs with
  | nil=>intro _;exact ⟨[],rfl,by simp⟩
  | cons x xs ih =>
   intro h
   obtain ⟨a,rfl,hp⟩:=one x (h x List.mem_cons_self)
   obtain ⟨l,rfl,hl⟩:=ih fun y hy=>h y (List.mem_cons_of_mem _ hy)
   exact ⟨a::l,rfl,fun b hb=>by
    rcases List.mem_cons.1 hb with rfl|hb
    · exact hp
    · exact hl b hb⟩
 obtain ⟨l,rfl,hp⟩:=this xs h
 exact ⟨l,rfl,by simpa [maxLen] using hl,hp⟩
theorem noRs_t2 {a b:D} (h1:noRs a=true) (h2:noRs b=true):noRs (.tup [a,b])=true:=by simp only [noRs,noRsL,h1,h2,Bool.and_self]
theorem noRs_t3 {a b c:D} (h1:noRs a=true) (h2:noRs b=true) (h3:noRs c=true):noRs (.tup [a,b,c])=true:=by simp only [noRs,noRsL,h1,h2,h3,Bool.and_self]
theorem mem_putI {l:List Int} {x y:Int}:y∈putI l x↔y=x∨y∈l:=by
 unfold putI
 split
 · rename_i h
   have:=List.mem_of_getElem? h
   constructor
   · exact .inr
   · rintro (rfl|h)
     · exact this
     · exact h
 · rw [List.mem_append,List.mem_cons]
   have:y∈l↔y∈l.take (putK l x)∨y∈l.drop (putK l x):=by rw [← List.mem_append,List.take_append_drop]
   rw [this]
   constructor
   · rintro (h|rfl|h)
     · exact .inr (.inl h)
     · exact .inl rfl
     · exact .inr (.inr h)
   · rintro (rfl|h|h)
     · exact .inr (.inl rfl)
     · exact .inl h
     · exact .inr (.inr h)
theorem hasI_iff {l:List Int} {x:Int}:hasI l x=true↔x∈l:=by
 unfold hasI
 rw [List.any_eq_true]
 exact ⟨fun ⟨y,h,e⟩=>by rw [← (by simpa using e:y=x)];exact h,fun h=>⟨x,h,by simp⟩⟩
theorem hasI_put {l:List Int} {x y:Int}:hasI (putI l x) y=(decide (y=x)||hasI l y):=by
 rw [Bool.eq_iff_iff,hasI_iff,mem_putI,Bool.or_eq_true,decide_eq_true_eq,hasI_iff]
def lackN (n:Nat) (so:List Int):Nat:=((List.range (n+1)).filter fun (i:Nat)=>!hasI so (i:Int)).length
theorem filter_lt {α:Type} {p q:α→Bool} {l:List α} {z:α} (hz:z∈l) (hp:p z=true) (hq:q z=false) (h:∀ y,q y=true→p y=true):(l.filter q).length < (l.filter p).length:=by
 have e:l.filter q=(l.filter p).filter q:=by
  rw [List.filter_filter]
  refine List.filter_congr fun y _=>?_
  cases hh:q y with
  | false=>simp
  | true=>simp [h y hh]
 rw [e]
 exact List.length_filter_lt_length_iff_exists.2 ⟨z,List.mem_filter.2 ⟨hz,hp⟩,by simp [hq]⟩
theorem lack_put {n:Nat} {so:List Int} {x:Int} (hx:0≤x∧x≤n) (h:hasI so x=false):lackN n (putI so x)+1≤lackN n so:=by
 unfold lackN
 have e:((x.toNat:Nat):Int)=x:=by omega
 refine Nat.succ_le_of_lt (filter_lt (z:=x.toNat) (by simp;omega) ?_ ?_ fun y hy=>?_)
 · rw [e,h];rfl
 · rw [e,hasI_put];simp
 · rw [hasI_put] at hy;simp at hy;simp [hy.2]
theorem lack_le {n:Nat} {so:List Int}:lackN n so≤n+1:=by
 unfold lackN
 exact Nat.le_trans (List.length_filter_le _ _) (by simp)
def readyR (so:List Int) (r:RuleD):Bool:=decide (r.thn > 0)&&!hasI so r.thn&&r.ifs.all (hasI so)
def ruleAt (l:List RuleD) (i:Nat):RuleD:=l.getD i ⟨[],0⟩
def leastI (l:List RuleD):Nat→List Int→List Int→List Int×List Int
 | 0,so,ap=>(so,ap)
 | f+1,so,ap=>match l.findIdx? (readyR so) with
  | none=>(so,ap)
  | some i=>leastI l f (putI so (ruleAt l i).thn) (ap++[(i:Int)])
theorem ruleAt_get {l:List RuleD} {i:Nat} (h:i < l.length):ruleAt l i=l[i]:=by
 unfold ruleAt;rw [List.getD_eq_getElem?_getD,List.getElem?_eq_getElem h];rfl
theorem ready_at {l:List RuleD} {so:List Int} {i:Nat} (h:l.findIdx? (readyR so)=some i):i < l.length∧readyR so (ruleAt l i)=true:=by
 rw [List.findIdx?_eq_some_iff_getElem] at h
 obtain ⟨hi,h,_⟩:=h
 exact ⟨hi,by rw [ruleAt_get hi];exact h⟩
theorem ready_thn {so:List Int} {r:RuleD} (h:readyR so r=true):0 < r.thn∧hasI so r.thn=false:=by
 simp only [readyR,Bool.and_eq_true,decide_eq_true_eq,Bool.not_eq_true'] at h
 exact ⟨h.1.1,h.1.2⟩
theorem ready_lack {n:Nat} {l:List RuleD} {so:List Int} {i:Nat} (hr:∀ r∈l,r.thn≤n) (h:l.findIdx? (readyR so)=some i):lackN n (putI so (ruleAt l i).thn)+1≤lackN n so:=by
 obtain ⟨hi,h⟩:=ready_at h
 have:=ready_thn h
 exact lack_put ⟨by omega,hr _ (by rw [ruleAt_get hi];exact List.getElem_mem hi)⟩ this.2
theorem least_fuel {n:Nat} {l:List RuleD} (hr:∀ r∈l,r.thn≤n):∀ (f g:Nat) (so ap:List Int),lackN n so≤f→lackN n so≤g→leastI l f so ap=leastI l g so ap:=by
 intro f
 induction f with
 | zero =>
  intro g so ap hf hg
  cases g with
  | zero=>rfl
  | succ g =>
   simp only [leastI]
   cases h:l.findIdx? (readyR so) with
   | none=>rfl
   | some i=>have:=ready_lack hr h;omega
 | succ f ih =>
  intro g so ap hf hg
  cases g with
  | zero =>
   simp only [leastI]
   cases h:l.findIdx? (readyR so) with
   | none=>rfl
   | some i=>have:=ready_lack hr h;omega
  | succ g =>
   simp only [leastI]
   cases h:l.findIdx? (readyR so) with
   | none=>rfl
   | some i =>
    have:=ready_lack hr h
    exact ih g _ _ (by omega) (by omega)
def leastP (l:List RuleD):List Int×List Int:=leastI l 14 [] []
theorem least_step {n:Nat} {l:List RuleD} (hn:n≤12) (hr:∀ r∈l,r.thn≤n) {so ap:List Int} {i:Nat} (h:l.findIdx? (readyR so)=some i):leastI l 14 (putI so (ruleAt l i).thn) (ap++[(i:Int)])=leastI l 14 so ap:=by
 have h1:leastI l 15 so ap=leastI l 14 (putI so (ruleAt l i).thn) (ap++[(i:Int)]):=by simp only [leastI,h]
 have hl:=lack_le (n:=n) (so:=so)
 rw [← h1]
 exact least_fuel hr _ _ _ _ (by omega) (by omega)
structure LeastOk (n:Nat) (l:List RuleD) (so ap:List Int):Prop where
 same:leastI l 14 so ap=leastP l
 sort:so=listI (n+1) fun i=>hasI so (i:Int)
 few:so.length≤ap.length
 left:ap.length+lackN n so≤n+1
 apl:∀ i∈ap,0≤i∧i < l.length∧0 < (ruleAt l i.toNat).thn
theorem LeastOk.start {n:Nat} {l:List RuleD}:LeastOk n l [] [] where
 same:=rfl
 sort:=by
  have:listI (n+1) (fun i=>hasI [] (i:Int))=[]:=by
   unfold listI;rw [List.filter_eq_nil_iff.2 (by intro i _;simp [hasI])];rfl
  rw [this]
 few:=by simp
 left:=by have:=lack_le (n:=n) (so:=[]);simpa using this
 apl:=by simp
theorem LeastOk.next {n:Nat} {l:List RuleD} {so ap:List Int} (hn:n≤12) (hr:∀ r∈l,r.thn≤n) (h:LeastOk n l so ap) {i:Nat} (hi:l.findIdx? (readyR so)=some i):LeastOk n l (putI so (ruleAt l i).thn) (ap++[(i:Int)]) where
 same:=by rw [least_step hn hr hi];exact h.same
 sort:=by
  obtain ⟨h1,h2⟩:=ready_at hi
  have h3:=ready_thn h2
  have h4:(ruleAt l i).thn≤n:=hr _ (by rw [ruleAt_get h1];exact List.getElem_mem h1)
  have hp:=putI_list (n:=n+1) (p:=fun i=>hasI so (i:Int)) (x:=(ruleAt l i).thn.toNat) (by omega)
  rw [← h.sort,show (((ruleAt l i).thn.toNat:Nat):Int)=(ruleAt l i).thn by omega] at hp
  rw [hp]
  refine listI_congr fun j hj=>?_
  rw [← hp,hasI_put]
  by_cases e:j=(ruleAt l i).thn.toNat
  · rw [if_pos e];simp;omega
  · rw [if_neg e]
    have:¬ ((j:Int)=(ruleAt l i).thn):=by omega
    simp [this]
 few:=by have:=putI_len so (ruleAt l i).thn;have:=h.few;simp;omega
 left:=by have:=ready_lack hr hi;have:=h.left;simp;omega
 apl:=fun j hj=>by
  rcases List.mem_append.1 hj with hj|hj
  · exact h.apl j hj
  · obtain ⟨h1,h2⟩:=ready_at hi
    have:j=i:=by simpa using hj
    subst this
    exact ⟨by omega,by omega,by rw [Int.toNat_natCast];exact (ready_thn h2).1⟩
theorem LeastOk.len {n:Nat} {l:List RuleD} {so ap:List Int} (h:LeastOk n l so ap) (hn:n≤12):so.length≤13∧ap.length≤13:=by
 have:=h.few;have:=h.left;omega
theorem slices_Index__sint_int.fc (l:List Int) (x:Int) (hl:l.length≤4294967296):FCt prog F_slices_Index__sint_int [.ro,.ro] [ints l,Ii x] (Ii (idxB (fun y=>x == y) l)) []:=by
 refine fct_run slices_Index__sint_int.ok rfl ?_
 simp only [go_sem]
 refine R_loop (α:=Nat) (fun k s' M'=>k≤l.length∧s' 8=aI k∧(l.take k).all (fun y=>!(x == y))=true) (fun k=>l.length - k) 0 ⟨by omega,by simp only [go_sem];rfl,by simp⟩ ?_
 rintro k s' M' ⟨hk,h8,hr⟩ ho
 unfold slices_Index__sint_int.b0
 have k0:s' 0=.dat none (ints l):=by rw [ho 0 rfl];simp only [go_sem]
 have k1:s' 1=aI x:=by rw [ho 1 rfl];simp only [go_sem]
 have k7:s' 7=aI l.length:=by rw [ho 7 rfl];simp only [go_sem]
 clear ho
 by_cases hlt:k < l.length
 · have hi':(k:Int) < l.length:=by omega
   have ga:l[k]? = some l[k]:=List.getElem?_eq_getElem hlt
   have hw:IntKind.i64.wrap (k+1)=((k+1:Nat):Int):=wrap_k hlt (by omega)
   simp only [go_sem,hi',ga,k0,k1,k7,h8]
   cases hc:(x == l[k]) with
   | true=>simp only [go_sem,idxB_some (p:=fun y=>x == y) hlt hr hc,k0,k1,k7,h8]
   | false =>
    simp only [go_sem,hw,k0,k1,k7,h8]
    exact ⟨k+1,by dsimp only;omega,by omega,by simp only [go_sem,k0,k1,k7,h8],all_take hlt hr (by rw [hc];rfl)⟩
 · have hi':¬ (k:Int) < l.length:=by omega
   obtain rfl:k=l.length:=by omega
   rw [List.take_length] at hr
   simp only [go_sem,hi',idxB_none hr,k0,k1,k7,h8]
theorem slices_Contains__sint_int.fc (l:List Int) (x:Int) (hl:l.length≤4294967296):FCt prog F_slices_Contains__sint_int [.ro,.ro] [ints l,Ii x] (Bb (l.any (· == x))) []:=by
 refine fct_run slices_Contains__sint_int.ok rfl ?_
 have e:l.any (fun y=>x == y)=l.any (· == x):=by congr 1;funext y;rw [Bool.beq_comm]
 simp only [go_sem]
 refine fcW_int (slices_Index__sint_int.fc l x hl) ?_
 simp only [go_sem,ge_iff_le,idxB_any,e]
theorem slices_Clone__sint_int.fc (l:List Int) (hl:l.length≤4294967296):FCt prog F_slices_Clone__sint_int [.ro] [ints l] (ints l) []:=by
 refine fct_run slices_Clone__sint_int.ok rfl ?_
 have hsc:(l.map Ii).all isSc=true:=by rw [List.all_eq_true];intro d hd;obtain ⟨x,_,rfl⟩:=List.mem_map.1 hd;rfl
 cases l with
 | nil=>simp only [go_sem,List.length_nil,List.map_nil,List.all_nil];try rfl
 | cons b l =>
  have hb:(l.length+1) * 8≤70368744177664:=by simp only [List.length_cons] at hl;omega
  have htk:(l.map Ii).take l.length=l.map Ii:=List.take_of_length_le (by simp)
  simp only [List.map_cons,List.all_cons,Bool.and_eq_true] at hsc
  have h1:=hsc.1
  have h2:=hsc.2
  simp only [go_sem,h1,h2,hb,Nat.zero_le,htk]
  try rfl
abbrev strD (x:(Int×Int)):D:=.agg [Ii x.1,Ii x.2]
abbrev knownD (x:(Int×Int)):D:=.agg [Ii x.1,Ii x.2]
abbrev strs (l:List (Int×Int)):D:=.sl 2 (l.map strD)
abbrev knowns (l:List (Int×Int)):D:=.sl 2 (l.map knownD)
structure MayD where
 reg:List (Int×Int)
 bits:List (Int×Int)
 cell:List (Int×Int)
 isset:List Bool
 deriving DecidableEq
abbrev MayD.d (x:MayD):D:=.agg [strs x.reg,knowns x.bits,strs x.cell,bools x.isset]
def gS (x:Int×Int):Bool:=goodS x.1 x.2
def gK (x:Int×Int):Bool:=goodK x.1 x.2
structure MayOk (m:MayD):Prop where
 reg:m.reg.length=6
 bits:m.bits.length=6
 cell:m.cell.length=16
 isset:m.isset.length=16
 gr:∀ x∈m.reg,gS x=true
 gb:∀ x∈m.bits,gK x=true
 gc:∀ x∈m.cell,gS x=true
theorem eq_dec {a b:Nat}:((a:Int) == (b:Int))=decide (a=b):=by
 by_cases h:a=b
 · subst h;simp
 · have:((a:Int) == (b:Int))=false:=by rw [beq_eq_false_iff_ne];omega
   rw [this];simp [h]
structure MachD where
 pc:Int
 regs:List Int
 cells:List Int
 isset:List Bool
 deriving DecidableEq
abbrev MachD.d (x:MachD):D:=.agg [Ii x.pc,ints x.regs,ints x.cells,bools x.isset]
theorem noRs_Machine {x:MachD}:noRs (MachD.d x)=true:=noRs_agg fun d hd=>by
 rcases List.mem_cons.1 hd with rfl|hd
 · exact rfl
 rcases List.mem_cons.1 hd with rfl|hd
 · exact noRs_ints
 rcases List.mem_cons.1 hd with rfl|hd
 · exact noRs_ints
 rcases List.mem_cons.1 hd with rfl|hd
 · exact noRs_bools
 cases hd
theorem spec_l1All.fc (l:List Int) (lo hi:Int) (hl:l.length≤4294967296):FCt prog F_spec_l1All [.ro,.ro,.ro] [ints l,Ii lo,Ii hi] (Bb (l.all fun n=>inB n lo hi)) []:=by
 refine fct_run spec_l1All.ok rfl ?_
 simp only [go_sem]
 refine R_loop (α:=Nat) (fun k s' M'=>k≤l.length∧s' 11=aI k∧(l.take k).all (fun n=>inB n lo hi)=true) (fun k=>l.length - k) 0 ⟨by omega,by simp only [go_sem];rfl,by simp⟩ ?_
 rintro k s' M' ⟨hk,h11,hr⟩ ho
 unfold spec_l1All.b0
 have k1:s' 1=aI lo:=by rw [ho 1 rfl];simp only [go_sem]
 have k2:s' 2=aI hi:=by rw [ho 2 rfl];simp only [go_sem]
 have k9:s' 9=.dat none (ints l):=by rw [ho 9 rfl];simp only [go_sem]
 have k10:s' 10=aI l.length:=by rw [ho 10 rfl];simp only [go_sem]
 clear ho
 by_cases hlt:k < l.length
 · have hi':(k:Int) < l.length:=by omega
   have ga:l[k]? = some l[k]:=List.getElem?_eq_getElem hlt
   have hw:IntKind.i64.wrap (k+1)=((k+1:Nat):Int):=wrap_k hlt (by omega)
   simp only [go_sem,hi',ga,k1,k2,k9,k10,h11]
   refine fcW_bool (spec_l1In.fc l[k] lo hi) ?_
   cases hc:inB l[k] lo hi with
   | false=>simp only [go_sem,not_all (p:=fun n=>inB n lo hi) hlt hc,k1,k2,k9,k10,h11]
   | true =>
    simp only [go_sem,hw,k1,k2,k9,k10,h11]
    exact ⟨k+1,by dsimp only;omega,by omega,by simp only [go_sem,k1,k2,k9,k10,h11],all_take hlt hr hc⟩
 · have hi':¬ (k:Int) < l.length:=by omega
   obtain rfl:k=l.length:=by omega
   rw [List.take_length] at hr
   simp only [go_sem,hi',hr,k1,k2,k9,k10,h11]
structure MachOk (m:MachD):Prop where
 pc:0≤m.pc∧m.pc≤19
 regs:m.regs.length=6
 cells:m.cells.length=16
 isset:m.isset.length=16
 wr:∀ x∈m.regs,0≤x∧x≤65535
 wc:∀ x∈m.cells,0≤x∧x≤65535
theorem all_range {p:Nat→Bool} {k:Nat} (h:(List.range k).all p=true) (h2:p k=true):(List.range (k+1)).all p=true:=by
 rw [List.range_succ,List.all_append,h];simpa using h2
theorem not_range {p:Nat→Bool} {n k:Nat} (hk:k < n) (h2:p k=false):(List.range n).all p=false:=by
 rw [← Bool.not_eq_true,List.all_eq_true]
 intro h
 have:=h k (by simpa using hk)
 rw [h2] at this;cases this
theorem getD_get {α:Type} {l:List α} {i:Nat} {d:α} (h:i < l.length):l.getD i d=l[i]:=by rw [List.getD_eq_getElem?_getD,List.getElem?_eq_getElem h];rfl
def orI (a b:Int):Int:=IntKind.i64.wrap (BitVec.ofInt IntKind.i64.bits a ||| BitVec.ofInt IntKind.i64.bits b).toNat
def xorI (a b:Int):Int:=IntKind.i64.wrap (BitVec.ofInt IntKind.i64.bits a ^^^ BitVec.ofInt IntKind.i64.bits b).toNat
def nn (a:Int):Prop:=0≤a∧a < 9223372036854775808
theorem bv_nn {a:Int} (h:nn a):(BitVec.ofInt IntKind.i64.bits a).toNat=a.toNat:=by
 obtain ⟨h1,h2⟩:=h
 show (BitVec.ofInt 64 a).toNat=a.toNat
 rw [BitVec.toNat_ofInt]
 omega
theorem bvI_nn {a:Int} (h:nn a):BitVec.ofInt IntKind.i64.bits a=BitVec.ofNat 64 a.toNat:=by
 apply BitVec.eq_of_toNat_eq
 rw [bv_nn h]
 show _=(BitVec.ofNat 64 a.toNat).toNat
 rw [BitVec.toNat_ofNat]
 obtain ⟨h1,h2⟩:=h
 omega
def wd (a:Int):Prop:=0≤a∧a≤65535
theorem wd.nn {a:Int} (h:wd a):nn a:=⟨h.1,by have:=h.2;omega⟩
theorem wd.lt {a:Int} (h:wd a):a.toNat < 2 ^ 16:=by obtain ⟨h1,h2⟩:=h;omega
theorem andI_mask (n:Int):andI n 65535=n % 65536:=by
 unfold andI
 have e:(BitVec.ofInt IntKind.i64.bits n &&& BitVec.ofInt IntKind.i64.bits 65535).toNat=(n % 65536).toNat:=by
  rw [BitVec.toNat_and,bv_nn (a:=65535) ⟨by decide,by decide⟩]
  show (BitVec.ofInt 64 n).toNat &&& 65535=_
  rw [show (65535:Nat)=2 ^ 16 - 1 from rfl,Nat.and_two_pow_sub_one_eq_mod,BitVec.toNat_ofInt]
  omega
 rw [e,wrap_in (by omega) (by omega)]
 omega
theorem emod_wd (n:Int):wd (n % 65536):=⟨by omega,by omega⟩
theorem tmod_cases (n:Int):Int.tmod n 65536=n % 65536∨Int.tmod n 65536=n % 65536 - 65536:=by
 rcases Int.le_total 0 n with h|h
 · exact .inl (Int.tmod_eq_emod_of_nonneg h)
 · obtain ⟨m,rfl⟩:∃ m:Int,n = -m:=⟨-n,by omega⟩
   have:Int.tmod m 65536=m % 65536:=Int.tmod_eq_emod_of_nonneg (by omega)
   rw [Int.neg_tmod,this]
   omega
theorem wrap_ref {n:Int}:Int.tmod (IntKind.i64.wrap (Int.tmod n 65536+65536)) 65536=n % 65536:=by
 have h0:=tmod_cases n
 rw [wrap_in (x:=Int.tmod n 65536+65536) (by omega) (by omega),Int.tmod_eq_emod_of_nonneg (by omega)]
 omega
abbrev bI (a:Int):BitVec 64:=BitVec.ofInt 64 a
theorem wrap_bv (x:BitVec 64):IntKind.i64.wrap (x.toNat:Int)=x.toInt:=by
 rw [BitVec.toInt_eq_toNat_bmod]
 simp [IntKind.wrap,IntKind.signed,IntKind.bits,Int.bmod]
 have:=x.isLt
 split<;>split<;>omega
theorem andI_bv (a b:Int):andI a b=(bI a &&& bI b).toInt:=wrap_bv _
theorem orI_bv (a b:Int):orI a b=(bI a ||| bI b).toInt:=wrap_bv _
theorem xorI_bv (a b:Int):xorI a b=(bI a ^^^ bI b).toInt:=wrap_bv _
theorem bI_wd {a:Int} (h:wd a) {i:Nat} (hi:16≤i):(bI a).getLsbD i=false:=by
 rw [show bI a=BitVec.ofNat 64 a.toNat from bvI_nn h.nn,BitVec.getLsbD_ofNat]
 have:a.toNat.testBit i=false:=Nat.testBit_lt_two_pow (Nat.lt_of_lt_of_le h.lt (Nat.pow_le_pow_right (by omega) hi))
 simp [this]
theorem wd_of_bits {x:BitVec 64} (h:∀ i,16≤i→x.getLsbD i=false):wd x.toInt:=by
 have hl:x.toNat < 2 ^ 16:=by
  refine Nat.lt_pow_two_of_testBit _ fun i hi=>?_
  rw [← BitVec.getLsbD];exact h i hi
 rw [BitVec.toInt_eq_toNat_of_lt (by omega)]
 exact ⟨by omega,by omega⟩
theorem andI_wd {a b:Int} (h:wd a):wd (andI a b):=by
 rw [andI_bv];exact wd_of_bits fun i hi=>by rw [BitVec.getLsbD_and,bI_wd h hi,Bool.false_and]
theorem orI_wd {a b:Int} (h:wd a) (h2:wd b):wd (orI a b):=by
 rw [orI_bv];exact wd_of_bits fun i hi=>by rw [BitVec.getLsbD_or,bI_wd h hi,bI_wd h2 hi,Bool.false_or]
theorem xorI_wd {a b:Int} (h:wd a) (h2:wd b):wd (xorI a b):=by
 rw [xorI_bv];exact wd_of_bits fun i hi=>by rw [BitVec.getLsbD_xor,bI_wd h hi,bI_wd h2 hi];rfl
theorem cdW_not {A B:Prop} {t:Bool} (h1:t=false→A) (h2:t=true→B):@cdW (some (!t)) ⟨A⟩ ⟨B⟩:=by
 cases t
 · exact h1 rfl
 · exact h2 rfl
theorem gdW_not {A B:Prop} {t b:Bool} (h1:t = !b→A) (h2:t=b→B):@gdW (some (some (!t))) b ⟨A⟩ ⟨B⟩:=by
 cases t<;>cases b
 · exact h2 rfl
 · exact h1 rfl
 · exact h1 rfl
 · exact h2 rfl
theorem impl_WordOf.fc (n:Int):FCt prog F_impl_WordOf [.ro] [Ii n] (Ii (n % 65536)) []:=by
 refine fct_run impl_WordOf.ok rfl ?_
 rw [← andI_mask]
 unfold andI
 simp only [go_sem]
theorem spec_l1Wrap.fc (n:Int):FCt prog F_spec_l1Wrap [.ro] [Ii n] (Ii (n % 65536)) []:=by
 refine fct_run spec_l1Wrap.ok rfl ?_
 simp only [go_sem,Int.reduceEq]
 rw [wrap_ref]
def doI (op a b:Int):Int :=
 if op == 1 then IntKind.i64.wrap (a+b) % 65536 else if op == 2 then IntKind.i64.wrap (a - b) % 65536 else if op == 3 then IntKind.i64.wrap (a * b) % 65536
 else if op == 4 then (if b == 0 then 0 else IntKind.i64.wrap (Int.tdiv a b)) else if op == 5 then (if b == 0 then a else Int.tmod a b)
 else if op == 6 then andI a b else if op == 7 then orI a b else if op == 8 then xorI a b
 else if op == 9 then IntKind.i64.wrap (a * 2 ^ min (Int.tmod b 16).toNat IntKind.i64.bits) % 65536 else Int.fdiv a (2 ^ min (Int.tmod b 16).toNat IntKind.i64.bits)
theorem tmod16 {b:Int} (hb:0≤b):0≤Int.tmod b 16∧Int.tmod b 16 < 16:=by
 rw [Int.tmod_eq_emod_of_nonneg hb];omega
theorem wrap_u64 {n:Int} (h:0≤n) (h2:n < 18446744073709551616):IntKind.u64.wrap n=n:=by
 simp [IntKind.wrap,IntKind.signed,IntKind.bits];omega
theorem impl_do.fc (op a b:Int) (hb:0≤b):FCt prog F_impl_do [.ro,.ro,.ro] [Ii op,Ii a,Ii b] (Ii (doI op a b)) []:=by
 refine fct_run impl_do.ok rfl ?_
 have h1:¬ Int.tmod b 16 < 0:=by have:=(tmod16 hb).1;omega
 unfold doI andI orI xorI
 have h2:b=0∨b≠0:=by omega
 have h3:(b == 0)=decide (b=0):=by by_cases h:b=0<;>simp [h]
 rcases h2 with h2|h2
 · subst h2
   repeat' (first|with_reducible rfl|refine fcW_int (impl_WordOf.fc ..) ?_|with_reducible refine cdW_dec (fun _=>?_) (fun _=>?_)|refine cdW_not (fun _=>?_) (fun _=>?_)|refine cdW_any (fun _=>?_) (fun _=>?_)|with_reducible refine gdW_decT (fun _=>?_) (fun _=>?_)|with_reducible refine gdW_decF (fun _=>?_) (fun _=>?_)|refine gdW_not (fun _=>?_) (fun _=>?_)|refine gdW_any (fun _=>?_) (fun _=>?_)|simp only [go_sem,bne,iQ,iB,iX,Int.reduceLE,iN,iA,iS,iM,iQ, *]|rfl)
 · repeat' (first|with_reducible rfl|refine fcW_int (impl_WordOf.fc ..) ?_|with_reducible refine cdW_dec (fun _=>?_) (fun _=>?_)|refine cdW_not (fun _=>?_) (fun _=>?_)|refine cdW_any (fun _=>?_) (fun _=>?_)|with_reducible refine gdW_decT (fun _=>?_) (fun _=>?_)|with_reducible refine gdW_decF (fun _=>?_) (fun _=>?_)|refine gdW_not (fun _=>?_) (fun _=>?_)|refine gdW_any (fun _=>?_) (fun _=>?_)|simp only [go_sem,bne,iQ,iB,iX,Int.reduceLE,iN,iA,iS,iM,iQ,decide_false, *]|rfl)
theorem spec_l1Do.fc (op a b:Int) (hb:0≤b):FCt prog F_spec_l1Do [.ro,.ro,.ro] [Ii op,Ii a,Ii b] (Ii (doI op a b)) []:=by
 refine fct_run spec_l1Do.ok rfl ?_
 have h1:¬ Int.tmod b 16 < 0:=by have:=(tmod16 hb).1;omega
 have h4:IntKind.u64.wrap (Int.tmod b 16)=Int.tmod b 16:=wrap_u64 (tmod16 hb).1 (by have:=(tmod16 hb).2;omega)
 unfold doI andI orI xorI
 have h2:b=0∨b≠0:=by omega
 have h3:(b == 0)=decide (b=0):=by by_cases h:b=0<;>simp [h]
 rcases h2 with h2|h2
 · subst h2
   repeat' (first|with_reducible rfl|refine fcW_int (spec_l1Wrap.fc ..) ?_|with_reducible refine cdW_dec (fun _=>?_) (fun _=>?_)|refine cdW_not (fun _=>?_) (fun _=>?_)|refine cdW_any (fun _=>?_) (fun _=>?_)|with_reducible refine gdW_decT (fun _=>?_) (fun _=>?_)|with_reducible refine gdW_decF (fun _=>?_) (fun _=>?_)|refine gdW_not (fun _=>?_) (fun _=>?_)|refine gdW_any (fun _=>?_) (fun _=>?_)|simp only [go_sem,bne,iQ,iB,iX,Int.reduceLE,iN,iA,iS,iM,iQ, *]|rfl)
 · repeat' (first|with_reducible rfl|refine fcW_int (spec_l1Wrap.fc ..) ?_|with_reducible refine cdW_dec (fun _=>?_) (fun _=>?_)|refine cdW_not (fun _=>?_) (fun _=>?_)|refine cdW_any (fun _=>?_) (fun _=>?_)|with_reducible refine gdW_decT (fun _=>?_) (fun _=>?_)|with_reducible refine gdW_decF (fun _=>?_) (fun _=>?_)|refine gdW_not (fun _=>?_) (fun _=>?_)|refine gdW_any (fun _=>?_) (fun _=>?_)|simp only [go_sem,bne,iQ,iB,iX,Int.reduceLE,iN,iA,iS,iM,iQ,decide_false, *]|rfl)
set_option maxHeartbeats 8000000
structure MLen (m:MayD):Prop where
 reg:m.reg.length=6
 bits:m.bits.length=6
 cell:m.cell.length=16
 isset:m.isset.length=16
theorem MayOk.len {m:MayD} (h:MayOk m):MLen m:=⟨h.reg,h.bits,h.cell,h.isset⟩
section
variable {α:Type} {A B:List α} {k:Nat} {f:α→D}
end
structure StepD where
 kind:Int
 op:Int
 dst:Int
 src:Int
 imm:Int
 to:Int
 deriving DecidableEq
abbrev StepD.d (x:StepD):D:=.agg [Ii x.kind,Ii x.op,Ii x.dst,Ii x.src,Ii x.imm,Ii x.to]
abbrev steps (l:List StepD):D:=.sl 6 (l.map StepD.d)
theorem noRs_steps {l:List StepD}:noRs (steps l)=true:=noRs_sl (by
 intro d hd
 obtain ⟨x,_,rfl⟩:=List.mem_map.1 hd
 exact rfl)
theorem spec_l2Reg.fc (n:Int):FCt prog F_spec_l2Reg [.ro] [Ii n] (Bb (inB n 0 5)) []:=by
 refine fct_run spec_l2Reg.ok rfl ?_
 repeat' (first|with_reducible rfl|refine fcW_bool (spec_l1In.fc ..) ?_|with_reducible refine cdW_dec (fun _=>?_) (fun _=>?_)|refine cdW_not (fun _=>?_) (fun _=>?_)|refine cdW_any (fun _=>?_) (fun _=>?_)|with_reducible refine gdW_decT (fun _=>?_) (fun _=>?_)|with_reducible refine gdW_decF (fun _=>?_) (fun _=>?_)|refine gdW_not (fun _=>?_) (fun _=>?_)|refine gdW_any (fun _=>?_) (fun _=>?_)|simp only [go_sem,bne,iQ,iB,iX,Int.reduceLE,iN,iA,iS,iM, *]|rfl)
def zeroB (s:StepD) (op dst src imm to:Bool):Bool:=(op||s.op == 0)&&(dst||s.dst == 0)&&(src||s.src == 0)&&(imm||s.imm == 0)&&(to||s.to == 0)
theorem spec_l2Zero.fc (s:StepD) (op dst src imm to:Bool):FCt prog F_spec_l2Zero [.ro,.ro,.ro,.ro,.ro,.ro] [s.d,Bb op,Bb dst,Bb src,Bb imm,Bb to] (Bb (zeroB s op dst src imm to)) []:=by
 refine fct_run spec_l2Zero.ok rfl ?_
 unfold zeroB
 repeat' (first|with_reducible rfl|with_reducible refine cdW_dec (fun _=>?_) (fun _=>?_)|refine cdW_not (fun _=>?_) (fun _=>?_)|refine cdW_any (fun _=>?_) (fun _=>?_)|with_reducible refine gdW_decT (fun _=>?_) (fun _=>?_)|with_reducible refine gdW_decF (fun _=>?_) (fun _=>?_)|refine gdW_not (fun _=>?_) (fun _=>?_)|refine gdW_any (fun _=>?_) (fun _=>?_)|simp only [go_sem,bne,iQ,iB,iX,Int.reduceLE,iN,iA,iS,iM, *]|rfl)
def stepB (s:StepD):Bool :=
 if !inB s.dst 0 5 then false else if !inB s.src 0 5 then false else
 if s.kind == 1 then inB s.op 1 10&&zeroB s true true true false false else
 if s.kind == 2 then inB s.op 1 10&&inB s.imm 0 255&&zeroB s true true false true false else
 if s.kind == 3 then inB s.imm 0 255&&zeroB s false true false true false else
 if s.kind == 4 then inB s.imm 256 65535&&zeroB s false true false true false else
 if s.kind == 5 then inB s.imm 0 7&&zeroB s false true true true false else
 if s.kind == 6 then inB s.imm 0 255&&zeroB s false true false true false else
 if s.kind == 7 then inB s.imm 0 255&&zeroB s false true false true false else
 if s.kind == 8 then inB s.to 1 19&&zeroB s false false false false true else
 if s.kind == 9 then inB s.to 1 19&&zeroB s false true true false true else
 if s.kind == 10 then inB s.to 1 19&&zeroB s false true true false true else
 (s.kind == 11)&&zeroB s false false false false false
theorem spec_l2Step.fc (s:StepD):FCt prog F_spec_l2Step [.ro] [s.d] (Bb (stepB s)) []:=by
 refine fct_run spec_l2Step.ok rfl ?_
 unfold stepB
 repeat' (first|with_reducible rfl|refine fcW_bool (spec_l1In.fc ..) ?_|refine fcW_bool (spec_l2Reg.fc ..) ?_|refine fcW_bool (spec_l2Zero.fc ..) ?_|with_reducible refine cdW_dec (fun _=>?_) (fun _=>?_)|refine cdW_not (fun _=>?_) (fun _=>?_)|refine cdW_any (fun _=>?_) (fun _=>?_)|with_reducible refine gdW_decT (fun _=>?_) (fun _=>?_)|with_reducible refine gdW_decF (fun _=>?_) (fun _=>?_)|refine gdW_not (fun _=>?_) (fun _=>?_)|refine gdW_any (fun _=>?_) (fun _=>?_)|simp only [go_sem,bne,iQ,iB,iX,Int.reduceLE,iN,iA,iS,iM, *]|rfl)
def fldL (k:Int):List UInt8 :=
 if k == 1 then [111,100,115] else if k == 2 then [111,100,105] else if k == 3 then [100,105] else if k == 4 then [100,105] else if k == 6 then [100,105] else if k == 7 then [100,105] else
 if k == 5 then [100,115,105] else if k == 8 then [116] else if k == 9 then [100,115,116] else if k == 10 then [100,115,116] else []
def strL (l:List UInt8):ByteArray:=⟨l.toArray⟩
theorem impl_fields.fc (k:Int):FCt prog F_impl_fields [.ro] [Ii k] (.str (strL (fldL k))) []:=by
 refine fct_run impl_fields.ok rfl ?_
 unfold fldL
 repeat' (first|with_reducible rfl|with_reducible refine cdW_dec (fun _=>?_) (fun _=>?_)|refine cdW_not (fun _=>?_) (fun _=>?_)|refine cdW_any (fun _=>?_) (fun _=>?_)|with_reducible refine gdW_decT (fun _=>?_) (fun _=>?_)|with_reducible refine gdW_decF (fun _=>?_) (fun _=>?_)|refine gdW_not (fun _=>?_) (fun _=>?_)|refine gdW_any (fun _=>?_) (fun _=>?_)|simp only [go_sem,bne,iQ,iB,iX,Int.reduceLE,iN,iA,iS,iM, *]|rfl)
 all_goals rfl
def rgF (k:Int) (c:Int):Int×Int :=
 if c == 111 then (1,10) else if c == 100 then (0,5) else if c == 115 then (0,5) else if c == 116 then (1,19) else
 if k == 4 then (256,65535) else if k == 5 then (0,7) else (0,255)
theorem impl_Step_ranges.fc (s:StepD) (c:Int):FCt prog F_impl_Step_ranges [.ro,.ro] [s.d,.int .u8 c] (.tup [Ii (rgF s.kind c).1,Ii (rgF s.kind c).2]) []:=by
 refine fct_run impl_Step_ranges.ok rfl ?_
 unfold rgF
 repeat' (first|with_reducible rfl|with_reducible refine cdW_dec (fun _=>?_) (fun _=>?_)|refine cdW_not (fun _=>?_) (fun _=>?_)|refine cdW_any (fun _=>?_) (fun _=>?_)|with_reducible refine gdW_decT (fun _=>?_) (fun _=>?_)|with_reducible refine gdW_decF (fun _=>?_) (fun _=>?_)|refine gdW_not (fun _=>?_) (fun _=>?_)|refine gdW_any (fun _=>?_) (fun _=>?_)|simp only [go_sem,bne,iQ,iB,iX,Int.reduceLE,iN,iA,iS,iM, *]|rfl)
theorem field_pc {c:Int} {j:Nat} (h:c=111∧j=1∨c=100∧j=2∨c=115∧j=3∨c=105∧j=4∨c=116∧j=5):PCt prog F_impl_pStep_field (.int .u8 c) j:=by
 refine ⟨by kernel_rfl,?_⟩
 intro X w a v hv
 simp only [TV] at hv
 obtain ⟨rfl,_⟩:=hv
 rcases h with ⟨rfl,rfl⟩|⟨rfl,rfl⟩|⟨rfl,rfl⟩|⟨rfl,rfl⟩|⟨rfl,rfl⟩ <;>
 · go_enter Go.Proofs.Try.func62,Go.Proofs.Try.ntmps62
   go_wp2
   go_ret
   exact ⟨rfl,rfl⟩
def getF (s:StepD) (c:UInt8):Int:=if c=111 then s.op else if c=100 then s.dst else if c=115 then s.src else if c=105 then s.imm else s.to
def clrF (s:StepD) (c:UInt8):StepD:=if c=111 then { s with op:=0 } else if c=100 then { s with dst:=0 } else if c=115 then { s with src:=0 } else if c=105 then { s with imm:=0 } else { s with to:=0 }
def okF (s:StepD) (c:UInt8):Bool:=inB (getF s c) (rgF s.kind c.toNat).1 (rgF s.kind c.toNat).2
def restF (s:StepD) (l:List UInt8):StepD:=l.foldl clrF { s with kind:=0 }
def validB (s:StepD):Bool:=(fldL s.kind).all (okF s)&&(inB s.kind 1 11&&(restF s (fldL s.kind) == ⟨0,0,0,0,0,0⟩))
theorem fldL_len (k:Int):(fldL k).length≤3:=by
 unfold fldL;repeat' (split<;>try decide)
theorem fldL_mem {k:Int} {c:UInt8} (h:c∈fldL k):c=111∨c=100∨c=115∨c=105∨c=116:=by
 have:(fldL k).all (fun c=>c == 111||c == 100||c == 115||c == 105||c == 116)=true:=by
  unfold fldL;repeat' split
  all_goals rfl
 have:=List.all_eq_true.1 this c h
 simp only [Bool.or_eq_true,beq_iff_eq] at this
 rcases this with (((h|h)|h)|h)|h<;>simp [h]
theorem valid_not {s:StepD} {i:Nat} (h:i < (fldL s.kind).length) (h2:okF s (fldL s.kind)[i]=false):validB s=false:=by
 unfold validB;rw [not_all h h2];rfl
theorem rest_step {s:StepD} {l:List UInt8} {i:Nat} (h:i < l.length):restF s (l.take (i+1))=clrF (restF s (l.take i)) l[i]:=by
 unfold restF;rw [take_succ' h,List.foldl_append];rfl
theorem impl_Step_valid.fc (s:StepD):FCt prog F_impl_Step_valid [.ro] [s.d] (Bb (validB s)) []:=by
 refine fct_run impl_Step_valid.ok rfl ?_
 simp only [go_sem]
 refine fcW_str (impl_fields.fc s.kind) ?_
 have hln:=fldL_len s.kind
 have hsz:(strL (fldL s.kind)).size=(fldL s.kind).length:=rfl
 simp only [go_sem,hsz]
 refine R_loop (α:=Nat) (fun i s' M'=>i≤(fldL s.kind).length∧s' 14=aI i∧((fldL s.kind).take i).all (okF s)=true∧M'.m 64=some (.box 0 (.dat none s.d)) ∧
  ∃ r,restF s ((fldL s.kind).take i)=r∧M'.m 256=some (.box 192 (.agg [aI r.kind,aI r.op,aI r.dst,aI r.src,aI r.imm,aI r.to]))) (fun i=>(fldL s.kind).length - i) 0
  ⟨by omega,by simp only [go_sem];rfl,by simp,by simp only [go_sem],{ s with kind:=0 },by simp [restF],by simp only [go_sem]⟩ ?_
 rintro i s' M' ⟨hi,h14,hall,m1,r,hr,m2⟩ ho
 unfold impl_Step_valid.b0
 have k1:s' 1=.ptr 64 0 0 none:=by rw [ho 1 rfl];simp only [go_sem]
 have k3:s' 3=.ptr 256 192 0 none:=by rw [ho 3 rfl];simp only [go_sem]
 have k13:s' 13=aI (fldL s.kind).length:=by rw [ho 13 rfl];simp only [go_sem]
 clear ho
 by_cases hlt:i < (fldL s.kind).length
 · have hi':(i:Int) < (fldL s.kind).length:=by omega
   have hw:IntKind.i64.wrap (i+1)=((i+1:Nat):Int):=by rw [wrap_in (by omega) (by omega)];omega
   have hbd:0≤(i:Int)∧(i:Int) < (strL (fldL s.kind)).size:=⟨by omega,by rw [hsz];omega⟩
   have hgt:∀ h,(strL (fldL s.kind))[i]'h=(fldL s.kind)[i]:=fun _=>rfl
   have hmem:=fldL_mem (List.getElem_mem hlt)
   have hnot:=valid_not hlt
   have hst:=rest_step (s:=s) hlt
   rw [hr] at hst
   have hall':okF s (fldL s.kind)[i]=true→((fldL s.kind).take (i+1)).all (okF s)=true:=fun h=>all_take hlt hall h
   simp only [go_sem,hi',k1,k3,k13,h14,m1,m2]
   refine fcW_str (impl_fields.fc s.kind) ?_
   simp only [go_sem,hbd,hgt,↓reduceDIte,k1,k3,k13,h14,m1,m2]
   generalize (fldL s.kind)[i]=c at hmem hnot hst hall' ⊢
   refine fcW_bd (impl_Step_ranges.fc s c.toNat) rfl ?_
   simp only [go_sem,k1,k3,k13,h14,m1,m2]
   unfold okF at hnot hall'
   rcases hmem with rfl|rfl|rfl|rfl|rfl
   · refine fcF_of (field_pc (j:=1) (.inl ⟨rfl,rfl⟩)) ?_
     simp only [go_sem,k1,k3,k13,h14,m1,m2]
     refine fcW_bool (impl_in.fc _ _ _) ?_
     cases hc:inB s.op (rgF s.kind (UInt8.toNat 111)).1 (rgF s.kind (UInt8.toNat 111)).2 with
     | false=>simp only [go_sem,hnot hc,k1,k3,k13,h14,m1,m2]
     | true =>
      simp only [go_sem,k1,k3,k13,h14,m1,m2]
      refine fcF_of (field_pc (j:=1) (.inl ⟨rfl,rfl⟩)) ?_
      simp only [go_sem,hw,k1,k3,k13,h14,m1,m2]
      exact ⟨i+1,by dsimp only;omega,by omega,by simp only [go_sem,k1,k3,k13,h14,m1,m2],hall' hc,by simp only [go_sem,k1,k3,k13,h14,m1,m2],_,hst,by simp only [go_sem,k1,k3,k13,h14,m1,m2];rfl⟩
   · refine fcF_of (field_pc (j:=2) (.inr (.inl ⟨rfl,rfl⟩))) ?_
     simp only [go_sem,k1,k3,k13,h14,m1,m2]
     refine fcW_bool (impl_in.fc _ _ _) ?_
     cases hc:inB s.dst (rgF s.kind (UInt8.toNat 100)).1 (rgF s.kind (UInt8.toNat 100)).2 with
     | false=>simp only [go_sem,hnot hc,k1,k3,k13,h14,m1,m2]
     | true =>
      simp only [go_sem,k1,k3,k13,h14,m1,m2]
      refine fcF_of (field_pc (j:=2) (.inr (.inl ⟨rfl,rfl⟩))) ?_
      simp only [go_sem,hw,k1,k3,k13,h14,m1,m2]
      exact ⟨i+1,by dsimp only;omega,by omega,by simp only [go_sem,k1,k3,k13,h14,m1,m2],hall' hc,by simp only [go_sem,k1,k3,k13,h14,m1,m2],_,hst,by simp only [go_sem,k1,k3,k13,h14,m1,m2];rfl⟩
   · refine fcF_of (field_pc (j:=3) (.inr (.inr (.inl ⟨rfl,rfl⟩)))) ?_
     simp only [go_sem,k1,k3,k13,h14,m1,m2]
     refine fcW_bool (impl_in.fc _ _ _) ?_
     cases hc:inB s.src (rgF s.kind (UInt8.toNat 115)).1 (rgF s.kind (UInt8.toNat 115)).2 with
     | false=>simp only [go_sem,hnot hc,k1,k3,k13,h14,m1,m2]
     | true =>
      simp only [go_sem,k1,k3,k13,h14,m1,m2]
      refine fcF_of (field_pc (j:=3) (.inr (.inr (.inl ⟨rfl,rfl⟩)))) ?_
      simp only [go_sem,hw,k1,k3,k13,h14,m1,m2]
      exact ⟨i+1,by dsimp only;omega,by omega,by simp only [go_sem,k1,k3,k13,h14,m1,m2],hall' hc,by simp only [go_sem,k1,k3,k13,h14,m1,m2],_,hst,by simp only [go_sem,k1,k3,k13,h14,m1,m2];rfl⟩
   · refine fcF_of (field_pc (j:=4) (.inr (.inr (.inr (.inl ⟨rfl,rfl⟩))))) ?_
     simp only [go_sem,k1,k3,k13,h14,m1,m2]
     refine fcW_bool (impl_in.fc _ _ _) ?_
     cases hc:inB s.imm (rgF s.kind (UInt8.toNat 105)).1 (rgF s.kind (UInt8.toNat 105)).2 with
     | false=>simp only [go_sem,hnot hc,k1,k3,k13,h14,m1,m2]
     | true =>
      simp only [go_sem,k1,k3,k13,h14,m1,m2]
      refine fcF_of (field_pc (j:=4) (.inr (.inr (.inr (.inl ⟨rfl,rfl⟩))))) ?_
      simp only [go_sem,hw,k1,k3,k13,h14,m1,m2]
      exact ⟨i+1,by dsimp only;omega,by omega,by simp only [go_sem,k1,k3,k13,h14,m1,m2],hall' hc,by simp only [go_sem,k1,k3,k13,h14,m1,m2],_,hst,by simp only [go_sem,k1,k3,k13,h14,m1,m2];rfl⟩
   · refine fcF_of (field_pc (j:=5) (.inr (.inr (.inr (.inr ⟨rfl,rfl⟩))))) ?_
     simp only [go_sem,k1,k3,k13,h14,m1,m2]
     refine fcW_bool (impl_in.fc _ _ _) ?_
     cases hc:inB s.to (rgF s.kind (UInt8.toNat 116)).1 (rgF s.kind (UInt8.toNat 116)).2 with
     | false=>simp only [go_sem,hnot hc,k1,k3,k13,h14,m1,m2]
     | true =>
      simp only [go_sem,k1,k3,k13,h14,m1,m2]
      refine fcF_of (field_pc (j:=5) (.inr (.inr (.inr (.inr ⟨rfl,rfl⟩))))) ?_
      simp only [go_sem,hw,k1,k3,k13,h14,m1,m2]
      exact ⟨i+1,by dsimp only;omega,by omega,by simp only [go_sem,k1,k3,k13,h14,m1,m2],hall' hc,by simp only [go_sem,k1,k3,k13,h14,m1,m2],_,hst,by simp only [go_sem,k1,k3,k13,h14,m1,m2];rfl⟩
 obtain rfl:i=(fldL s.kind).length:=by omega
 rw [List.take_length] at hall hr
 simp only [go_sem,Int.lt_irrefl,k1,k3,k13,h14,m1,m2]
 refine fcW_bool (impl_in.fc _ _ _) ?_
 have hv:validB s=(inB s.kind 1 11&&(r == ⟨0,0,0,0,0,0⟩)):=by unfold validB;rw [hall,hr,Bool.true_and]
 cases hc:inB s.kind 1 11 with
 | false=>simp only [go_sem,hv,hc,k1,k3,k13,h14,m1,m2]
 | true =>
  rw [hc,Bool.true_and] at hv
  have hz:(r == ⟨0,0,0,0,0,0⟩)=(r.kind == 0&&(r.op == 0&&(r.dst == 0&&(r.src == 0&&(r.imm == 0&&r.to == 0))))):=by
   obtain ⟨a,b,c,d,e,f⟩:=r
   rw [Bool.eq_iff_iff]
   simp only [beq_iff_eq,StepD.mk.injEq,Bool.and_eq_true]
  simp only [go_sem,hv,hz,Bool.bne_false,k1,k3,k13,h14,m1,m2]
theorem valid_kind {s:StepD} (h:validB s=true∨stepB s=true):s.kind=1∨s.kind=2∨s.kind=3∨s.kind=4∨s.kind=5∨s.kind=6∨s.kind=7∨s.kind=8∨s.kind=9∨s.kind=10∨s.kind=11:=by
 by_cases hk:1≤s.kind∧s.kind≤11
 · omega
 · exfalso
   have e:∀ j:Int,1≤j∧j≤11→(s.kind == j)=false:=fun j hj=>by rw [beq_eq_false_iff_ne];omega
   rcases h with h|h
   · unfold validB at h
     simp only [Bool.and_eq_true,inB,decide_eq_true_eq] at h
     omega
   · unfold stepB at h
     simp only [e 1 (by omega),e 2 (by omega),e 3 (by omega),e 4 (by omega),e 5 (by omega),e 6 (by omega),e 7 (by omega),e 8 (by omega),e 9 (by omega),e 10 (by omega),e 11 (by omega)] at h
     simp at h
theorem valid_step (s:StepD):validB s=stepB s:=by
 by_cases h:validB s=true∨stepB s=true
 · obtain ⟨k,o,d,r,m,t⟩:=s
   rcases valid_kind h with rfl|rfl|rfl|rfl|rfl|rfl|rfl|rfl|rfl|rfl|rfl <;>
   · rw [Bool.eq_iff_iff]
     simp [validB,stepB,fldL,okF,getF,rgF,restF,clrF,zeroB,inB]
     try omega
 · cases h1:validB s<;>cases h2:stepB s<;>simp_all
def jumpB (s:StepD):Bool:=s.kind == 8||(s.kind == 9||s.kind == 10)
theorem impl_Step_jumps.fc (s:StepD):FCt prog F_impl_Step_jumps [.ro] [s.d] (Bb (jumpB s)) []:=by
 refine fct_run impl_Step_jumps.ok rfl ?_
 unfold jumpB
 repeat' (first|with_reducible rfl|with_reducible refine cdW_dec (fun _=>?_) (fun _=>?_)|refine cdW_not (fun _=>?_) (fun _=>?_)|refine cdW_any (fun _=>?_) (fun _=>?_)|with_reducible refine gdW_decT (fun _=>?_) (fun _=>?_)|with_reducible refine gdW_decF (fun _=>?_) (fun _=>?_)|refine gdW_not (fun _=>?_) (fun _=>?_)|refine gdW_any (fun _=>?_) (fun _=>?_)|simp only [go_sem,bne,iQ,iB,iX,Int.reduceLE,iN,iA,iS,iM, *]|rfl)
structure StepOk (s:StepD):Prop where
 kind:1≤s.kind∧s.kind≤11
 dst:0≤s.dst∧s.dst≤5
 src:0≤s.src∧s.src≤5
 imm:0≤s.imm∧s.imm≤65535
 op:0≤s.op∧s.op≤10
 to:0≤s.to∧s.to≤19
 jmp:s.to > 0↔s.kind=8∨s.kind=9∨s.kind=10
 iop:s.kind=1∨s.kind=2→1≤s.op
theorem step_ok {s:StepD} (h:stepB s=true):StepOk s:=by
 obtain ⟨k,o,d,r,m,t⟩:=s
 rcases valid_kind (.inr h) with rfl|rfl|rfl|rfl|rfl|rfl|rfl|rfl|rfl|rfl|rfl <;>
 · simp [stepB,zeroB,inB] at h
   constructor<;>dsimp only<;>omega
theorem jump_to {s:StepD} (h:stepB s=true):jumpB s=decide (s.to > 0):=by
 have:=(step_ok h).jmp
 rw [Bool.eq_iff_iff,decide_eq_true_eq,this]
 simp [jumpB]
def okAt (p:List StepD) (i:Nat):Bool:=match p[i]? with
 | some s=>stepB s&&!(decide (s.to > 0)&&decide ((i:Int)+s.to+1 ≥ p.length))
 | none=>false
def lastK (p:List StepD):Int:=match p[p.length - 1]? with
 | some s=>s.kind
 | none=>0
def goodP (p:List StepD):Bool:=inB p.length 1 20&&(lastK p == 11)&&(List.range p.length).all (okAt p)
theorem goodP_not {p:List StepD} {i:Nat} (hi:i < p.length) (h:okAt p i=false):goodP p=false:=by
 unfold goodP;rw [not_range hi h,Bool.and_false]
theorem impl_GoodProgram.fc (p:List StepD) (hp:p.length≤4194304):FCt prog F_impl_GoodProgram [.ro] [steps p] (Bb (goodP p)) []:=by
 refine fct_run impl_GoodProgram.ok rfl ?_
 simp only [go_sem]
 refine fcW_bool (impl_in.fc _ _ _) ?_
 cases h1:inB p.length 1 20 with
 | false =>
  have:goodP p=false:=by unfold goodP;rw [h1];rfl
  simp only [go_sem,this]
 | true =>
  have hl:1≤p.length∧p.length≤20:=by simp [inB] at h1;omega
  have w1:IntKind.i64.wrap ((p.length:Int) - 1)=((p.length - 1:Nat):Int):=by rw [wrap_in (by omega) (by omega)];omega
  have g1:p[p.length - 1]? = some (p[p.length - 1]'(by omega)):=List.getElem?_eq_getElem (by omega)
  have b1:((p.length - 1:Nat):Int) < p.length:=by omega
  have hk:lastK p=(p[p.length - 1]'(by omega)).kind:=by unfold lastK;rw [g1]
  simp only [go_sem,w1,g1,b1]
  cases h2:((p[p.length - 1]'(by omega)).kind == 11) with
  | false =>
   have:goodP p=false:=by unfold goodP;rw [hk,h2,Bool.and_false];rfl
   have h3:((p[p.length - 1]'(by omega)).kind != 11)=true:=by rw [bne,h2];rfl
   simp only [go_sem,this,h3]
  | true =>
   have h3:((p[p.length - 1]'(by omega)).kind != 11)=false:=by rw [bne,h2];rfl
   simp only [go_sem,h3]
   refine R_loop (α:=Nat) (fun i s' M'=>i≤p.length∧s' 21=aI i∧(List.range i).all (okAt p)=true) (fun i=>p.length - i) 0 ⟨by omega,by simp only [go_sem];rfl,by simp⟩ ?_
   rintro i s' M' ⟨hi,h21,hr⟩ ho
   unfold impl_GoodProgram.b0
   have k0:s' 0=.dat none (steps p):=by rw [ho 0 rfl];simp only [go_sem]
   have k19:s' 19=.dat none (steps p):=by rw [ho 19 rfl];simp only [go_sem]
   have k20:s' 20=aI p.length:=by rw [ho 20 rfl];simp only [go_sem]
   clear ho
   by_cases hlt:i < p.length
   · have hi':(i:Int) < p.length:=by omega
     have ga:p[i]? = some p[i]:=List.getElem?_eq_getElem hlt
     have hw:IntKind.i64.wrap (i+1)=((i+1:Nat):Int):=wrap_k hlt (by omega)
     have bad:=goodP_not hlt
     have oka:okAt p i=(stepB p[i]&&!(decide (p[i].to > 0)&&decide ((i:Int)+p[i].to+1 ≥ p.length))):=by unfold okAt;rw [ga]
     simp only [go_sem,hi',ga,k0,k19,k20,h21]
     refine fcW_bool (impl_Step_valid.fc p[i]) ?_
     rw [valid_step]
     cases hv:stepB p[i] with
     | false =>
      have hb:=bad (by rw [oka,hv,Bool.false_and])
      simp only [go_sem,hb,k0,k19,k20,h21]
     | true =>
      have ok:=step_ok hv
      rw [hv,Bool.true_and] at oka
      simp only [go_sem,k0,k19,k20,h21]
      refine fcW_bool (impl_Step_jumps.fc p[i]) ?_
      rw [jump_to hv]
      have w2:IntKind.i64.wrap ((i:Int)+p[i].to)=(i:Int)+p[i].to:=by have:=ok.to;exact wrap_in (by omega) (by omega)
      have w3:IntKind.i64.wrap ((i:Int)+p[i].to+1)=(i:Int)+p[i].to+1:=by have:=ok.to;exact wrap_in (by omega) (by omega)
      by_cases hj:p[i].to > 0
      · by_cases he:(i:Int)+p[i].to+1 ≥ p.length
        · have hb:=bad (by rw [oka,decide_eq_true hj,decide_eq_true he];rfl)
          simp only [go_sem,hj,he,w2,w3,hb,k0,k19,k20,h21]
        · simp only [go_sem,hj,he,w2,w3,hw,k0,k19,k20,h21]
          exact ⟨i+1,by dsimp only;omega,by omega,by simp only [go_sem,k0,k19,k20,h21],all_range hr (by rw [oka,decide_eq_false he,Bool.and_false];rfl)⟩
      · simp only [go_sem,hj,hw,k0,k19,k20,h21]
        exact ⟨i+1,by dsimp only;omega,by omega,by simp only [go_sem,k0,k19,k20,h21],all_range hr (by rw [oka,decide_eq_false hj,Bool.false_and];rfl)⟩
   · have hi':¬ (i:Int) < p.length:=by omega
     obtain rfl:i=p.length:=by omega
     have:goodP p=true:=by unfold goodP;rw [h1,hk,h2,hr];rfl
     simp only [go_sem,this,Int.lt_irrefl,k0,k19,k20,h21]
theorem spec_GoodProgram.fc (p:List StepD) (hp:p.length≤4194304):FCt prog F_spec_GoodProgram [.ro] [steps p] (Bb (goodP p)) []:=by
 refine fct_run spec_GoodProgram.ok rfl ?_
 simp only [go_sem]
 refine R_loop (α:=Nat) (fun i s' M'=>i≤p.length∧s' 7=aI i∧(List.range i).all (okAt p)=true) (fun i=>p.length - i) 0 ⟨by omega,by simp only [go_sem];rfl,by simp⟩ ?_
 rintro i s' M' ⟨hi,h21,hr⟩ ho
 unfold spec_GoodProgram.b0
 have k0:s' 0=.dat none (steps p):=by rw [ho 0 rfl];simp only [go_sem]
 have k5:s' 5=.dat none (steps p):=by rw [ho 5 rfl];simp only [go_sem]
 have k6:s' 6=aI p.length:=by rw [ho 6 rfl];simp only [go_sem]
 clear ho
 by_cases hlt:i < p.length
 · have hi':(i:Int) < p.length:=by omega
   have ga:p[i]? = some p[i]:=List.getElem?_eq_getElem hlt
   have hw:IntKind.i64.wrap (i+1)=((i+1:Nat):Int):=wrap_k hlt (by omega)
   have bad:=goodP_not hlt
   have oka:okAt p i=(stepB p[i]&&!(decide (p[i].to > 0)&&decide ((i:Int)+p[i].to+1 ≥ p.length))):=by unfold okAt;rw [ga]
   simp only [go_sem,hi',ga,k0,k5,k6,h21]
   refine fcW_bool (spec_l2Step.fc p[i]) ?_
   cases hv:stepB p[i] with
   | false =>
    have hb:=bad (by rw [oka,hv,Bool.false_and])
    simp only [go_sem,hb,k0,k5,k6,h21]
   | true =>
    have ok:=step_ok hv
    rw [hv,Bool.true_and] at oka
    have w2:IntKind.i64.wrap ((i:Int)+p[i].to)=(i:Int)+p[i].to:=by have:=ok.to;exact wrap_in (by omega) (by omega)
    have w3:IntKind.i64.wrap ((i:Int)+p[i].to+1)=(i:Int)+p[i].to+1:=by have:=ok.to;exact wrap_in (by omega) (by omega)
    by_cases hj:p[i].to > 0
    · by_cases he:(i:Int)+p[i].to+1 ≥ p.length
      · have hb:=bad (by rw [oka,decide_eq_true hj,decide_eq_true he];rfl)
        simp only [go_sem,hj,he,w2,w3,hb,k0,k5,k6,h21]
      · simp only [go_sem,hj,he,w2,w3,hw,k0,k5,k6,h21]
        exact ⟨i+1,by dsimp only;omega,by omega,by simp only [go_sem,k0,k5,k6,h21],all_range hr (by rw [oka,decide_eq_false he,Bool.and_false];rfl)⟩
    · simp only [go_sem,hj,hw,k0,k5,k6,h21]
      exact ⟨i+1,by dsimp only;omega,by omega,by simp only [go_sem,k0,k5,k6,h21],all_range hr (by rw [oka,decide_eq_false hj,Bool.false_and];rfl)⟩
 · have hi':¬ (i:Int) < p.length:=by omega
   obtain rfl:i=p.length:=by omega
   simp only [go_sem,Int.lt_irrefl,k0,k5,k6,h21]
   refine fcW_bool (spec_l1In.fc _ _ _) ?_
   cases h1:inB p.length 1 20 with
   | false =>
    have:goodP p=false:=by unfold goodP;rw [h1];rfl
    simp only [go_sem,this,k0,k5,k6,h21]
   | true =>
    have hl:1≤p.length∧p.length≤20:=by simp [inB] at h1;omega
    have w1:IntKind.i64.wrap ((p.length:Int) - 1)=((p.length - 1:Nat):Int):=by rw [wrap_in (by omega) (by omega)];omega
    have g1:p[p.length - 1]? = some (p[p.length - 1]'(by omega)):=List.getElem?_eq_getElem (by omega)
    have b1:((p.length - 1:Nat):Int) < p.length:=by omega
    have hk:lastK p=(p[p.length - 1]'(by omega)).kind:=by unfold lastK;rw [g1]
    have:goodP p=((p[p.length - 1]'(by omega)).kind == 11):=by unfold goodP;rw [h1,hk,hr,Bool.and_true,Bool.true_and]
    simp only [go_sem,w1,g1,b1,this,k0,k5,k6,h21]
set_option maxHeartbeats 16000000
def isB (n:Int):Bool:=inB n 0 255
def ctxB (l:List Int):Bool:=decide (l.length=8)&&l.all isB
structure CtxOk (l:List Int):Prop where
 len:l.length=8
 all:∀ x∈l,0≤x∧x≤255
theorem ctx_ok {l:List Int} (h:ctxB l=true):CtxOk l:=by
 simp only [ctxB,Bool.and_eq_true,decide_eq_true_eq,List.all_eq_true,isB,inB] at h
 exact ⟨h.1,h.2⟩
theorem impl_isContext_c1.fc (n:Int):FCt prog F_impl_isContext_c1 [.ro] [Ii n] (Bb (!isB n)) []:=by
 refine fct_run impl_isContext_c1.ok rfl ?_
 unfold isB
 repeat' (first|with_reducible rfl|refine fcW_bool (impl_in.fc ..) ?_|with_reducible refine cdW_dec (fun _=>?_) (fun _=>?_)|refine cdW_not (fun _=>?_) (fun _=>?_)|refine cdW_any (fun _=>?_) (fun _=>?_)|with_reducible refine gdW_decT (fun _=>?_) (fun _=>?_)|with_reducible refine gdW_decF (fun _=>?_) (fun _=>?_)|refine gdW_not (fun _=>?_) (fun _=>?_)|refine gdW_any (fun _=>?_) (fun _=>?_)|simp only [go_sem,bne,iQ,iB,iX,Int.reduceLE,iN,iA,iS,iM, *]|rfl)
theorem impl_isContext.fc (l:List Int) (hl:l.length≤4294967296):FCt prog F_impl_isContext [.ro] [ints l] (Bb (ctxB l)) []:=by
 refine fct_run impl_isContext.ok rfl ?_
 have e1:((l.length:Int) == 8)=decide (l.length=8):=eq_dec (b:=8)
 have e2:l.any (fun n=>!isB n) = !l.all isB:=by rw [List.not_all_eq_any_not]
 unfold ctxB
 by_cases h:l.length=8
 · rw [decide_eq_true h] at e1 ⊢
   simp only [go_sem,e1]
   refine fcW_bool (slices_ContainsFunc__sint_int.fc l F_impl_isContext_c1 [] (fun n=>!isB n) hl (fun n _=>impl_isContext_c1.fc n)) ?_
   simp only [go_sem,e2,Bool.not_not]
 · rw [decide_eq_false h] at e1 ⊢
   simp only [go_sem,e1]
theorem spec_l3Ctx.fc (l:List Int) (hl:l.length≤4294967296):FCt prog F_spec_l3Ctx [.ro] [ints l] (Bb (ctxB l)) []:=by
 refine fct_run spec_l3Ctx.ok rfl ?_
 have e1:((l.length:Int) == 8)=decide (l.length=8):=eq_dec (b:=8)
 unfold ctxB
 by_cases h:l.length=8
 · rw [decide_eq_true h] at e1 ⊢
   simp only [go_sem,e1]
   refine fcW_bool (spec_l1All.fc l 0 255 hl) ?_
   simp only [go_sem]
   rfl
 · rw [decide_eq_false h] at e1 ⊢
   simp only [go_sem,e1]
structure MachLen (m:MachD):Prop where
 regs:m.regs.length=6
 cells:m.cells.length=16
 isset:m.isset.length=16
theorem MachOk.len {m:MachD} (h:MachOk m):MachLen m:=⟨h.regs,h.cells,h.isset⟩
def regI (m:MachD) (i:Int):Int:=m.regs.getD i.toNat 0
def setR (m:MachD) (i n:Int):MachD:={ m with pc:=m.pc+1,regs:=m.regs.set i.toNat n }
def setC (m:MachD) (i n:Int):MachD:={ m with pc:=m.pc+1,cells:=m.cells.set i.toNat n,isset:=m.isset.set i.toNat true }
def setP (m:MachD) (n:Int):MachD:={ m with pc:=n }
def stepM (s:StepD) (ctx:List Int) (m:MachD):MachD×Int×Bool :=
 if s.kind == 1 then (setR m s.dst (doI s.op (regI m s.dst) (regI m s.src)),0,false) else
 if s.kind == 2 then (setR m s.dst (doI s.op (regI m s.dst) s.imm),0,false) else
 if s.kind == 3 then (setR m s.dst s.imm,0,false) else
 if s.kind == 4 then (setR m s.dst s.imm,0,false) else
 if s.kind == 5 then (if regI m s.src+s.imm ≥ 8 then (m,1,false) else (setR m s.dst (ctx.getD (regI m s.src+s.imm).toNat 0),0,false)) else
 if s.kind == 7 then (if s.imm ≥ 16 then (m,2,false) else (setC m s.imm (regI m s.dst),0,false)) else
 if s.kind == 6 then (if s.imm ≥ 16 then (m,2,false) else if m.isset.getD s.imm.toNat false then (setR m s.dst (m.cells.getD s.imm.toNat 0),0,false) else (m,3,false)) else
 if s.kind == 11 then (m,0,true) else
 if s.kind == 8 then (setP m (m.pc+s.to+1),0,false) else
 if s.kind == 9 then (if regI m s.dst == regI m s.src then (setP m (m.pc+s.to+1),0,false) else (setP m (m.pc+1),0,false)) else
 (if regI m s.dst < regI m s.src then (setP m (m.pc+s.to+1),0,false) else (setP m (m.pc+1),0,false))
theorem setIi {l:List Int} {i:Nat} {x:Int}:(l.map Ii).set i (D.int .i64 x)=(l.set i x).map Ii:=by rw [List.map_set]
theorem setBb {l:List Bool} {i:Nat} {x:Bool}:(l.map Bb).set i (D.bool x)=(l.set i x).map Bb:=by rw [List.map_set]
theorem getD_some {α:Type} {l:List α} {i:Nat} {d:α} (h:i < l.length):l[i]? = some (l.getD i d):=by rw [getD_get h];exact List.getElem?_eq_getElem h
theorem tk_I {n:Nat} {l:List Int} (h:l.length=n):(l.map Ii).take n=l.map Ii:=List.take_of_length_le (by simp [h])
theorem tk_B {n:Nat} {l:List Bool} (h:l.length=n):(l.map Bb).take n=l.map Bb:=List.take_of_length_le (by simp [h])
theorem impl_pMachine_step.fc (p:List StepD) (ctx:List Int) (m:MachD) (s:StepD) (hp:p.length≤20) (hc:CtxOk ctx) (hm:MachOk m) (hpc:m.pc < p.length) (hs:p[m.pc.toNat]? = some s) (hv:stepB s=true) :
 FCt prog F_impl_pMachine_step [.io,.ro,.ro] [.ptr m.d,steps p,ints ctx] (.tup [Ii (stepM s ctx m).2.1,Bb (stepM s ctx m).2.2]) [.ptr (stepM s ctx m).1.d]:=by
 refine fct_run impl_pMachine_step.ok rfl ?_
 have ok:=step_ok hv
 have kd:=valid_kind (.inr hv)
 obtain ⟨⟨pc0,pc1⟩,l1,l2,l3,wr,wc⟩:=hm
 obtain ⟨cl,ca⟩:=hc
 obtain ⟨pc,regs,cells,isset⟩:=m
 obtain ⟨k,op,dst,src,imm,to⟩:=s
 obtain ⟨_,od,os,oi,oo,ot,_,_⟩:=ok
 dsimp only at *
 have gd:regs[dst.toNat]? = some (regI ⟨pc,regs,cells,isset⟩ dst):=getD_some (by omega)
 have gs:regs[src.toNat]? = some (regI ⟨pc,regs,cells,isset⟩ src):=getD_some (by omega)
 have ws:0≤regI ⟨pc,regs,cells,isset⟩ src∧regI ⟨pc,regs,cells,isset⟩ src≤65535:=wr _ (List.mem_of_getElem? gs)
 have w1:IntKind.i64.wrap (pc+1)=pc+1:=wrap_in (by omega) (by omega)
 have w2:IntKind.i64.wrap (pc+1+to)=pc+to+1:=by rw [wrap_in (by omega) (by omega)];omega
 have w3:IntKind.i64.wrap (regI ⟨pc,regs,cells,isset⟩ src+imm)=regI ⟨pc,regs,cells,isset⟩ src+imm:=wrap_in (by omega) (by omega)
 have od1:=od.1
 have od2:dst < 6:=by omega
 have os1:=os.1
 have os2:src < 6:=by omega
 have c6:((6:Nat):Int)=6:=rfl
 have c8:((8:Nat):Int)=8:=rfl
 have c16:((16:Nat):Int)=16:=rfl
 have i0:0≤imm:=oi.1
 have r0:0≤regI ⟨pc,regs,cells,isset⟩ src+imm:=by omega
 have h5:¬ regI ⟨pc,regs,cells,isset⟩ src+imm ≥ 8→ctx[(regI ⟨pc,regs,cells,isset⟩ src+imm).toNat]? = some (ctx.getD (regI ⟨pc,regs,cells,isset⟩ src+imm).toNat 0):=fun h=>getD_some (by omega)
 have h6:¬ imm ≥ 16→cells[imm.toNat]? = some (cells.getD imm.toNat 0):=fun h=>getD_some (by omega)
 have h7:¬ imm ≥ 16→isset[imm.toNat]? = some (isset.getD imm.toNat false):=fun h=>getD_some (by omega)
 have b5:¬ regI ⟨pc,regs,cells,isset⟩ src+imm ≥ 8→regI ⟨pc,regs,cells,isset⟩ src+imm < 8:=fun h=>by omega
 have b6:¬ imm ≥ 16→imm < 16:=fun h=>by omega
 unfold stepM setR setC setP
 rcases kd with rfl|rfl|rfl|rfl|rfl|rfl|rfl|rfl|rfl|rfl|rfl
 · clear h5 h6 h7 b5 b6
   repeat' (first|with_reducible rfl|refine fcW_int (impl_do.fc _ _ _ ws.1) ?_|refine fcW_int (impl_do.fc _ _ _ i0) ?_|with_reducible refine cdW_dec (fun _=>?_) (fun _=>?_)|refine cdW_not (fun _=>?_) (fun _=>?_)|refine cdW_any (fun _=>?_) (fun _=>?_)|with_reducible refine gdW_decT (fun _=>?_) (fun _=>?_)|with_reducible refine gdW_decF (fun _=>?_) (fun _=>?_)|refine gdW_not (fun _=>?_) (fun _=>?_)|refine gdW_any (fun _=>?_) (fun _=>?_)|simp only [go_sem,bne,iQ,iB,iX,Int.reduceLE,iN,iA,iS,iM,setIi,setBb,tk_I,tk_B,List.length_set, *]|rfl)
 · clear h5 h6 h7 b5 b6
   repeat' (first|with_reducible rfl|refine fcW_int (impl_do.fc _ _ _ ws.1) ?_|refine fcW_int (impl_do.fc _ _ _ i0) ?_|with_reducible refine cdW_dec (fun _=>?_) (fun _=>?_)|refine cdW_not (fun _=>?_) (fun _=>?_)|refine cdW_any (fun _=>?_) (fun _=>?_)|with_reducible refine gdW_decT (fun _=>?_) (fun _=>?_)|with_reducible refine gdW_decF (fun _=>?_) (fun _=>?_)|refine gdW_not (fun _=>?_) (fun _=>?_)|refine gdW_any (fun _=>?_) (fun _=>?_)|simp only [go_sem,bne,iQ,iB,iX,Int.reduceLE,iN,iA,iS,iM,setIi,setBb,tk_I,tk_B,List.length_set, *]|rfl)
 · clear h5 h6 h7 b5 b6
   repeat' (first|with_reducible rfl|refine fcW_int (impl_do.fc _ _ _ ws.1) ?_|refine fcW_int (impl_do.fc _ _ _ i0) ?_|with_reducible refine cdW_dec (fun _=>?_) (fun _=>?_)|refine cdW_not (fun _=>?_) (fun _=>?_)|refine cdW_any (fun _=>?_) (fun _=>?_)|with_reducible refine gdW_decT (fun _=>?_) (fun _=>?_)|with_reducible refine gdW_decF (fun _=>?_) (fun _=>?_)|refine gdW_not (fun _=>?_) (fun _=>?_)|refine gdW_any (fun _=>?_) (fun _=>?_)|simp only [go_sem,bne,iQ,iB,iX,Int.reduceLE,iN,iA,iS,iM,setIi,setBb,tk_I,tk_B,List.length_set, *]|rfl)
 · clear h5 h6 h7 b5 b6
   repeat' (first|with_reducible rfl|refine fcW_int (impl_do.fc _ _ _ ws.1) ?_|refine fcW_int (impl_do.fc _ _ _ i0) ?_|with_reducible refine cdW_dec (fun _=>?_) (fun _=>?_)|refine cdW_not (fun _=>?_) (fun _=>?_)|refine cdW_any (fun _=>?_) (fun _=>?_)|with_reducible refine gdW_decT (fun _=>?_) (fun _=>?_)|with_reducible refine gdW_decF (fun _=>?_) (fun _=>?_)|refine gdW_not (fun _=>?_) (fun _=>?_)|refine gdW_any (fun _=>?_) (fun _=>?_)|simp only [go_sem,bne,iQ,iB,iX,Int.reduceLE,iN,iA,iS,iM,setIi,setBb,tk_I,tk_B,List.length_set, *]|rfl)
 · clear h6 h7 b6
   by_cases h:regI ⟨pc,regs,cells,isset⟩ src+imm ≥ 8
   · clear h5 b5
     repeat' (first|with_reducible rfl|refine fcW_int (impl_do.fc _ _ _ ws.1) ?_|refine fcW_int (impl_do.fc _ _ _ i0) ?_|with_reducible refine cdW_dec (fun _=>?_) (fun _=>?_)|refine cdW_not (fun _=>?_) (fun _=>?_)|refine cdW_any (fun _=>?_) (fun _=>?_)|with_reducible refine gdW_decT (fun _=>?_) (fun _=>?_)|with_reducible refine gdW_decF (fun _=>?_) (fun _=>?_)|refine gdW_not (fun _=>?_) (fun _=>?_)|refine gdW_any (fun _=>?_) (fun _=>?_)|simp only [go_sem,bne,iQ,iB,iX,Int.reduceLE,iN,iA,iS,iM,setIi,setBb,tk_I,tk_B,List.length_set, *]|rfl)
   · have h5:=h5 h
     have b5:=b5 h
     repeat' (first|with_reducible rfl|refine fcW_int (impl_do.fc _ _ _ ws.1) ?_|refine fcW_int (impl_do.fc _ _ _ i0) ?_|with_reducible refine cdW_dec (fun _=>?_) (fun _=>?_)|refine cdW_not (fun _=>?_) (fun _=>?_)|refine cdW_any (fun _=>?_) (fun _=>?_)|with_reducible refine gdW_decT (fun _=>?_) (fun _=>?_)|with_reducible refine gdW_decF (fun _=>?_) (fun _=>?_)|refine gdW_not (fun _=>?_) (fun _=>?_)|refine gdW_any (fun _=>?_) (fun _=>?_)|simp only [go_sem,bne,iQ,iB,iX,Int.reduceLE,iN,iA,iS,iM,setIi,setBb,tk_I,tk_B,List.length_set, *]|rfl)
 · clear h5 b5
   by_cases h:imm ≥ 16
   · clear h6 h7 b6
     repeat' (first|with_reducible rfl|refine fcW_int (impl_do.fc _ _ _ ws.1) ?_|refine fcW_int (impl_do.fc _ _ _ i0) ?_|with_reducible refine cdW_dec (fun _=>?_) (fun _=>?_)|refine cdW_not (fun _=>?_) (fun _=>?_)|refine cdW_any (fun _=>?_) (fun _=>?_)|with_reducible refine gdW_decT (fun _=>?_) (fun _=>?_)|with_reducible refine gdW_decF (fun _=>?_) (fun _=>?_)|refine gdW_not (fun _=>?_) (fun _=>?_)|refine gdW_any (fun _=>?_) (fun _=>?_)|simp only [go_sem,bne,iQ,iB,iX,Int.reduceLE,iN,iA,iS,iM,setIi,setBb,tk_I,tk_B,List.length_set, *]|rfl)
   · have h6:=h6 h
     have h7:=h7 h
     have b6:=b6 h
     cases hq:isset.getD imm.toNat false<;>rw [hq] at h7
     · repeat' (first|with_reducible rfl|refine fcW_int (impl_do.fc _ _ _ ws.1) ?_|refine fcW_int (impl_do.fc _ _ _ i0) ?_|with_reducible refine cdW_dec (fun _=>?_) (fun _=>?_)|refine cdW_not (fun _=>?_) (fun _=>?_)|refine cdW_any (fun _=>?_) (fun _=>?_)|with_reducible refine gdW_decT (fun _=>?_) (fun _=>?_)|with_reducible refine gdW_decF (fun _=>?_) (fun _=>?_)|refine gdW_not (fun _=>?_) (fun _=>?_)|refine gdW_any (fun _=>?_) (fun _=>?_)|simp only [go_sem,bne,iQ,iB,iX,Int.reduceLE,iN,iA,iS,iM,setIi,setBb,tk_I,tk_B,List.length_set, *]|rfl)
     · repeat' (first|with_reducible rfl|refine fcW_int (impl_do.fc _ _ _ ws.1) ?_|refine fcW_int (impl_do.fc _ _ _ i0) ?_|with_reducible refine cdW_dec (fun _=>?_) (fun _=>?_)|refine cdW_not (fun _=>?_) (fun _=>?_)|refine cdW_any (fun _=>?_) (fun _=>?_)|with_reducible refine gdW_decT (fun _=>?_) (fun _=>?_)|with_reducible refine gdW_decF (fun _=>?_) (fun _=>?_)|refine gdW_not (fun _=>?_) (fun _=>?_)|refine gdW_any (fun _=>?_) (fun _=>?_)|simp only [go_sem,bne,iQ,iB,iX,Int.reduceLE,iN,iA,iS,iM,setIi,setBb,tk_I,tk_B,List.length_set, *]|rfl)
 · clear h5 b5
   by_cases h:imm ≥ 16
   · clear h6 h7 b6
     repeat' (first|with_reducible rfl|refine fcW_int (impl_do.fc _ _ _ ws.1) ?_|refine fcW_int (impl_do.fc _ _ _ i0) ?_|with_reducible refine cdW_dec (fun _=>?_) (fun _=>?_)|refine cdW_not (fun _=>?_) (fun _=>?_)|refine cdW_any (fun _=>?_) (fun _=>?_)|with_reducible refine gdW_decT (fun _=>?_) (fun _=>?_)|with_reducible refine gdW_decF (fun _=>?_) (fun _=>?_)|refine gdW_not (fun _=>?_) (fun _=>?_)|refine gdW_any (fun _=>?_) (fun _=>?_)|simp only [go_sem,bne,iQ,iB,iX,Int.reduceLE,iN,iA,iS,iM,setIi,setBb,tk_I,tk_B,List.length_set, *]|rfl)
   · have h6:=h6 h
     have h7:=h7 h
     have b6:=b6 h
     repeat' (first|with_reducible rfl|refine fcW_int (impl_do.fc _ _ _ ws.1) ?_|refine fcW_int (impl_do.fc _ _ _ i0) ?_|with_reducible refine cdW_dec (fun _=>?_) (fun _=>?_)|refine cdW_not (fun _=>?_) (fun _=>?_)|refine cdW_any (fun _=>?_) (fun _=>?_)|with_reducible refine gdW_decT (fun _=>?_) (fun _=>?_)|with_reducible refine gdW_decF (fun _=>?_) (fun _=>?_)|refine gdW_not (fun _=>?_) (fun _=>?_)|refine gdW_any (fun _=>?_) (fun _=>?_)|simp only [go_sem,bne,iQ,iB,iX,Int.reduceLE,iN,iA,iS,iM,setIi,setBb,tk_I,tk_B,List.length_set, *]|rfl)
 · clear h5 h6 h7 b5 b6
   repeat' (first|with_reducible rfl|refine fcW_int (impl_do.fc _ _ _ ws.1) ?_|refine fcW_int (impl_do.fc _ _ _ i0) ?_|with_reducible refine cdW_dec (fun _=>?_) (fun _=>?_)|refine cdW_not (fun _=>?_) (fun _=>?_)|refine cdW_any (fun _=>?_) (fun _=>?_)|with_reducible refine gdW_decT (fun _=>?_) (fun _=>?_)|with_reducible refine gdW_decF (fun _=>?_) (fun _=>?_)|refine gdW_not (fun _=>?_) (fun _=>?_)|refine gdW_any (fun _=>?_) (fun _=>?_)|simp only [go_sem,bne,iQ,iB,iX,Int.reduceLE,iN,iA,iS,iM,setIi,setBb,tk_I,tk_B,List.length_set, *]|rfl)
 · clear h5 h6 h7 b5 b6
   repeat' (first|with_reducible rfl|refine fcW_int (impl_do.fc _ _ _ ws.1) ?_|refine fcW_int (impl_do.fc _ _ _ i0) ?_|with_reducible refine cdW_dec (fun _=>?_) (fun _=>?_)|refine cdW_not (fun _=>?_) (fun _=>?_)|refine cdW_any (fun _=>?_) (fun _=>?_)|with_reducible refine gdW_decT (fun _=>?_) (fun _=>?_)|with_reducible refine gdW_decF (fun _=>?_) (fun _=>?_)|refine gdW_not (fun _=>?_) (fun _=>?_)|refine gdW_any (fun _=>?_) (fun _=>?_)|simp only [go_sem,bne,iQ,iB,iX,Int.reduceLE,iN,iA,iS,iM,setIi,setBb,tk_I,tk_B,List.length_set, *]|rfl)
 · clear h5 h6 h7 b5 b6
   repeat' (first|with_reducible rfl|refine fcW_int (impl_do.fc _ _ _ ws.1) ?_|refine fcW_int (impl_do.fc _ _ _ i0) ?_|with_reducible refine cdW_dec (fun _=>?_) (fun _=>?_)|refine cdW_not (fun _=>?_) (fun _=>?_)|refine cdW_any (fun _=>?_) (fun _=>?_)|with_reducible refine gdW_decT (fun _=>?_) (fun _=>?_)|with_reducible refine gdW_decF (fun _=>?_) (fun _=>?_)|refine gdW_not (fun _=>?_) (fun _=>?_)|refine gdW_any (fun _=>?_) (fun _=>?_)|simp only [go_sem,bne,iQ,iB,iX,Int.reduceLE,iN,iA,iS,iM,setIi,setBb,tk_I,tk_B,List.length_set, *]|rfl)
 · clear h5 h6 h7 b5 b6
   repeat' (first|with_reducible rfl|refine fcW_int (impl_do.fc _ _ _ ws.1) ?_|refine fcW_int (impl_do.fc _ _ _ i0) ?_|with_reducible refine cdW_dec (fun _=>?_) (fun _=>?_)|refine cdW_not (fun _=>?_) (fun _=>?_)|refine cdW_any (fun _=>?_) (fun _=>?_)|with_reducible refine gdW_decT (fun _=>?_) (fun _=>?_)|with_reducible refine gdW_decF (fun _=>?_) (fun _=>?_)|refine gdW_not (fun _=>?_) (fun _=>?_)|refine gdW_any (fun _=>?_) (fun _=>?_)|simp only [go_sem,bne,iQ,iB,iX,Int.reduceLE,iN,iA,iS,iM,setIi,setBb,tk_I,tk_B,List.length_set, *]|rfl)
theorem spec_l3Do.fc (p:List StepD) (ctx:List Int) (m:MachD) (s:StepD) (hp:p.length≤20) (hc:CtxOk ctx) (hm:MachOk m) (hpc:m.pc < p.length) (hs:p[m.pc.toNat]? = some s) (hv:stepB s=true) :
 FCt prog F_spec_l3Do [.ro,.ro,.co] [steps p,ints ctx,m.d] (.tup [(stepM s ctx m).1.d,Ii (stepM s ctx m).2.1,Bb (stepM s ctx m).2.2]) []:=by
 refine fct_run spec_l3Do.ok rfl ?_
 have ok:=step_ok hv
 have kd:=valid_kind (.inr hv)
 obtain ⟨⟨pc0,pc1⟩,l1,l2,l3,wr,wc⟩:=hm
 obtain ⟨cl,ca⟩:=hc
 obtain ⟨pc,regs,cells,isset⟩:=m
 obtain ⟨k,op,dst,src,imm,to⟩:=s
 obtain ⟨_,od,os,oi,oo,ot,_,_⟩:=ok
 dsimp only at *
 have gd:regs[dst.toNat]? = some (regI ⟨pc,regs,cells,isset⟩ dst):=getD_some (by omega)
 have gs:regs[src.toNat]? = some (regI ⟨pc,regs,cells,isset⟩ src):=getD_some (by omega)
 have ws:0≤regI ⟨pc,regs,cells,isset⟩ src∧regI ⟨pc,regs,cells,isset⟩ src≤65535:=wr _ (List.mem_of_getElem? gs)
 have w1:IntKind.i64.wrap (pc+1)=pc+1:=wrap_in (by omega) (by omega)
 have w2:IntKind.i64.wrap (pc+1+to)=pc+to+1:=by rw [wrap_in (by omega) (by omega)];omega
 have w4:IntKind.i64.wrap (pc+to)=pc+to:=wrap_in (by omega) (by omega)
 have w5:IntKind.i64.wrap (pc+to+1)=pc+to+1:=wrap_in (by omega) (by omega)
 have w3:IntKind.i64.wrap (regI ⟨pc,regs,cells,isset⟩ src+imm)=regI ⟨pc,regs,cells,isset⟩ src+imm:=wrap_in (by omega) (by omega)
 have od1:=od.1
 have od2:dst < 6:=by omega
 have os1:=os.1
 have os2:src < 6:=by omega
 have c6:((6:Nat):Int)=6:=rfl
 have c8:((8:Nat):Int)=8:=rfl
 have c16:((16:Nat):Int)=16:=rfl
 have i0:0≤imm:=oi.1
 have r0:0≤regI ⟨pc,regs,cells,isset⟩ src+imm:=by omega
 have h5:¬ regI ⟨pc,regs,cells,isset⟩ src+imm ≥ 8→ctx[(regI ⟨pc,regs,cells,isset⟩ src+imm).toNat]? = some (ctx.getD (regI ⟨pc,regs,cells,isset⟩ src+imm).toNat 0):=fun h=>getD_some (by omega)
 have h6:¬ imm ≥ 16→cells[imm.toNat]? = some (cells.getD imm.toNat 0):=fun h=>getD_some (by omega)
 have h7:¬ imm ≥ 16→isset[imm.toNat]? = some (isset.getD imm.toNat false):=fun h=>getD_some (by omega)
 have b5:¬ regI ⟨pc,regs,cells,isset⟩ src+imm ≥ 8→regI ⟨pc,regs,cells,isset⟩ src+imm < 8:=fun h=>by omega
 have b6:¬ imm ≥ 16→imm < 16:=fun h=>by omega
 unfold stepM setR setC setP
 rcases kd with rfl|rfl|rfl|rfl|rfl|rfl|rfl|rfl|rfl|rfl|rfl
 · clear h5 h6 h7 b5 b6
   repeat' (first|with_reducible rfl|refine fcW_int (spec_l1Do.fc _ _ _ ws.1) ?_|refine fcW_int (spec_l1Do.fc _ _ _ i0) ?_|with_reducible refine cdW_dec (fun _=>?_) (fun _=>?_)|refine cdW_not (fun _=>?_) (fun _=>?_)|refine cdW_any (fun _=>?_) (fun _=>?_)|with_reducible refine gdW_decT (fun _=>?_) (fun _=>?_)|with_reducible refine gdW_decF (fun _=>?_) (fun _=>?_)|refine gdW_not (fun _=>?_) (fun _=>?_)|refine gdW_any (fun _=>?_) (fun _=>?_)|simp only [go_sem,bne,iQ,iB,iX,Int.reduceLE,iN,iA,iS,iM,setIi,setBb,tk_I,tk_B,List.length_set, *]|rfl)
 · clear h5 h6 h7 b5 b6
   repeat' (first|with_reducible rfl|refine fcW_int (spec_l1Do.fc _ _ _ ws.1) ?_|refine fcW_int (spec_l1Do.fc _ _ _ i0) ?_|with_reducible refine cdW_dec (fun _=>?_) (fun _=>?_)|refine cdW_not (fun _=>?_) (fun _=>?_)|refine cdW_any (fun _=>?_) (fun _=>?_)|with_reducible refine gdW_decT (fun _=>?_) (fun _=>?_)|with_reducible refine gdW_decF (fun _=>?_) (fun _=>?_)|refine gdW_not (fun _=>?_) (fun _=>?_)|refine gdW_any (fun _=>?_) (fun _=>?_)|simp only [go_sem,bne,iQ,iB,iX,Int.reduceLE,iN,iA,iS,iM,setIi,setBb,tk_I,tk_B,List.length_set, *]|rfl)
 · clear h5 h6 h7 b5 b6
   repeat' (first|with_reducible rfl|refine fcW_int (spec_l1Do.fc _ _ _ ws.1) ?_|refine fcW_int (spec_l1Do.fc _ _ _ i0) ?_|with_reducible refine cdW_dec (fun _=>?_) (fun _=>?_)|refine cdW_not (fun _=>?_) (fun _=>?_)|refine cdW_any (fun _=>?_) (fun _=>?_)|with_reducible refine gdW_decT (fun _=>?_) (fun _=>?_)|with_reducible refine gdW_decF (fun _=>?_) (fun _=>?_)|refine gdW_not (fun _=>?_) (fun _=>?_)|refine gdW_any (fun _=>?_) (fun _=>?_)|simp only [go_sem,bne,iQ,iB,iX,Int.reduceLE,iN,iA,iS,iM,setIi,setBb,tk_I,tk_B,List.length_set, *]|rfl)
 · clear h5 h6 h7 b5 b6
   repeat' (first|with_reducible rfl|refine fcW_int (spec_l1Do.fc _ _ _ ws.1) ?_|refine fcW_int (spec_l1Do.fc _ _ _ i0) ?_|with_reducible refine cdW_dec (fun _=>?_) (fun _=>?_)|refine cdW_not (fun _=>?_) (fun _=>?_)|refine cdW_any (fun _=>?_) (fun _=>?_)|with_reducible refine gdW_decT (fun _=>?_) (fun _=>?_)|with_reducible refine gdW_decF (fun _=>?_) (fun _=>?_)|refine gdW_not (fun _=>?_) (fun _=>?_)|refine gdW_any (fun _=>?_) (fun _=>?_)|simp only [go_sem,bne,iQ,iB,iX,Int.reduceLE,iN,iA,iS,iM,setIi,setBb,tk_I,tk_B,List.length_set, *]|rfl)
 · clear h6 h7 b6
   by_cases h:regI ⟨pc,regs,cells,isset⟩ src+imm ≥ 8
   · clear h5 b5
     repeat' (first|with_reducible rfl|refine fcW_int (spec_l1Do.fc _ _ _ ws.1) ?_|refine fcW_int (spec_l1Do.fc _ _ _ i0) ?_|with_reducible refine cdW_dec (fun _=>?_) (fun _=>?_)|refine cdW_not (fun _=>?_) (fun _=>?_)|refine cdW_any (fun _=>?_) (fun _=>?_)|with_reducible refine gdW_decT (fun _=>?_) (fun _=>?_)|with_reducible refine gdW_decF (fun _=>?_) (fun _=>?_)|refine gdW_not (fun _=>?_) (fun _=>?_)|refine gdW_any (fun _=>?_) (fun _=>?_)|simp only [go_sem,bne,iQ,iB,iX,Int.reduceLE,iN,iA,iS,iM,setIi,setBb,tk_I,tk_B,List.length_set, *]|rfl)
   · have h5:=h5 h
     have b5:=b5 h
     repeat' (first|with_reducible rfl|refine fcW_int (spec_l1Do.fc _ _ _ ws.1) ?_|refine fcW_int (spec_l1Do.fc _ _ _ i0) ?_|with_reducible refine cdW_dec (fun _=>?_) (fun _=>?_)|refine cdW_not (fun _=>?_) (fun _=>?_)|refine cdW_any (fun _=>?_) (fun _=>?_)|with_reducible refine gdW_decT (fun _=>?_) (fun _=>?_)|with_reducible refine gdW_decF (fun _=>?_) (fun _=>?_)|refine gdW_not (fun _=>?_) (fun _=>?_)|refine gdW_any (fun _=>?_) (fun _=>?_)|simp only [go_sem,bne,iQ,iB,iX,Int.reduceLE,iN,iA,iS,iM,setIi,setBb,tk_I,tk_B,List.length_set, *]|rfl)
 · clear h5 b5
   by_cases h:imm ≥ 16
   · clear h6 h7 b6
     repeat' (first|with_reducible rfl|refine fcW_int (spec_l1Do.fc _ _ _ ws.1) ?_|refine fcW_int (spec_l1Do.fc _ _ _ i0) ?_|with_reducible refine cdW_dec (fun _=>?_) (fun _=>?_)|refine cdW_not (fun _=>?_) (fun _=>?_)|refine cdW_any (fun _=>?_) (fun _=>?_)|with_reducible refine gdW_decT (fun _=>?_) (fun _=>?_)|with_reducible refine gdW_decF (fun _=>?_) (fun _=>?_)|refine gdW_not (fun _=>?_) (fun _=>?_)|refine gdW_any (fun _=>?_) (fun _=>?_)|simp only [go_sem,bne,iQ,iB,iX,Int.reduceLE,iN,iA,iS,iM,setIi,setBb,tk_I,tk_B,List.length_set, *]|rfl)
   · have h6:=h6 h
     have h7:=h7 h
     have b6:=b6 h
     cases hq:isset.getD imm.toNat false<;>rw [hq] at h7
     · repeat' (first|with_reducible rfl|refine fcW_int (spec_l1Do.fc _ _ _ ws.1) ?_|refine fcW_int (spec_l1Do.fc _ _ _ i0) ?_|with_reducible refine cdW_dec (fun _=>?_) (fun _=>?_)|refine cdW_not (fun _=>?_) (fun _=>?_)|refine cdW_any (fun _=>?_) (fun _=>?_)|with_reducible refine gdW_decT (fun _=>?_) (fun _=>?_)|with_reducible refine gdW_decF (fun _=>?_) (fun _=>?_)|refine gdW_not (fun _=>?_) (fun _=>?_)|refine gdW_any (fun _=>?_) (fun _=>?_)|simp only [go_sem,bne,iQ,iB,iX,Int.reduceLE,iN,iA,iS,iM,setIi,setBb,tk_I,tk_B,List.length_set, *]|rfl)
     · repeat' (first|with_reducible rfl|refine fcW_int (spec_l1Do.fc _ _ _ ws.1) ?_|refine fcW_int (spec_l1Do.fc _ _ _ i0) ?_|with_reducible refine cdW_dec (fun _=>?_) (fun _=>?_)|refine cdW_not (fun _=>?_) (fun _=>?_)|refine cdW_any (fun _=>?_) (fun _=>?_)|with_reducible refine gdW_decT (fun _=>?_) (fun _=>?_)|with_reducible refine gdW_decF (fun _=>?_) (fun _=>?_)|refine gdW_not (fun _=>?_) (fun _=>?_)|refine gdW_any (fun _=>?_) (fun _=>?_)|simp only [go_sem,bne,iQ,iB,iX,Int.reduceLE,iN,iA,iS,iM,setIi,setBb,tk_I,tk_B,List.length_set, *]|rfl)
 · clear h5 b5
   by_cases h:imm ≥ 16
   · clear h6 h7 b6
     repeat' (first|with_reducible rfl|refine fcW_int (spec_l1Do.fc _ _ _ ws.1) ?_|refine fcW_int (spec_l1Do.fc _ _ _ i0) ?_|with_reducible refine cdW_dec (fun _=>?_) (fun _=>?_)|refine cdW_not (fun _=>?_) (fun _=>?_)|refine cdW_any (fun _=>?_) (fun _=>?_)|with_reducible refine gdW_decT (fun _=>?_) (fun _=>?_)|with_reducible refine gdW_decF (fun _=>?_) (fun _=>?_)|refine gdW_not (fun _=>?_) (fun _=>?_)|refine gdW_any (fun _=>?_) (fun _=>?_)|simp only [go_sem,bne,iQ,iB,iX,Int.reduceLE,iN,iA,iS,iM,setIi,setBb,tk_I,tk_B,List.length_set, *]|rfl)
   · have h6:=h6 h
     have h7:=h7 h
     have b6:=b6 h
     repeat' (first|with_reducible rfl|refine fcW_int (spec_l1Do.fc _ _ _ ws.1) ?_|refine fcW_int (spec_l1Do.fc _ _ _ i0) ?_|with_reducible refine cdW_dec (fun _=>?_) (fun _=>?_)|refine cdW_not (fun _=>?_) (fun _=>?_)|refine cdW_any (fun _=>?_) (fun _=>?_)|with_reducible refine gdW_decT (fun _=>?_) (fun _=>?_)|with_reducible refine gdW_decF (fun _=>?_) (fun _=>?_)|refine gdW_not (fun _=>?_) (fun _=>?_)|refine gdW_any (fun _=>?_) (fun _=>?_)|simp only [go_sem,bne,iQ,iB,iX,Int.reduceLE,iN,iA,iS,iM,setIi,setBb,tk_I,tk_B,List.length_set, *]|rfl)
 · clear h5 h6 h7 b5 b6
   repeat' (first|with_reducible rfl|refine fcW_int (spec_l1Do.fc _ _ _ ws.1) ?_|refine fcW_int (spec_l1Do.fc _ _ _ i0) ?_|with_reducible refine cdW_dec (fun _=>?_) (fun _=>?_)|refine cdW_not (fun _=>?_) (fun _=>?_)|refine cdW_any (fun _=>?_) (fun _=>?_)|with_reducible refine gdW_decT (fun _=>?_) (fun _=>?_)|with_reducible refine gdW_decF (fun _=>?_) (fun _=>?_)|refine gdW_not (fun _=>?_) (fun _=>?_)|refine gdW_any (fun _=>?_) (fun _=>?_)|simp only [go_sem,bne,iQ,iB,iX,Int.reduceLE,iN,iA,iS,iM,setIi,setBb,tk_I,tk_B,List.length_set, *]|rfl)
 · clear h5 h6 h7 b5 b6
   repeat' (first|with_reducible rfl|refine fcW_int (spec_l1Do.fc _ _ _ ws.1) ?_|refine fcW_int (spec_l1Do.fc _ _ _ i0) ?_|with_reducible refine cdW_dec (fun _=>?_) (fun _=>?_)|refine cdW_not (fun _=>?_) (fun _=>?_)|refine cdW_any (fun _=>?_) (fun _=>?_)|with_reducible refine gdW_decT (fun _=>?_) (fun _=>?_)|with_reducible refine gdW_decF (fun _=>?_) (fun _=>?_)|refine gdW_not (fun _=>?_) (fun _=>?_)|refine gdW_any (fun _=>?_) (fun _=>?_)|simp only [go_sem,bne,iQ,iB,iX,Int.reduceLE,iN,iA,iS,iM,setIi,setBb,tk_I,tk_B,List.length_set, *]|rfl)
 · clear h5 h6 h7 b5 b6
   repeat' (first|with_reducible rfl|refine fcW_int (spec_l1Do.fc _ _ _ ws.1) ?_|refine fcW_int (spec_l1Do.fc _ _ _ i0) ?_|with_reducible refine cdW_dec (fun _=>?_) (fun _=>?_)|refine cdW_not (fun _=>?_) (fun _=>?_)|refine cdW_any (fun _=>?_) (fun _=>?_)|with_reducible refine gdW_decT (fun _=>?_) (fun _=>?_)|with_reducible refine gdW_decF (fun _=>?_) (fun _=>?_)|refine gdW_not (fun _=>?_) (fun _=>?_)|refine gdW_any (fun _=>?_) (fun _=>?_)|simp only [go_sem,bne,iQ,iB,iX,Int.reduceLE,iN,iA,iS,iM,setIi,setBb,tk_I,tk_B,List.length_set, *]|rfl)
 · clear h5 h6 h7 b5 b6
   repeat' (first|with_reducible rfl|refine fcW_int (spec_l1Do.fc _ _ _ ws.1) ?_|refine fcW_int (spec_l1Do.fc _ _ _ i0) ?_|with_reducible refine cdW_dec (fun _=>?_) (fun _=>?_)|refine cdW_not (fun _=>?_) (fun _=>?_)|refine cdW_any (fun _=>?_) (fun _=>?_)|with_reducible refine gdW_decT (fun _=>?_) (fun _=>?_)|with_reducible refine gdW_decF (fun _=>?_) (fun _=>?_)|refine gdW_not (fun _=>?_) (fun _=>?_)|refine gdW_any (fun _=>?_) (fun _=>?_)|simp only [go_sem,bne,iQ,iB,iX,Int.reduceLE,iN,iA,iS,iM,setIi,setBb,tk_I,tk_B,List.length_set, *]|rfl)
theorem noRs_t4 {a b c d:D} (ha:noRs a=true) (hb:noRs b=true) (hc:noRs c=true) (hd:noRs d=true):noRs (.tup [a,b,c,d])=true:=by
 simp only [noRs,noRsL,ha,hb,hc,hd,Bool.and_self]
structure ProgOk (p:List StepD):Prop where
 len:1≤p.length∧p.length≤20
 all:∀ (i:Nat) (h:i < p.length),stepB p[i]=true∧(p[i].to > 0→(i:Int)+p[i].to+1 < p.length)
 last:lastK p=11
theorem prog_ok {p:List StepD} (h:goodP p=true):ProgOk p:=by
 simp only [goodP,Bool.and_eq_true,inB,decide_eq_true_eq,beq_iff_eq,List.all_eq_true,List.mem_range] at h
 refine ⟨by omega,fun i hi=>?_,h.1.2⟩
 have:=h.2 i hi
 unfold okAt at this
 rw [List.getElem?_eq_getElem hi] at this
 simp only [Bool.and_eq_true,Bool.not_eq_true',Bool.and_eq_false_iff,decide_eq_false_iff_not] at this
 exact ⟨this.1,by omega⟩
def stepAt (p:List StepD) (ctx:List Int) (m:MachD):MachD×Int×Bool:=match p[m.pc.toNat]? with
 | some s=>stepM s ctx m
 | none=>(m,0,false)
theorem step_fault {s:StepD} {ctx:List Int} {m:MachD}:(stepM s ctx m).2.1=0∨(stepM s ctx m).2.1 > 0:=by
 have key:∀ (c:Prop) [Decidable c] (a b:MachD×Int×Bool),(a.2.1=0∨a.2.1 > 0)→(b.2.1=0∨b.2.1 > 0)→((if c then a else b).2.1=0∨(if c then a else b).2.1 > 0):=by
  intro c _ a b ha hb;split
  · exact ha
  · exact hb
 unfold stepM
 repeat' (first|exact .inl rfl|exact .inr (show (1:Int) > 0 by decide)|exact .inr (show (2:Int) > 0 by decide)|exact .inr (show (3:Int) > 0 by decide)|apply key)
theorem noRsL_pM {m:MachD}:noRsL [.ptr m.d]=true:=by
 show (noRs (.ptr m.d)&&true)=true
 rw [Bool.and_true]
 exact noRs_Machine
theorem map_snoc {α:Type} {f:α→D} {l:List α} {x:α}:l.map f++[f x]=(l++[x]).map f:=by rw [List.map_append];rfl
set_option maxHeartbeats 8000000
theorem tdiv_wd {a b:Int} (ha:wd a) (hb:wd b):wd (IntKind.i64.wrap (Int.tdiv a b)):=by
 have h1:0≤Int.tdiv a b:=by rw [Int.tdiv_eq_ediv_of_nonneg ha.1];exact Int.ediv_nonneg ha.1 hb.1
 have h2:Int.tdiv a b≤a:=by rw [Int.tdiv_eq_ediv_of_nonneg ha.1];exact Int.ediv_le_self b ha.1
 have:=ha.2
 rw [wrap_in (by omega) (by omega)]
 exact ⟨h1,by omega⟩
theorem tmod_wd {a b:Int} (ha:wd a) (hb:wd b) (h:b≠0):wd (Int.tmod a b):=by
 rw [Int.tmod_eq_emod_of_nonneg ha.1]
 have h1:=Int.emod_nonneg a h
 have h2:=Int.emod_lt_of_pos a (show 0 < b by have:=hb.1;omega)
 have:=hb.2
 exact ⟨h1,by omega⟩
theorem fdiv_wd {a:Int} {k:Nat} (ha:wd a):wd (Int.fdiv a (2 ^ k)):=by
 have hp:(0:Int)≤2 ^ k:=Int.pow_nonneg (by decide)
 rw [Int.fdiv_eq_ediv_of_nonneg _ hp]
 have h1:=Int.ediv_nonneg ha.1 hp
 have h2:=Int.ediv_le_self (2 ^ k:Int) ha.1
 have:=ha.2
 exact ⟨h1,by omega⟩
theorem doI_wd {op a b:Int} (ha:wd a) (hb:wd b):wd (doI op a b):=by
 have key:∀ (c:Prop) [Decidable c] (x y:Int),(c→wd x)→(¬ c→wd y)→wd (if c then x else y):=by
  intro c _ x y hx hy;split
  · rename_i h;exact hx h
  · rename_i h;exact hy h
 have z:wd 0:=⟨by decide,by decide⟩
 unfold doI
 refine key _ _ _ (fun _=>emod_wd _) fun _=>key _ _ _ (fun _=>emod_wd _) fun _=>key _ _ _ (fun _=>emod_wd _) fun _=>key _ _ _ (fun _=>key _ _ _ (fun _=>z) fun _=>tdiv_wd ha hb) fun _=>key _ _ _ (fun _=>key _ _ _ (fun _=>ha) fun h=>tmod_wd ha hb (by simpa using h)) fun _ =>
  key _ _ _ (fun _=>andI_wd ha) fun _=>key _ _ _ (fun _=>orI_wd ha hb) fun _=>key _ _ _ (fun _=>xorI_wd ha hb) fun _=>key _ _ _ (fun _=>emod_wd _) fun _=>fdiv_wd ha
theorem mem_set {α:Type} {l:List α} {i:Nat} {x y:α} (h:y∈l.set i x):y∈l∨y=x:=List.mem_or_eq_of_mem_set h
theorem setR_ok {m:MachD} {i n:Int} (hm:MachOk m) (hp:m.pc+1≤19) (hn:wd n):MachOk (setR m i n) :=
 ⟨⟨by have:=hm.pc.1;show 0≤m.pc+1;omega,hp⟩,by simp [setR,hm.regs],hm.cells,hm.isset,fun x hx=>(mem_set hx).elim (hm.wr x) (fun e=>e▸hn),hm.wc⟩
theorem setC_ok {m:MachD} {i n:Int} (hm:MachOk m) (hp:m.pc+1≤19) (hn:wd n):MachOk (setC m i n) :=
 ⟨⟨by have:=hm.pc.1;show 0≤m.pc+1;omega,hp⟩,hm.regs,by simp [setC,hm.cells],by simp [setC,hm.isset],hm.wr,fun x hx=>(mem_set hx).elim (hm.wc x) (fun e=>e▸hn)⟩
theorem setP_ok {m:MachD} {n:Int} (hm:MachOk m) (hp:0≤n∧n≤19):MachOk (setP m n):=⟨hp,hm.regs,hm.cells,hm.isset,hm.wr,hm.wc⟩
theorem regI_wd {m:MachD} {i:Int} (hm:MachOk m):wd (regI m i):=by
 unfold regI
 rw [List.getD_eq_getElem?_getD]
 cases h:m.regs[i.toNat]? with
 | none=>exact ⟨by decide,by decide⟩
 | some x=>exact hm.wr x (List.mem_of_getElem? h)
theorem getD_mem {α:Type} {P:α→Prop} {l:List α} {i:Nat} {d:α} (hd:P d) (h:∀ x∈l,P x):P (l.getD i d):=by
 rw [List.getD_eq_getElem?_getD]
 cases e:l[i]? with
 | none=>exact hd
 | some x=>exact h x (List.mem_of_getElem? e)
structure StepKeeps (p:List StepD) (r:MachD×Int×Bool):Prop where
 ok:MachOk r.1
 pc:r.1.pc < p.length
theorem step_keeps {p:List StepD} {ctx:List Int} {m:MachD} (hp:ProgOk p) (hc:CtxOk ctx) (hm:MachOk m) (hpc:m.pc < p.length):StepKeeps p (stepAt p ctx m):=by
 have p0:=hm.pc.1
 have hi:m.pc.toNat < p.length:=by omega
 obtain ⟨hv,ht⟩:=hp.all m.pc.toNat hi
 have gs:p[m.pc.toNat]? = some p[m.pc.toNat]:=List.getElem?_eq_getElem hi
 unfold stepAt
 rw [gs]
 dsimp only
 have hlast:p[m.pc.toNat].kind=11∨m.pc+1 < p.length:=by
  by_cases h:m.pc+1 < p.length
  · exact .inr h
  · left
    have e:p.length - 1=m.pc.toNat:=by omega
    have:=hp.last
    unfold lastK at this
    rw [e,gs] at this
    exact this
 have kd:=valid_kind (.inr hv)
 have ok:=step_ok hv
 generalize p[m.pc.toNat]=s at hv ht hlast kd ok
 have hto:=ok.to
 have hj:=ok.jmp
 have hw:∀ i,wd (regI m i):=fun i=>regI_wd hm
 have hl20:=hp.len.2
 have k0:StepKeeps p (m,(1:Int),false):=⟨hm,hpc⟩
 have k1:∀ f e,StepKeeps p (m,f,e):=fun f e=>⟨hm,hpc⟩
 have key:∀ (c:Prop) [Decidable c] (a b:MachD×Int×Bool),(c→StepKeeps p a)→(¬ c→StepKeeps p b)→StepKeeps p (if c then a else b):=by
  intro c _ a b ha hb;split
  · rename_i h;exact ha h
  · rename_i h;exact hb h
 have wi:wd s.imm:=ok.imm
 have z:wd 0:=⟨by decide,by decide⟩
 have kR:∀ n,s.kind≠11→wd n→StepKeeps p (setR m s.dst n,(0:Int),false):=fun n hk hn=>⟨setR_ok hm (by omega) hn,by show m.pc+1 < _;omega⟩
 have kC:∀ n,s.kind≠11→wd n→StepKeeps p (setC m s.imm n,(0:Int),false):=fun n hk hn=>⟨setC_ok hm (by omega) hn,by show m.pc+1 < _;omega⟩
 have kJ:s.to > 0→StepKeeps p (setP m (m.pc+s.to+1),(0:Int),false):=fun h=>⟨setP_ok hm (by have:=ht h;omega),by show m.pc+s.to+1 < _;have:=ht h;omega⟩
 have kN:s.kind≠11→StepKeeps p (setP m (m.pc+1),(0:Int),false):=fun h=>⟨setP_ok hm (by omega),by show m.pc+1 < _;omega⟩
 have bk:∀ j:Int,(s.kind == j)=true→s.kind=j:=fun j h=>by simpa using h
 have nk:∀ j:Int,¬ (s.kind == j)=true→s.kind≠j:=fun j h=>by simpa using h
 unfold stepM
 refine key _ _ _ (fun h=>kR _ (by have:=bk _ h;omega) (doI_wd (hw _) (hw _))) fun h1=>key _ _ _ (fun h=>kR _ (by have:=bk _ h;omega) (doI_wd (hw _) wi)) fun h2=>key _ _ _ (fun h=>kR _ (by have:=bk _ h;omega) wi) fun h3=>key _ _ _ (fun h=>kR _ (by have:=bk _ h;omega) wi) fun h4 =>
  key _ _ _ (fun h=>key _ _ _ (fun _=>k1 _ _) fun _=>kR _ (by have:=bk _ h;omega) (getD_mem (P:=wd) z fun x hx=>⟨(hc.all x hx).1,by have:=(hc.all x hx).2;omega⟩)) fun h5 =>
  key _ _ _ (fun h=>key _ _ _ (fun _=>k1 _ _) fun _=>kC _ (by have:=bk _ h;omega) (hw _)) fun h7 =>
  key _ _ _ (fun h=>key _ _ _ (fun _=>k1 _ _) fun _=>key _ _ _ (fun _=>kR _ (by have:=bk _ h;omega) (getD_mem (P:=wd) z fun x hx=>hm.wc x hx)) fun _=>k1 _ _) fun h6 =>
  key _ _ _ (fun h=>k1 _ _) fun h11=>key _ _ _ (fun h=>kJ (hj.2 (by have:=bk _ h;omega))) fun h8 =>
  key _ _ _ (fun h=>key _ _ _ (fun _=>kJ (hj.2 (by have:=bk _ h;omega))) fun _=>kN (by have:=bk _ h;omega)) fun h9 =>
  key _ _ _ (fun _=>kJ (hj.2 (by have:=nk _ h1;have:=nk _ h2;have:=nk _ h3;have:=nk _ h4;have:=nk _ h5;have:=nk _ h7;have:=nk _ h6;have:=nk _ h11;have:=nk _ h8;have:=nk _ h9;omega))) fun _=>kN (nk _ h11)
def runF (p:List StepD) (ctx:List Int):Nat→MachD→List Int→Int×Int×Int×List Int
 | 0,m,tr=>(0,4,m.pc,tr)
 | n+1,m,tr=>if (stepAt p ctx m).2.1 == 0 then (if (stepAt p ctx m).2.2 then ((stepAt p ctx m).1.regs.getD 0 0,0,0,tr++[m.pc]) else runF p ctx n (stepAt p ctx m).1 (tr++[m.pc])) else (0,(stepAt p ctx m).2.1,m.pc,tr++[m.pc])
def newM:MachD:=⟨0,List.replicate 6 0,List.replicate 16 0,List.replicate 16 false⟩
theorem newM_ok:MachOk newM:=by
 refine ⟨⟨by decide,by decide⟩,by decide,by decide,by decide,?_,?_⟩
 · intro x hx;rw [List.eq_of_mem_replicate hx];decide
 · intro x hx;rw [List.eq_of_mem_replicate hx];decide
def runP (p:List StepD) (ctx:List Int) (fuel:Nat):Int×Int×Int×List Int:=runF p ctx fuel newM []
set_option maxHeartbeats 16000000
def nextsL (s:StepD) (i:Int):List Int :=
 if s.kind == 11 then [] else if s.kind == 8 then [i+s.to+1] else if s.kind == 9 then [i+1,i+s.to+1] else if s.kind == 10 then [i+1,i+s.to+1] else [i+1]
theorem impl_nexts.fc (p:List StepD) (i:Int) (s:StepD) (h0:0≤i) (h1:i < p.length) (hl:p.length≤20) (hs:p[i.toNat]? = some s) (hv:stepB s=true):FCt prog F_impl_nexts [.ro,.ro] [steps p,Ii i] (ints (nextsL s i)) []:=by
 refine fct_run impl_nexts.ok rfl ?_
 have ot:=(step_ok hv).to
 have w1:IntKind.i64.wrap (i+1)=i+1:=wrap_in (by omega) (by omega)
 have w2:IntKind.i64.wrap (i+s.to)=i+s.to:=wrap_in (by omega) (by omega)
 have w3:IntKind.i64.wrap (i+s.to+1)=i+s.to+1:=wrap_in (by omega) (by omega)
 unfold nextsL
 repeat' (first|with_reducible rfl|with_reducible refine cdW_dec (fun _=>?_) (fun _=>?_)|refine cdW_not (fun _=>?_) (fun _=>?_)|refine cdW_any (fun _=>?_) (fun _=>?_)|with_reducible refine gdW_decT (fun _=>?_) (fun _=>?_)|with_reducible refine gdW_decF (fun _=>?_) (fun _=>?_)|refine gdW_not (fun _=>?_) (fun _=>?_)|refine gdW_any (fun _=>?_) (fun _=>?_)|simp only [go_sem,bne,iQ,iB,iX,Int.reduceLE,iN,iA,iS,iM, *]|rfl)
theorem spec_l2Nexts.fc (p:List StepD) (i:Int) (s:StepD) (h0:0≤i) (h1:i < p.length) (hl:p.length≤20) (hs:p[i.toNat]? = some s) (hv:stepB s=true):FCt prog F_spec_l2Nexts [.ro,.ro] [steps p,Ii i] (ints (nextsL s i)) []:=by
 refine fct_run spec_l2Nexts.ok rfl ?_
 have ot:=(step_ok hv).to
 have w1:IntKind.i64.wrap (i+1)=i+1:=wrap_in (by omega) (by omega)
 have w2:IntKind.i64.wrap (i+s.to)=i+s.to:=wrap_in (by omega) (by omega)
 have w3:IntKind.i64.wrap (i+s.to+1)=i+s.to+1:=wrap_in (by omega) (by omega)
 unfold nextsL
 repeat' (first|with_reducible rfl|with_reducible refine cdW_dec (fun _=>?_) (fun _=>?_)|refine cdW_not (fun _=>?_) (fun _=>?_)|refine cdW_any (fun _=>?_) (fun _=>?_)|with_reducible refine gdW_decT (fun _=>?_) (fun _=>?_)|with_reducible refine gdW_decF (fun _=>?_) (fun _=>?_)|refine gdW_not (fun _=>?_) (fun _=>?_)|refine gdW_any (fun _=>?_) (fun _=>?_)|simp only [go_sem,bne,iQ,iB,iX,Int.reduceLE,iN,iA,iS,iM, *]|rfl)
theorem impl_NewMachine.fc:FCt prog F_impl_NewMachine [] [] newM.d []:=by
 refine fct_run impl_NewMachine.ok rfl ?_
 have c1:(6:Int) * (8:Nat)≤70368744177664:=by omega
 have c2:(16:Int) * (8:Nat)≤70368744177664:=by omega
 have c3:(16:Int) * (1:Nat)≤70368744177664:=by omega
 simp only [go_sem,c1,c2,c3,Int.le_refl,List.length_replicate,Nat.le_refl]
 rfl
theorem spec_NewMachine.fc:FCt prog F_spec_NewMachine [] [] newM.d []:=by
 refine fct_run spec_NewMachine.ok rfl ?_
 have c1:(6:Int) * (8:Nat)≤70368744177664:=by omega
 have c2:(16:Int) * (8:Nat)≤70368744177664:=by omega
 have c3:(16:Int) * (1:Nat)≤70368744177664:=by omega
 simp only [go_sem,c1,c2,c3,Int.le_refl,List.length_replicate,Nat.le_refl]
 rfl
def runD (r:Int×Int×Int×List Int):D:=.tup [Ii r.1,Ii r.2.1,Ii r.2.2.1,ints r.2.2.2]
theorem stepAt_fc {p:List StepD} {ctx:List Int} {m:MachD} (hp:ProgOk p) (hc:CtxOk ctx) (hm:MachOk m) (hpc:m.pc < p.length) :
 FCt prog F_impl_pMachine_step [.io,.ro,.ro] [.ptr m.d,steps p,ints ctx] (.tup [Ii (stepAt p ctx m).2.1,Bb (stepAt p ctx m).2.2]) [.ptr (stepAt p ctx m).1.d]:=by
 have p0:=hm.pc.1
 have hi:m.pc.toNat < p.length:=by omega
 have gs:p[m.pc.toNat]? = some p[m.pc.toNat]:=List.getElem?_eq_getElem hi
 have:=impl_pMachine_step.fc p ctx m _ hp.len.2 hc hm hpc gs (hp.all _ hi).1
 unfold stepAt
 rw [gs]
 exact this
theorem stepAt_fs {p:List StepD} {ctx:List Int} {m:MachD} (hp:ProgOk p) (hc:CtxOk ctx) (hm:MachOk m) (hpc:m.pc < p.length) :
 FCt prog F_spec_l3Do [.ro,.ro,.co] [steps p,ints ctx,m.d] (.tup [(stepAt p ctx m).1.d,Ii (stepAt p ctx m).2.1,Bb (stepAt p ctx m).2.2]) []:=by
 have p0:=hm.pc.1
 have hi:m.pc.toNat < p.length:=by omega
 have gs:p[m.pc.toNat]? = some p[m.pc.toNat]:=List.getElem?_eq_getElem hi
 have:=spec_l3Do.fc p ctx m _ hp.len.2 hc hm hpc gs (hp.all _ hi).1
 unfold stepAt
 rw [gs]
 exact this
theorem impl_run.fc (p:List StepD) (ctx:List Int) (fuel:Nat) (hf:fuel≤100) (hp:ProgOk p) (hc:CtxOk ctx) :
 FCt prog F_impl_run [.ro,.ro,.ro] [steps p,ints ctx,Ii fuel] (runD (runP p ctx fuel)) []:=by
 refine fct_run impl_run.ok rfl ?_
 simp only [go_sem]
 refine fcW_bd impl_NewMachine.fc noRs_Machine ?_
 have nl:=newM_ok.len
 simp only [go_sem,nl.regs,nl.cells,nl.isset]
 refine R_loop (α:=Nat×MachD×List Int) (fun a s' M'=>a.1≤fuel∧a.2.2.length=a.1∧MachOk a.2.1∧a.2.1.pc < p.length∧(∃ v,s' 11=.sl 1600 v 0 a.1 1∧M'.m 1600=some (.arr v true 1 (a.2.2.map Ii))) ∧
  (∃ n1 n2 n3 v1 v2 v3,M'.m 384=some (.box 320 (.agg [aI a.2.1.pc,.sl n1 v1 0 6 1,.sl n2 v2 0 16 1,.sl n3 v3 0 16 1]))∧M'.m n1=some (.arr v1 true 1 (a.2.1.regs.map Ii))∧M'.m n2=some (.arr v2 true 1 (a.2.1.cells.map Ii))∧M'.m n3=some (.arr v3 true 1 (a.2.1.isset.map Bb)) ∧
   ((n1=320∧n2=321∧n3=322)∨(n1=1856∧n2=1857∧n3=1858))) ∧
  runP p ctx fuel=runF p ctx (fuel - a.1) a.2.1 a.2.2) (fun a=>fuel - a.1) (0,newM,[])
  ⟨by dsimp only;omega,rfl,newM_ok,by show (0:Int) < _;have:=hp.len.1;omega,⟨_,by simp only [go_sem];rfl,by simp only [go_sem];try rfl⟩,⟨320,321,322,_,_,_,by simp only [go_sem,nl.regs,nl.cells,nl.isset];try rfl,by simp only [go_sem],by simp only [go_sem],by simp only [go_sem],.inl ⟨rfl,rfl,rfl⟩⟩,rfl⟩ ?_
 rintro ⟨k,m,tr⟩ s' M' ⟨hk,htr,hm,hpc,⟨v,h11,hmt⟩,⟨n1,n2,n3,v1,v2,v3,hb,a1,a2,a3,hn⟩,hrun⟩ ho
 dsimp only at hk htr hm hpc h11 hmt hb a1 a2 a3 hrun
 unfold impl_run.b0
 have j0:s' 0=.dat none (steps p):=by rw [ho 0 rfl];simp only [go_sem]
 have j1:s' 1=.dat none (ints ctx):=by rw [ho 1 rfl];simp only [go_sem]
 have j2:s' 2=aI fuel:=by rw [ho 2 rfl];simp only [go_sem]
 have j10:s' 10=.ptr 384 320 0 none:=by rw [ho 10 rfl];simp only [go_sem]
 clear ho
 have ml:=hm.len
 have l1:=ml.regs
 have l2:=ml.cells
 have l3:=ml.isset
 have hst:=stepAt_fc hp hc hm hpc
 have hsk:=step_keeps hp hc hm hpc
 by_cases hlt:k < fuel
 · have e1:((k:Int) == (fuel:Int))=false:=by rw [beq_eq_false_iff_ne];omega
   have hb1:(k+1) * 8≤70368744177664:=by omega
   have ap:tr.map Ii++[Ii m.pc]=(tr++[m.pc]).map Ii:=map_snoc
   have tk:(tr.map Ii).take k=tr.map Ii:=List.take_of_length_le (by simp [htr])
   have hf2:fuel - k=(fuel - (k+1))+1:=by omega
   rw [hf2] at hrun
   unfold runF at hrun
   generalize stepAt p ctx m=R at hst hsk hrun
   obtain ⟨R0,R1,R2⟩:=R
   dsimp only at hst hrun
   have rl:=hsk.ok.len
   have r1:=rl.regs
   have r2:=rl.cells
   have r3:=rl.isset
   dsimp only at r1 r2 r3
   have tkr:((tr++[m.pc]).map Ii).take (k+1)=(tr++[m.pc]).map Ii:=List.take_of_length_le (by simp [htr])
   rcases hn with ⟨rfl,rfl,rfl⟩|⟨rfl,rfl,rfl⟩
   · simp only [go_sem,e1,hb1,ap,tk,htr,l1,l2,l3,tk_I,tk_B,j0,j1,j2,j10,h11,hmt,hb,a1,a2,a3]
     refine coW_of hst rfl noRsL_pM ?_
     cases h0:(R1 == 0) with
     | false =>
      have h1:(R1 != 0)=true:=by rw [bne,h0];rfl
      rw [h0] at hrun
      simp only [go_sem,h1,List.length_append,List.length_singleton,htr,tkr,j0,j1,j2,j10,h11,hmt,hb,a1,a2,a3]
      rw [hrun]
      rfl
     | true =>
      have h1:(R1 != 0)=false:=by rw [bne,h0];rfl
      rw [h0] at hrun
      cases R2 with
      | true =>
       have c6:((6:Nat):Int)=6:=rfl
       have hg:R0.regs[0]? = some (R0.regs.getD 0 0):=getD_some (by have:=rl.regs;omega)
       simp only [go_sem,h1,List.length_append,List.length_singleton,htr,tkr,r1,r2,r3,hg,c6,j0,j1,j2,j10,h11,hmt,hb,a1,a2,a3]
       rw [hrun]
       rfl
      | false =>
       simp only [go_sem,h1,j0,j1,j2,j10,h11,hmt,hb,a1,a2,a3]
       exact ⟨(k+1,R0,tr++[m.pc]),by dsimp only;omega,by dsimp only;omega,by simp [htr],hsk.ok,hsk.pc,⟨_,by simp only [go_sem,j0,j1,j2,j10,h11,hmt,hb,a1,a2,a3];rfl,by simp only [go_sem,j0,j1,j2,j10,h11,hmt,hb,a1,a2,a3]⟩,⟨1856,1857,1858,_,_,_,by simp only [go_sem,r1,r2,r3,j0,j1,j2,j10,h11,hmt,hb,a1,a2,a3];try rfl,by simp only [go_sem,j0,j1,j2,j10,h11,hmt,hb,a1,a2,a3],by simp only [go_sem,j0,j1,j2,j10,h11,hmt,hb,a1,a2,a3],by simp only [go_sem,j0,j1,j2,j10,h11,hmt,hb,a1,a2,a3],.inr ⟨rfl,rfl,rfl⟩⟩,hrun⟩
   · simp only [go_sem,e1,hb1,ap,tk,htr,l1,l2,l3,tk_I,tk_B,j0,j1,j2,j10,h11,hmt,hb,a1,a2,a3]
     refine coW_of hst rfl noRsL_pM ?_
     cases h0:(R1 == 0) with
     | false =>
      have h1:(R1 != 0)=true:=by rw [bne,h0];rfl
      rw [h0] at hrun
      simp only [go_sem,h1,List.length_append,List.length_singleton,htr,tkr,j0,j1,j2,j10,h11,hmt,hb,a1,a2,a3]
      rw [hrun]
      rfl
     | true =>
      have h1:(R1 != 0)=false:=by rw [bne,h0];rfl
      rw [h0] at hrun
      cases R2 with
      | true =>
       have c6:((6:Nat):Int)=6:=rfl
       have hg:R0.regs[0]? = some (R0.regs.getD 0 0):=getD_some (by have:=rl.regs;omega)
       simp only [go_sem,h1,List.length_append,List.length_singleton,htr,tkr,r1,r2,r3,hg,c6,j0,j1,j2,j10,h11,hmt,hb,a1,a2,a3]
       rw [hrun]
       rfl
      | false =>
       simp only [go_sem,h1,j0,j1,j2,j10,h11,hmt,hb,a1,a2,a3]
       exact ⟨(k+1,R0,tr++[m.pc]),by dsimp only;omega,by dsimp only;omega,by simp [htr],hsk.ok,hsk.pc,⟨_,by simp only [go_sem,j0,j1,j2,j10,h11,hmt,hb,a1,a2,a3];rfl,by simp only [go_sem,j0,j1,j2,j10,h11,hmt,hb,a1,a2,a3]⟩,⟨1856,1857,1858,_,_,_,by simp only [go_sem,r1,r2,r3,j0,j1,j2,j10,h11,hmt,hb,a1,a2,a3];try rfl,by simp only [go_sem,j0,j1,j2,j10,h11,hmt,hb,a1,a2,a3],by simp only [go_sem,j0,j1,j2,j10,h11,hmt,hb,a1,a2,a3],by simp only [go_sem,j0,j1,j2,j10,h11,hmt,hb,a1,a2,a3],.inr ⟨rfl,rfl,rfl⟩⟩,hrun⟩
 · obtain rfl:k=fuel:=by omega
   have e1:((k:Int) == (k:Int))=true:=beq_self_eq_true _
   have tk:(tr.map Ii).take k=tr.map Ii:=List.take_of_length_le (by simp [htr])
   rw [Nat.sub_self] at hrun
   rcases hn with ⟨rfl,rfl,rfl⟩|⟨rfl,rfl,rfl⟩
   · simp only [go_sem,e1,tk,htr,j0,j1,j2,j10,h11,hmt,hb,a1,a2,a3]
     rw [hrun]
     rfl
   · simp only [go_sem,e1,tk,htr,j0,j1,j2,j10,h11,hmt,hb,a1,a2,a3]
     rw [hrun]
     rfl
theorem stepAt_fault {p:List StepD} {ctx:List Int} {m:MachD}:(stepAt p ctx m).2.1=0∨(stepAt p ctx m).2.1 > 0:=by
 unfold stepAt
 split
 · exact step_fault
 · exact .inl rfl
theorem spec_l3Run.fc (p:List StepD) (ctx:List Int) (fuel:Nat) (hf:fuel≤100) (hp:ProgOk p) (hc:CtxOk ctx) :
 FCt prog F_spec_l3Run [.ro,.ro,.ro] [steps p,ints ctx,Ii fuel] (runD (runP p ctx fuel)) []:=by
 refine fct_run spec_l3Run.ok rfl ?_
 simp only [go_sem]
 refine fcW_bd spec_NewMachine.fc noRs_Machine ?_
 have nl:=newM_ok.len
 simp only [go_sem,nl.regs,nl.cells,nl.isset]
 refine R_loop (α:=Nat×MachD×List Int) (fun a s' M'=>a.1≤fuel∧s' 2=aI ((fuel - a.1:Nat):Int)∧a.2.2.length=a.1∧MachOk a.2.1∧a.2.1.pc < p.length∧(∃ v,s' 11=.sl 960 v 0 a.1 1∧M'.m 960=some (.arr v true 1 (a.2.2.map Ii))) ∧
  (∃ n1 n2 n3 v1 v2 v3,M'.m 384=some (.box 320 (.agg [aI a.2.1.pc,.sl n1 v1 0 6 1,.sl n2 v2 0 16 1,.sl n3 v3 0 16 1]))∧M'.m n1=some (.arr v1 true 1 (a.2.1.regs.map Ii))∧M'.m n2=some (.arr v2 true 1 (a.2.1.cells.map Ii))∧M'.m n3=some (.arr v3 true 1 (a.2.1.isset.map Bb)) ∧
   ((n1=320∧n2=321∧n3=322)∨(n1=1280∧n2=1281∧n3=1282))) ∧
  runP p ctx fuel=runF p ctx (fuel - a.1) a.2.1 a.2.2) (fun a=>fuel - a.1) (0,newM,[])
  ⟨by dsimp only;omega,by simp only [go_sem];rfl,rfl,newM_ok,by show (0:Int) < _;have:=hp.len.1;omega,⟨_,by simp only [go_sem];rfl,by simp only [go_sem];try rfl⟩,⟨320,321,322,_,_,_,by simp only [go_sem,nl.regs,nl.cells,nl.isset];try rfl,by simp only [go_sem],by simp only [go_sem],by simp only [go_sem],.inl ⟨rfl,rfl,rfl⟩⟩,rfl⟩ ?_
 rintro ⟨k,m,tr⟩ s' M' ⟨hk,hq2,htr,hm,hpc,⟨v,h11,hmt⟩,⟨n1,n2,n3,v1,v2,v3,hb,a1,a2,a3,hn⟩,hrun⟩ ho
 dsimp only at hk hq2 htr hm hpc h11 hmt hb a1 a2 a3 hrun
 unfold spec_l3Run.b0
 have j0:s' 0=.dat none (steps p):=by rw [ho 0 rfl];simp only [go_sem]
 have j1:s' 1=.dat none (ints ctx):=by rw [ho 1 rfl];simp only [go_sem]
 have j10:s' 10=.ptr 384 320 0 none:=by rw [ho 10 rfl];simp only [go_sem]
 clear ho
 have ml:=hm.len
 have l1:=ml.regs
 have l2:=ml.cells
 have l3:=ml.isset
 have hst:=stepAt_fs hp hc hm hpc
 have hsk:=step_keeps hp hc hm hpc
 by_cases hlt:k < fuel
 · have e1:((fuel - k:Nat):Int) > 0:=by omega
   have e2:IntKind.i64.wrap (((fuel - k:Nat):Int) - 1)=((fuel - (k+1):Nat):Int):=by rw [wrap_in (by omega) (by omega)];omega
   have hb1:(k+1) * 8≤70368744177664:=by omega
   have ap:tr.map Ii++[Ii m.pc]=(tr++[m.pc]).map Ii:=map_snoc
   have tk:(tr.map Ii).take k=tr.map Ii:=List.take_of_length_le (by simp [htr])
   have hf2:fuel - k=(fuel - (k+1))+1:=by omega
   rw [hf2] at hrun
   unfold runF at hrun
   have hfz:=stepAt_fault (p:=p) (ctx:=ctx) (m:=m)
   generalize stepAt p ctx m=R at hst hsk hrun hfz
   obtain ⟨R0,R1,R2⟩:=R
   dsimp only at hst hrun hfz
   have rl:=hsk.ok.len
   have r1:=rl.regs
   have r2:=rl.cells
   have r3:=rl.isset
   dsimp only at r1 r2 r3
   have tkr:((tr++[m.pc]).map Ii).take (k+1)=(tr++[m.pc]).map Ii:=List.take_of_length_le (by simp [htr])
   rcases hn with ⟨rfl,rfl,rfl⟩|⟨rfl,rfl,rfl⟩
   · simp only [go_sem,e1,e2,hb1,ap,tk,htr,l1,l2,l3,tk_I,tk_B,j0,j1,j10,hq2,h11,hmt,hb,a1,a2,a3]
     refine coW_of hst (noRs_t3 noRs_Machine rfl rfl) rfl ?_
     cases h0:(R1 == 0) with
     | false =>
      have h1:R1 > 0:=by rcases hfz with q|q;rw [q] at h0;cases h0;exact q
      rw [h0] at hrun
      simp only [go_sem,h1,List.length_append,List.length_singleton,htr,tkr,j0,j1,j10,hq2,h11,hmt,hb,a1,a2,a3]
      rw [hrun]
      rfl
     | true =>
      have h1 : ¬ R1 > 0 := by have : R1 = 0 := by simpa using h0
                               omega
      rw [h0] at hrun
      cases R2 with
      | true =>
       have c6:((6:Nat):Int)=6:=rfl
       have hg:R0.regs[0]? = some (R0.regs.getD 0 0):=getD_some (by have:=rl.regs;omega)
       simp only [go_sem,h1,List.length_append,List.length_singleton,htr,tkr,r1,r2,r3,hg,c6,j0,j1,j10,hq2,h11,hmt,hb,a1,a2,a3]
       rw [hrun]
       rfl
      | false =>
       simp only [go_sem,h1,j0,j1,j10,hq2,h11,hmt,hb,a1,a2,a3]
       exact ⟨(k+1,R0,tr++[m.pc]),by dsimp only;omega,by dsimp only;omega,by simp only [go_sem,e2,j0,j1,j10,hq2,h11,hmt,hb,a1,a2,a3],by simp [htr],hsk.ok,hsk.pc,⟨_,by simp only [go_sem,j0,j1,j10,hq2,h11,hmt,hb,a1,a2,a3];rfl,by simp only [go_sem,j0,j1,j10,hq2,h11,hmt,hb,a1,a2,a3]⟩,⟨1280,1281,1282,_,_,_,by simp only [go_sem,r1,r2,r3,j0,j1,j10,hq2,h11,hmt,hb,a1,a2,a3];try rfl,by simp only [go_sem,j0,j1,j10,hq2,h11,hmt,hb,a1,a2,a3],by simp only [go_sem,j0,j1,j10,hq2,h11,hmt,hb,a1,a2,a3],by simp only [go_sem,j0,j1,j10,hq2,h11,hmt,hb,a1,a2,a3],.inr ⟨rfl,rfl,rfl⟩⟩,hrun⟩
   · simp only [go_sem,e1,e2,hb1,ap,tk,htr,l1,l2,l3,tk_I,tk_B,j0,j1,j10,hq2,h11,hmt,hb,a1,a2,a3]
     refine coW_of hst (noRs_t3 noRs_Machine rfl rfl) rfl ?_
     cases h0:(R1 == 0) with
     | false =>
      have h1:R1 > 0:=by rcases hfz with q|q;rw [q] at h0;cases h0;exact q
      rw [h0] at hrun
      simp only [go_sem,h1,List.length_append,List.length_singleton,htr,tkr,j0,j1,j10,hq2,h11,hmt,hb,a1,a2,a3]
      rw [hrun]
      rfl
     | true =>
      have h1 : ¬ R1 > 0 := by have : R1 = 0 := by simpa using h0
                               omega
      rw [h0] at hrun
      cases R2 with
      | true =>
       have c6:((6:Nat):Int)=6:=rfl
       have hg:R0.regs[0]? = some (R0.regs.getD 0 0):=getD_some (by have:=rl.regs;omega)
       simp only [go_sem,h1,List.length_append,List.length_singleton,htr,tkr,r1,r2,r3,hg,c6,j0,j1,j10,hq2,h11,hmt,hb,a1,a2,a3]
       rw [hrun]
       rfl
      | false =>
       simp only [go_sem,h1,j0,j1,j10,hq2,h11,hmt,hb,a1,a2,a3]
       exact ⟨(k+1,R0,tr++[m.pc]),by dsimp only;omega,by dsimp only;omega,by simp only [go_sem,e2,j0,j1,j10,hq2,h11,hmt,hb,a1,a2,a3],by simp [htr],hsk.ok,hsk.pc,⟨_,by simp only [go_sem,j0,j1,j10,hq2,h11,hmt,hb,a1,a2,a3];rfl,by simp only [go_sem,j0,j1,j10,hq2,h11,hmt,hb,a1,a2,a3]⟩,⟨1280,1281,1282,_,_,_,by simp only [go_sem,r1,r2,r3,j0,j1,j10,hq2,h11,hmt,hb,a1,a2,a3];try rfl,by simp only [go_sem,j0,j1,j10,hq2,h11,hmt,hb,a1,a2,a3],by simp only [go_sem,j0,j1,j10,hq2,h11,hmt,hb,a1,a2,a3],by simp only [go_sem,j0,j1,j10,hq2,h11,hmt,hb,a1,a2,a3],.inr ⟨rfl,rfl,rfl⟩⟩,hrun⟩
 · obtain rfl:k=fuel:=by omega
   have e1:¬ ((k - k:Nat):Int) > 0:=by omega
   have tk:(tr.map Ii).take k=tr.map Ii:=List.take_of_length_le (by simp [htr])
   rw [Nat.sub_self] at hrun
   rcases hn with ⟨rfl,rfl,rfl⟩|⟨rfl,rfl,rfl⟩
   · simp only [go_sem,e1,tk,htr,j0,j1,j10,hq2,h11,hmt,hb,a1,a2,a3]
     rw [hrun]
     rfl
   · simp only [go_sem,e1,tk,htr,j0,j1,j10,hq2,h11,hmt,hb,a1,a2,a3]
     rw [hrun]
     rfl
theorem noRs_run {r:Int×Int×Int×List Int}:noRs (runD r)=true:=noRs_t4 rfl rfl rfl noRs_ints
theorem runF_fault {p:List StepD} {ctx:List Int}:∀ {n:Nat} {m:MachD} {tr:List Int},(runF p ctx n m tr).2.1=0∨(runF p ctx n m tr).2.1 > 0
 | 0,m,tr=>.inr (by show (4:Int) > 0;decide)
 | n+1,m,tr=>by
  unfold runF
  split
  · split
    · exact .inl rfl
    · exact runF_fault
  · rename_i h
    rcases stepAt_fault (p:=p) (ctx:=ctx) (m:=m) with q|q
    · rw [q] at h;exact absurd rfl h
    · exact .inr q
structure WayD where
 steps:List Int
 turns:List Bool
 deriving DecidableEq
abbrev WayD.d (x:WayD):D:=.agg [ints x.steps,bools x.turns]
theorem noRs_Way {x:WayD}:noRs (WayD.d x)=true:=noRs_agg fun d hd=>by
 rcases List.mem_cons.1 hd with rfl|hd
 · exact noRs_ints
 rcases List.mem_cons.1 hd with rfl|hd
 · exact noRs_bools
 cases hd
def wWay (x:WayD):Nat:=x.steps.length+x.turns.length
def brB (s:StepD):Bool:=s.kind == 9||s.kind == 10
theorem impl_Step_branches.fc (s:StepD):FCt prog F_impl_Step_branches [.ro] [s.d] (Bb (brB s)) []:=by
 refine fct_run impl_Step_branches.ok rfl ?_
 unfold brB
 repeat' (first|with_reducible rfl|with_reducible refine cdW_dec (fun _=>?_) (fun _=>?_)|refine cdW_not (fun _=>?_) (fun _=>?_)|refine cdW_any (fun _=>?_) (fun _=>?_)|with_reducible refine gdW_decT (fun _=>?_) (fun _=>?_)|with_reducible refine gdW_decF (fun _=>?_) (fun _=>?_)|refine gdW_not (fun _=>?_) (fun _=>?_)|refine gdW_any (fun _=>?_) (fun _=>?_)|simp only [go_sem,bne,iQ,iB,iX,Int.reduceLE,iN,iA,iS,iM, *]|rfl)
theorem spec_l14Branch.fc (s:StepD):FCt prog F_spec_l14Branch [.ro] [s.d] (Bb (brB s)) []:=by
 refine fct_run spec_l14Branch.ok rfl ?_
 unfold brB
 repeat' (first|with_reducible rfl|with_reducible refine cdW_dec (fun _=>?_) (fun _=>?_)|refine cdW_not (fun _=>?_) (fun _=>?_)|refine cdW_any (fun _=>?_) (fun _=>?_)|with_reducible refine gdW_decT (fun _=>?_) (fun _=>?_)|with_reducible refine gdW_decF (fun _=>?_) (fun _=>?_)|refine gdW_not (fun _=>?_) (fun _=>?_)|refine gdW_any (fun _=>?_) (fun _=>?_)|simp only [go_sem,bne,iQ,iB,iX,Int.reduceLE,iN,iA,iS,iM, *]|rfl)
def turnAt (p:List StepD) (l:List Int) (i:Nat):List Bool:=match l[i]?,l[i+1]? with
 | some a,some b=>(match p[a.toNat]? with|some s=>if brB s then [b == a+s.to+1] else []|none=>[])
 | _,_=>[]
def turnsN (p:List StepD) (l:List Int) (n:Nat):List Bool:=(List.range n).flatMap (turnAt p l)
def turnsV (p:List StepD) (l:List Int):List Bool:=turnsN p l l.length
theorem turnsN_succ (p:List StepD) (l:List Int) (n:Nat):turnsN p l (n+1)=turnsN p l n++turnAt p l n:=by
 unfold turnsN;rw [List.range_succ,List.flatMap_append];simp
theorem turnAt_len (p:List StepD) (l:List Int) (i:Nat):(turnAt p l i).length≤1:=by
 unfold turnAt;repeat' split
 all_goals simp
theorem turnsN_len (p:List StepD) (l:List Int):∀ n,(turnsN p l n).length≤n
 | 0=>by simp [turnsN]
 | n+1=>by rw [turnsN_succ,List.length_append];have:=turnsN_len p l n;have:=turnAt_len p l n;omega
def InP (p:List StepD) (l:List Int):Prop:=∀ a∈l,0≤a∧a < p.length
theorem impl_turnsOf.fc (p:List StepD) (l:List Int) (hp:ProgOk p) (hl:InP p l) (hll:l.length≤4194304):FCt prog F_impl_turnsOf [.ro,.ro] [steps p,ints l] (bools (turnsV p l)) []:=by
 refine fct_run impl_turnsOf.ok rfl ?_
 simp only [go_sem]
 refine R_loop (α:=Nat) (fun k s' M'=>k≤l.length∧s' 10=aI k∧∃ v,s' 5=.sl 2560 v 0 (turnsN p l k).length 1∧M'.m 2560=some (.arr v true 1 ((turnsN p l k).map Bb))) (fun k=>l.length - k) 0
  ⟨by omega,by simp only [go_sem];rfl,_,by simp only [go_sem];rfl,by simp only [go_sem];rfl⟩ ?_
 rintro k s' M' ⟨hk,h10,v,h5,hm⟩ ho
 unfold impl_turnsOf.b0
 have j0:s' 0=.dat none (steps p):=by rw [ho 0 rfl];simp only [go_sem]
 have j1:s' 1=.dat none (ints l):=by rw [ho 1 rfl];simp only [go_sem]
 have j8:s' 8=.dat none (ints l):=by rw [ho 8 rfl];simp only [go_sem]
 have j9:s' 9=aI l.length:=by rw [ho 9 rfl];simp only [go_sem]
 clear ho
 have tl:=turnsN_len p l k
 have sc:=turnsN_succ p l k
 generalize hT:turnsN p l k=T at h5 hm tl sc
 by_cases hlt:k < l.length
 · have hi':(k:Int) < l.length:=by omega
   have ga:l[k]? = some l[k]:=List.getElem?_eq_getElem hlt
   have hw:IntKind.i64.wrap (k+1)=((k+1:Nat):Int):=wrap_k hlt (by omega)
   obtain ⟨q0,q1⟩:=hl _ (List.getElem_mem hlt)
   obtain ⟨st,gs,hv⟩:∃ st,p[l[k].toNat]? = some st∧stepB st=true:=⟨_,List.getElem?_eq_getElem (by omega),(hp.all l[k].toNat (by omega)).1⟩
   have ok:=step_ok hv
   have hl20:=hp.len.2
   have hto:=ok.to
   have ta:turnAt p l k=match l[k+1]? with|some b=>if brB st then [b == l[k]+st.to+1] else []|none=>[]:=by
    unfold turnAt;rw [ga];cases l[k+1]? with
    | none=>rfl
    | some b=>dsimp only;rw [gs]
   have w1:IntKind.i64.wrap (l[k]+st.to)=l[k]+st.to:=wrap_in (by omega) (by omega)
   have w2:IntKind.i64.wrap (l[k]+st.to+1)=l[k]+st.to+1:=wrap_in (by omega) (by omega)
   simp only [go_sem,j0,j1,j8,j9,h10,h5,hm,hi',ga,q0,q1,gs,w1,w2]
   refine fcW_bool (impl_Step_branches.fc st) ?_
   cases hb:brB st with
   | false =>
    have e:turnsN p l (k+1)=T:=by
     rw [sc,ta,hb]
     cases l[k+1]?<;>simp
    simp only [go_sem,hw,j0,j1,j8,j9,h10,h5,hm,hi',ga,q0,q1,gs,w1,w2]
    exact ⟨k+1,by dsimp only;omega,by omega,by simp only [go_sem,j0,j1,j8,j9,h10,h5,hm,hi',ga,q0,q1,gs,w1,w2],v,by rw [e];simp only [go_sem,j0,j1,j8,j9,h10,h5,hm,hi',ga,q0,q1,gs,w1,w2],by rw [e];simp only [go_sem,j0,j1,j8,j9,h10,h5,hm,hi',ga,q0,q1,gs,w1,w2]⟩
   | true =>
    by_cases hl2:k+1 < l.length
    · have i2:((k+1:Nat):Int) < l.length:=by omega
      have g2:l[k+1]? = some l[k+1]:=List.getElem?_eq_getElem hl2
      rw [g2,hb] at ta
      dsimp only at ta
      rw [if_pos rfl] at ta
      have e:turnsN p l (k+1)=T++[l[k+1] == l[k]+st.to+1]:=by rw [sc,ta]
      have el:(T++[l[k+1] == l[k]+st.to+1]).length=T.length+1:=by simp
      have hb1:(T.length+1) * 1≤70368744177664:=by omega
      have ap:T.map Bb++[D.bool (l[k+1] == l[k]+st.to+1)]=(T++[l[k+1] == l[k]+st.to+1]).map Bb:=map_snoc
      have tk:(T.map Bb).take T.length=T.map Bb:=List.take_of_length_le (by simp)
      simp only [go_sem,hw,i2,g2,hb1,ap,tk,j0,j1,j8,j9,h10,h5,hm,hi',ga,q0,q1,gs,w1,w2]
      exact ⟨k+1,by dsimp only;omega,by omega,by simp only [go_sem,j0,j1,j8,j9,h10,h5,hm,hi',ga,q0,q1,gs,w1,w2],_,by rw [e,el];simp only [go_sem,j0,j1,j8,j9,h10,h5,hm,hi',ga,q0,q1,gs,w1,w2];rfl,by rw [e];simp only [go_sem,j0,j1,j8,j9,h10,h5,hm,hi',ga,q0,q1,gs,w1,w2]⟩
    · have i2:¬ ((k+1:Nat):Int) < l.length:=by omega
      have e:turnsN p l (k+1)=T:=by
       rw [sc,ta,List.getElem?_eq_none (by omega)];simp
      simp only [go_sem,hw,i2,j0,j1,j8,j9,h10,h5,hm,hi',ga,q0,q1,gs,w1,w2]
      exact ⟨k+1,by dsimp only;omega,by omega,by simp only [go_sem,j0,j1,j8,j9,h10,h5,hm,hi',ga,q0,q1,gs,w1,w2],v,by rw [e];simp only [go_sem,j0,j1,j8,j9,h10,h5,hm,hi',ga,q0,q1,gs,w1,w2],by rw [e];simp only [go_sem,j0,j1,j8,j9,h10,h5,hm,hi',ga,q0,q1,gs,w1,w2]⟩
 · have hi':¬ (k:Int) < l.length:=by omega
   obtain rfl:k=l.length:=by omega
   have tk:(T.map Bb).take T.length=T.map Bb:=List.take_of_length_le (by simp)
   have e:turnsV p l=T:=hT
   rw [e]
   simp only [go_sem,Int.lt_irrefl,tk,j0,j1,j8,j9,h10,h5,hm]
def Cons (p:List StepD) (l:List Int):Prop:=∀ (i:Nat) (a b:Int),l[i]? = some a→l[i+1]? = some b→∃ s,p[a.toNat]? = some s∧(b=a+1∨b=a+s.to+1)
theorem step_next {p:List StepD} {ctx:List Int} {m:MachD} (hpc:m.pc.toNat < p.length) (h0:(stepAt p ctx m).2.1=0) (h1:(stepAt p ctx m).2.2=false) :
 ∃ s,p[m.pc.toNat]? = some s∧((stepAt p ctx m).1.pc=m.pc+1∨(stepAt p ctx m).1.pc=m.pc+s.to+1):=by
 have gs:p[m.pc.toNat]? = some p[m.pc.toNat]:=List.getElem?_eq_getElem hpc
 refine ⟨_,gs,?_⟩
 unfold stepAt at h0 h1 ⊢
 rw [gs] at h0 h1 ⊢
 dsimp only at h0 h1 ⊢
 generalize p[m.pc.toNat]=s at h0 h1 ⊢
 have key:∀ (c:Prop) [Decidable c] (a b:MachD×Int×Bool),(a.2.1=0→a.2.2=false→(a.1.pc=m.pc+1∨a.1.pc=m.pc+s.to+1))→(b.2.1=0→b.2.2=false→(b.1.pc=m.pc+1∨b.1.pc=m.pc+s.to+1)) →
  ((if c then a else b).2.1=0→(if c then a else b).2.2=false→((if c then a else b).1.pc=m.pc+1∨(if c then a else b).1.pc=m.pc+s.to+1)):=by
  intro c _ a b ha hb;split
  · exact ha
  · exact hb
 revert h0 h1
 unfold stepM
 repeat' (first|exact fun _ _=>.inl rfl|exact fun _ _=>.inr rfl|exact fun _ h=>Bool.noConfusion h|exact fun h _=>absurd h (show ¬ (1:Int)=0 by decide)|exact fun h _=>absurd h (show ¬ (2:Int)=0 by decide)|exact fun h _=>absurd h (show ¬ (3:Int)=0 by decide)|apply key)
theorem cons_snoc {p:List StepD} {l:List Int} {a b:Int} {s:StepD} (h:Cons p (l++[a])) (gs:p[a.toNat]? = some s) (hb:b=a+1∨b=a+s.to+1):Cons p ((l++[a])++[b]):=by
 intro i x y hx hy
 by_cases hi:i+1 < (l++[a]).length
 · rw [List.getElem?_append_left (by omega)] at hx
   rw [List.getElem?_append_left hi] at hy
   exact h i x y hx hy
 · by_cases hi2:i+1=(l++[a]).length
   · rw [List.getElem?_append_right (by omega),hi2,Nat.sub_self] at hy
     simp only [List.length_append,List.length_singleton] at hi2
     have e:i=l.length:=by omega
     subst e
     rw [List.getElem?_append_left (by simp),List.getElem?_append_right (Nat.le_refl _),Nat.sub_self] at hx
     simp at hx hy
     subst hx hy
     exact ⟨s,gs,hb⟩
   · rw [List.getElem?_eq_none (by simp at hi hi2 ⊢;omega)] at hy;cases hy
theorem cons_left {p:List StepD} {l r:List Int} (h:Cons p (l++r)):Cons p l:=by
 intro i a b ha hb
 have h1:=(List.getElem?_eq_some_iff.1 ha).1
 have h2:=(List.getElem?_eq_some_iff.1 hb).1
 exact h i a b (by rw [List.getElem?_append_left h1];exact ha) (by rw [List.getElem?_append_left h2];exact hb)
theorem run_trace {p:List StepD} {ctx:List Int} (hp:ProgOk p) (hc:CtxOk ctx):∀ (n:Nat) (m:MachD) (tr:List Int),MachOk m→m.pc < p.length→InP p tr→Cons p (tr++[m.pc]) →
 InP p (runF p ctx n m tr).2.2.2∧Cons p (runF p ctx n m tr).2.2.2∧(runF p ctx n m tr).2.2.2.length≤tr.length+n
 | 0,m,tr,hm,hpc,h1,h2=>⟨h1,cons_left h2,Nat.le_refl _⟩
 | n+1,m,tr,hm,hpc,h1,h2=>by
  have p0:=hm.pc.1
  have hin:InP p (tr++[m.pc]):=fun a ha=>(List.mem_append.1 ha).elim (h1 a) (fun q=>by rw [List.mem_singleton] at q;subst q;exact ⟨p0,hpc⟩)
  have hlen:(tr++[m.pc]).length=tr.length+1:=by simp
  unfold runF
  split
  · rename_i hf
    split
    · exact ⟨hin,h2,by rw [hlen];omega⟩
    · rename_i he
      have hk:=step_keeps hp hc hm hpc
      obtain ⟨s,gs,hn⟩:=step_next (p:=p) (ctx:=ctx) (m:=m) (by omega) (by simpa using hf) (by simpa using he)
      obtain ⟨a1,a2,a3⟩:=run_trace hp hc n (stepAt p ctx m).1 (tr++[m.pc]) hk.ok hk.pc hin (cons_snoc h2 gs hn)
      exact ⟨a1,a2,by rw [hlen] at a3;omega⟩
  · exact ⟨hin,h2,by show (tr++[m.pc]).length≤_;rw [hlen];omega⟩
theorem runP_trace {p:List StepD} {ctx:List Int} (hp:ProgOk p) (hc:CtxOk ctx) (n:Nat):InP p (runP p ctx n).2.2.2∧Cons p (runP p ctx n).2.2.2∧(runP p ctx n).2.2.2.length≤n:=by
 have:=run_trace hp hc n newM [] newM_ok (by show (0:Int) < _;have:=hp.len.1;omega) (by intro a h;cases h) (by intro i a b ha hb;simp [newM] at hb)
 unfold runP
 simpa using this
theorem neq_b {a b:Int} (h:¬ a=b):(a == b)=false:=by rw [beq_eq_false_iff_ne];exact h
def traceV (p:List StepD) (ctx:List Int):List Int×Int×Bool:=if goodP p&&ctxB ctx then ((runP p ctx 100).2.2.2,(runP p ctx 100).2.1,true) else ([],0,false)
def traceD (r:List Int×Int×Bool):D:=.tup [ints r.1,Ii r.2.1,Bb r.2.2]
theorem noRs_trace {l:List Int} {n:Int} {b:Bool}:noRs (.tup [ints l,Ii n,Bb b])=true:=noRs_t3 noRs_ints rfl rfl
theorem impl_TraceOf.fc (p:List StepD) (ctx:List Int) (hp:p.length≤4194304) (hc:ctx.length≤4194304):FCt prog F_impl_TraceOf [.ro,.ro] [steps p,ints ctx] (traceD (traceV p ctx)) []:=by
 refine fct_run impl_TraceOf.ok rfl ?_
 have c1:=impl_GoodProgram.fc p hp
 have c2:=impl_isContext.fc ctx (by omega)
 unfold traceV traceD
 cases h1:goodP p with
 | false=>repeat' (first|with_reducible rfl|refine fcW_bool (c1) ?_|refine fcW_bool (c2) ?_|with_reducible refine cdW_dec (fun _=>?_) (fun _=>?_)|refine cdW_not (fun _=>?_) (fun _=>?_)|refine cdW_any (fun _=>?_) (fun _=>?_)|with_reducible refine gdW_decT (fun _=>?_) (fun _=>?_)|with_reducible refine gdW_decF (fun _=>?_) (fun _=>?_)|refine gdW_not (fun _=>?_) (fun _=>?_)|refine gdW_any (fun _=>?_) (fun _=>?_)|simp only [go_sem,bne,iQ,iB,iX,Int.reduceLE,iN,iA,iS,iM, *]|rfl)
 | true =>
  cases h2:ctxB ctx with
  | false=>repeat' (first|with_reducible rfl|refine fcW_bool (c1) ?_|refine fcW_bool (c2) ?_|with_reducible refine cdW_dec (fun _=>?_) (fun _=>?_)|refine cdW_not (fun _=>?_) (fun _=>?_)|refine cdW_any (fun _=>?_) (fun _=>?_)|with_reducible refine gdW_decT (fun _=>?_) (fun _=>?_)|with_reducible refine gdW_decF (fun _=>?_) (fun _=>?_)|refine gdW_not (fun _=>?_) (fun _=>?_)|refine gdW_any (fun _=>?_) (fun _=>?_)|simp only [go_sem,bne,iQ,iB,iX,Int.reduceLE,iN,iA,iS,iM, *]|rfl)
  | true =>
   have c3:=impl_run.fc p ctx 100 (by omega) (prog_ok h1) (ctx_ok h2)
   rw [show ((100:Nat):Int)=100 from rfl] at c3
   generalize runP p ctx 100=R at c3 ⊢
   unfold runD at c3
   repeat' (first|with_reducible rfl|refine fcW_bool (c1) ?_|refine fcW_bool (c2) ?_|refine fcW_bd (c3) (noRs_run) ?_|with_reducible refine cdW_dec (fun _=>?_) (fun _=>?_)|refine cdW_not (fun _=>?_) (fun _=>?_)|refine cdW_any (fun _=>?_) (fun _=>?_)|with_reducible refine gdW_decT (fun _=>?_) (fun _=>?_)|with_reducible refine gdW_decF (fun _=>?_) (fun _=>?_)|refine gdW_not (fun _=>?_) (fun _=>?_)|refine gdW_any (fun _=>?_) (fun _=>?_)|simp only [go_sem,bne,iQ,iB,iX,Int.reduceLE,iN,iA,iS,iM,take_map_len, *]|rfl)
theorem spec_TraceOf.fc (p:List StepD) (ctx:List Int) (hp:p.length≤4194304) (hc:ctx.length≤4194304):FCt prog F_spec_TraceOf [.ro,.ro] [steps p,ints ctx] (traceD (traceV p ctx)) []:=by
 refine fct_run spec_TraceOf.ok rfl ?_
 have c1:=spec_GoodProgram.fc p hp
 have c2:=spec_l3Ctx.fc ctx (by omega)
 unfold traceV traceD
 cases h1:goodP p with
 | false=>repeat' (first|with_reducible rfl|refine fcW_bool (c1) ?_|refine fcW_bool (c2) ?_|with_reducible refine cdW_dec (fun _=>?_) (fun _=>?_)|refine cdW_not (fun _=>?_) (fun _=>?_)|refine cdW_any (fun _=>?_) (fun _=>?_)|with_reducible refine gdW_decT (fun _=>?_) (fun _=>?_)|with_reducible refine gdW_decF (fun _=>?_) (fun _=>?_)|refine gdW_not (fun _=>?_) (fun _=>?_)|refine gdW_any (fun _=>?_) (fun _=>?_)|simp only [go_sem,bne,iQ,iB,iX,Int.reduceLE,iN,iA,iS,iM, *]|rfl)
 | true =>
  cases h2:ctxB ctx with
  | false=>repeat' (first|with_reducible rfl|refine fcW_bool (c1) ?_|refine fcW_bool (c2) ?_|with_reducible refine cdW_dec (fun _=>?_) (fun _=>?_)|refine cdW_not (fun _=>?_) (fun _=>?_)|refine cdW_any (fun _=>?_) (fun _=>?_)|with_reducible refine gdW_decT (fun _=>?_) (fun _=>?_)|with_reducible refine gdW_decF (fun _=>?_) (fun _=>?_)|refine gdW_not (fun _=>?_) (fun _=>?_)|refine gdW_any (fun _=>?_) (fun _=>?_)|simp only [go_sem,bne,iQ,iB,iX,Int.reduceLE,iN,iA,iS,iM, *]|rfl)
  | true =>
   have c3:=spec_l3Run.fc p ctx 100 (by omega) (prog_ok h1) (ctx_ok h2)
   rw [show ((100:Nat):Int)=100 from rfl] at c3
   generalize runP p ctx 100=R at c3 ⊢
   unfold runD at c3
   repeat' (first|with_reducible rfl|refine fcW_bool (c1) ?_|refine fcW_bool (c2) ?_|refine fcW_bd (c3) (noRs_run) ?_|with_reducible refine cdW_dec (fun _=>?_) (fun _=>?_)|refine cdW_not (fun _=>?_) (fun _=>?_)|refine cdW_any (fun _=>?_) (fun _=>?_)|with_reducible refine gdW_decT (fun _=>?_) (fun _=>?_)|with_reducible refine gdW_decF (fun _=>?_) (fun _=>?_)|refine gdW_not (fun _=>?_) (fun _=>?_)|refine gdW_any (fun _=>?_) (fun _=>?_)|simp only [go_sem,bne,iQ,iB,iX,Int.reduceLE,iN,iA,iS,iM,take_map_len, *]|rfl)
def wayV (p:List StepD) (ctx:List Int):WayD×Bool:=if (traceV p ctx).2.2&&((traceV p ctx).2.1 == 0) then (⟨(traceV p ctx).1,turnsV p (traceV p ctx).1⟩,true) else (⟨[],[]⟩,false)
structure TrOk (p:List StepD) (l:List Int):Prop where
 prog:ProgOk p
 inp:InP p l
 cons:Cons p l
 len:l.length≤100
theorem trace_ok {p:List StepD} {ctx:List Int} (h:(traceV p ctx).2.2=true):TrOk p (traceV p ctx).1:=by
 unfold traceV at h ⊢
 split at h
 · rename_i hg
   rw [if_pos hg]
   rw [Bool.and_eq_true] at hg
   obtain ⟨h1,h2,h3⟩:=runP_trace (prog_ok hg.1) (ctx_ok hg.2) 100
   exact ⟨prog_ok hg.1,h1,h2,h3⟩
 · cases h
theorem trace_fault {p:List StepD} {ctx:List Int}:(traceV p ctx).2.1=0∨(traceV p ctx).2.1 > 0:=by
 unfold traceV
 split
 · exact runF_fault
 · exact .inl rfl
theorem impl_WayOf.fc (p:List StepD) (ctx:List Int) (hp:p.length≤4194304) (hc:ctx.length≤4194304):FCt prog F_impl_WayOf [.ro,.ro] [steps p,ints ctx] (.tup [(wayV p ctx).1.d,Bb (wayV p ctx).2]) []:=by
 refine fct_run impl_WayOf.ok rfl ?_
 have c1:=impl_TraceOf.fc p ctx hp hc
 have hok:=trace_ok (p:=p) (ctx:=ctx)
 unfold wayV
 generalize traceV p ctx=R at c1 hok ⊢
 obtain ⟨R0,R1,R2⟩:=R
 unfold traceD at c1
 dsimp only at c1 hok ⊢
 cases R2 with
 | false=>repeat' (first|with_reducible rfl|refine fcW_bd (c1) (noRs_trace) ?_|with_reducible refine cdW_dec (fun _=>?_) (fun _=>?_)|refine cdW_not (fun _=>?_) (fun _=>?_)|refine cdW_any (fun _=>?_) (fun _=>?_)|with_reducible refine gdW_decT (fun _=>?_) (fun _=>?_)|with_reducible refine gdW_decF (fun _=>?_) (fun _=>?_)|refine gdW_not (fun _=>?_) (fun _=>?_)|refine gdW_any (fun _=>?_) (fun _=>?_)|simp only [go_sem,bne,iQ,iB,iX,Int.reduceLE,iN,iA,iS,iM, *]|rfl)
 | true =>
  have ok:=hok rfl
  have c2:=impl_turnsOf.fc p R0 ok.prog ok.inp (by have:=ok.len;omega)
  clear hok
  cases h0:(R1 == 0) with
  | false =>
   repeat' (first|with_reducible rfl|refine fcW_bd (c1) (noRs_trace) ?_|with_reducible refine cdW_dec (fun _=>?_) (fun _=>?_)|refine cdW_not (fun _=>?_) (fun _=>?_)|refine cdW_any (fun _=>?_) (fun _=>?_)|with_reducible refine gdW_decT (fun _=>?_) (fun _=>?_)|with_reducible refine gdW_decF (fun _=>?_) (fun _=>?_)|refine gdW_not (fun _=>?_) (fun _=>?_)|refine gdW_any (fun _=>?_) (fun _=>?_)|simp only [go_sem,bne,iQ,iB,iX,Int.reduceLE,iN,iA,iS,iM, *]|rfl)
  | true =>
   repeat' (first|with_reducible rfl|refine fcW_bd (c1) (noRs_trace) ?_|refine fcW_bd (c2) (noRs_bools) ?_|with_reducible refine cdW_dec (fun _=>?_) (fun _=>?_)|refine cdW_not (fun _=>?_) (fun _=>?_)|refine cdW_any (fun _=>?_) (fun _=>?_)|with_reducible refine gdW_decT (fun _=>?_) (fun _=>?_)|with_reducible refine gdW_decF (fun _=>?_) (fun _=>?_)|refine gdW_not (fun _=>?_) (fun _=>?_)|refine gdW_any (fun _=>?_) (fun _=>?_)|simp only [go_sem,bne,iQ,iB,iX,Int.reduceLE,iN,iA,iS,iM,take_map_len, *]|rfl)
theorem turnAt_last {p:List StepD} {l:List Int} {i:Nat} (h:l.length≤i+1):turnAt p l i=[]:=by
 unfold turnAt
 rw [List.getElem?_eq_none (l:=l) (i:=i+1) h]
 cases l[i]?<;>rfl
theorem turns_pred {p:List StepD} {l:List Int}:turnsV p l=turnsN p l (l.length - 1):=by
 unfold turnsV
 cases h:l.length with
 | zero=>rfl
 | succ n=>rw [turnsN_succ,turnAt_last (by omega),List.append_nil];rfl
theorem spec_WayOf.fc (p:List StepD) (ctx:List Int) (hp:p.length≤4194304) (hc:ctx.length≤4194304):FCt prog F_spec_WayOf [.ro,.ro] [steps p,ints ctx] (.tup [(wayV p ctx).1.d,Bb (wayV p ctx).2]) []:=by
 refine fct_run spec_WayOf.ok rfl ?_
 have c1:=spec_TraceOf.fc p ctx hp hc
 have hok:=trace_ok (p:=p) (ctx:=ctx)
 have hfz:=trace_fault (p:=p) (ctx:=ctx)
 unfold wayV
 generalize traceV p ctx=R at c1 hok hfz ⊢
 obtain ⟨l,R1,R2⟩:=R
 unfold traceD at c1
 dsimp only at c1 hok hfz ⊢
 cases R2 with
 | false =>
  clear hfz
  repeat' (first|with_reducible rfl|refine fcW_bd (c1) (noRs_trace) ?_|with_reducible refine cdW_dec (fun _=>?_) (fun _=>?_)|refine cdW_not (fun _=>?_) (fun _=>?_)|refine cdW_any (fun _=>?_) (fun _=>?_)|with_reducible refine gdW_decT (fun _=>?_) (fun _=>?_)|with_reducible refine gdW_decF (fun _=>?_) (fun _=>?_)|refine gdW_not (fun _=>?_) (fun _=>?_)|refine gdW_any (fun _=>?_) (fun _=>?_)|simp only [go_sem,bne,iQ,iB,iX,Int.reduceLE,iN,iA,iS,iM, *]|rfl)
 | true =>
  have ok:=hok rfl
  clear hok
  rcases hfz with h0|h0
  case inr =>
   have h1:(R1 == 0)=false:=by rw [beq_eq_false_iff_ne];omega
   repeat' (first|with_reducible rfl|refine fcW_bd (c1) (noRs_trace) ?_|with_reducible refine cdW_dec (fun _=>?_) (fun _=>?_)|refine cdW_not (fun _=>?_) (fun _=>?_)|refine cdW_any (fun _=>?_) (fun _=>?_)|with_reducible refine gdW_decT (fun _=>?_) (fun _=>?_)|with_reducible refine gdW_decF (fun _=>?_) (fun _=>?_)|refine gdW_not (fun _=>?_) (fun _=>?_)|refine gdW_any (fun _=>?_) (fun _=>?_)|simp only [go_sem,bne,iQ,iB,iX,Int.reduceLE,iN,iA,iS,iM, *]|rfl)
  subst h0
  rw [turns_pred]
  simp only [go_sem]
  refine fcW_bd c1 noRs_trace ?_
  simp only [go_sem,gt_iff_lt,Int.lt_irrefl]
  refine R_loop (α:=Nat) (fun k s' M'=>(k+1≤l.length∨k=0)∧s' 10=aI ((k+1:Nat):Int)∧M'.m 320=some (.arr 256 true 1 (l.map Ii))∧M'.m 64=some (.box 0 (.agg [.nil 1,.nil 1]))∧∃ x w,M'.m 1536=some (.box w (.agg [.sl 320 256 0 l.length 1,x]))∧s' 9=.ptr 1536 w 0 none∧RowAt x M' 3456 1 ((turnsN p l k).map Bb)) (fun k=>l.length - k) 0
   ⟨.inr rfl,by simp only [go_sem];rfl,by simp only [go_sem],by simp only [go_sem],.nil 1,_,by simp only [go_sem];rfl,by simp only [go_sem],RowAt.nil⟩ ?_
  rintro k s' M' ⟨hk,h10,hm,hm64,x,w,hb,h9,hrow⟩ ho
  unfold spec_WayOf.b0
  have j0:s' 0=.dat none (steps p):=by rw [ho 0 rfl];simp only [go_sem]
  have j4:s' 4=.ptr 64 0 0 none:=by rw [ho 4 rfl];simp only [go_sem]
  have j6:s' 6=.sl 320 256 0 l.length 1:=by rw [ho 6 rfl];simp only [go_sem]
  clear ho
  have tl:=turnsN_len p l k
  have sc:=turnsN_succ p l k
  by_cases hlt:k+1 < l.length
  · have hi':((k+1:Nat):Int) < l.length:=by omega
    have w0:IntKind.i64.wrap (((k+1:Nat):Int) - 1)=(k:Int):=by rw [wrap_in (by have:=ok.len;omega) (by have:=ok.len;omega)];omega
    have hw:IntKind.i64.wrap (((k+1:Nat):Int)+1)=((k+1+1:Nat):Int):=by rw [wrap_in (by have:=ok.len;omega) (by have:=ok.len;omega)];omega
    have ga:l[k]? = some l[k]:=List.getElem?_eq_getElem (by omega)
    have gb:l[k+1]? = some l[k+1]:=List.getElem?_eq_getElem hlt
    have i0:(k:Int) < l.length:=by omega
    obtain ⟨q0,q1⟩:=ok.inp _ (List.getElem_mem (show k < l.length by omega))
    obtain ⟨st,gs,hv⟩:∃ st,p[l[k].toNat]? = some st∧stepB st=true:=⟨_,List.getElem?_eq_getElem (by omega),(ok.prog.all l[k].toNat (by omega)).1⟩
    obtain ⟨st',gs',hn⟩:=ok.cons k _ _ ga gb
    rw [gs] at gs'
    cases gs'
    have sok:=step_ok hv
    have hto:=sok.to
    have hj:=sok.jmp
    have hl20:=ok.prog.len.2
    have w1:IntKind.i64.wrap (l[k]+1)=l[k]+1:=wrap_in (by omega) (by omega)
    have ta:turnAt p l k=if brB st then [l[k+1] == l[k]+st.to+1] else []:=by unfold turnAt;rw [ga,gb];dsimp only;rw [gs]
    simp only [go_sem,hi',w0,ga,i0,q0,q1,gs,j0,j4,j6,h10,hm,hm64,hb,h9]
    refine fcW_bool (spec_l14Branch.fc st) ?_
    cases hbr:brB st with
    | false =>
     rw [hbr] at ta
     have e:turnsN p l (k+1)=turnsN p l k:=by rw [sc,ta];simp
     simp only [go_sem,hw,j0,j4,j6,h10,hm,hm64,hb,h9]
     exact ⟨k+1,by dsimp only;omega,.inl (by omega),by simp only [go_sem,j0,j4,j6,h10,hm,hm64,hb,h9],by simp only [go_sem,j0,j4,j6,h10,hm,hm64,hb,h9],by simp only [go_sem,j0,j4,j6,h10,hm,hm64,hb,h9],x,w,by simp only [go_sem,j0,j4,j6,h10,hm,hm64,hb,h9],by simp only [go_sem,j0,j4,j6,h10,hm,hm64,hb,h9],by rw [e];exact hrow⟩
    | true =>
     rw [hbr,if_pos rfl] at ta
     have hgt:st.to > 0:=hj.2 (by unfold brB at hbr;simp at hbr;omega)
     have eqv:(l[k+1] != l[k]+1)=(l[k+1] == l[k]+st.to+1):=by
      rcases hn with hn|hn
      · rw [hn,bne_self_eq_false];exact (neq_b (by omega)).symm
      · rw [hn,beq_self_eq_true,bne,neq_b (by omega)];rfl
     have e:turnsN p l (k+1)=turnsN p l k++[l[k+1] == l[k]+st.to+1]:=by rw [sc,ta]
     rw [← eqv] at e
     generalize turnsN p l k=T at hrow tl e
     have el:(T++[l[k+1] != l[k]+1]).length=T.length+1:=by simp
     have hb1:(T.length+1) * 1≤70368744177664:=by have:=ok.len;omega
     have ap:T.map Bb++[D.bool (l[k+1] != l[k]+1)]=(T++[l[k+1] != l[k]+1]).map Bb:=map_snoc
     have tk:(T.map Bb).take T.length=T.map Bb:=List.take_of_length_le (by simp)
     rcases hrow with ⟨hT,rfl⟩|⟨v,rfl,hmv⟩
     · obtain rfl:T=[]:=by cases T with|nil=>rfl|cons a l=>cases hT
       simp only [go_sem,hi',w0,w1,ga,gb,i0,hw,j0,j4,j6,h10,hm,hm64,hb,h9]
       exact ⟨k+1,by dsimp only;omega,.inl (by omega),by simp only [go_sem,j0,j4,j6,h10,hm,hm64,hb,h9],by simp only [go_sem,j0,j4,j6,h10,hm,hm64,hb,h9],by simp only [go_sem,j0,j4,j6,h10,hm,hm64,hb,h9],_,w,by simp only [go_sem,j0,j4,j6,h10,hm,hm64,hb,h9];rfl,by simp only [go_sem,j0,j4,j6,h10,hm,hm64,hb,h9],by rw [e];exact RowAt.sl (v:=_) rfl (by simp) (by simp only [go_sem,j0,j4,j6,h10,hm,hm64,hb,h9];try rfl)⟩
     · rw [List.length_map] at hb
       simp only [go_sem,hi',w0,w1,ga,gb,i0,hw,hmv,hb1,ap,tk,j0,j4,j6,h10,hm,hm64,hb,h9]
       exact ⟨k+1,by dsimp only;omega,.inl (by omega),by simp only [go_sem,j0,j4,j6,h10,hm,hm64,hb,h9],by simp only [go_sem,j0,j4,j6,h10,hm,hm64,hb,h9],by simp only [go_sem,j0,j4,j6,h10,hm,hm64,hb,h9],_,w,by simp only [go_sem,j0,j4,j6,h10,hm,hm64,hb,h9];rfl,by simp only [go_sem,j0,j4,j6,h10,hm,hm64,hb,h9],by rw [e];exact RowAt.sl (v:=_) rfl (by simp) (by simp only [go_sem,j0,j4,j6,h10,hm,hm64,hb,h9];try rfl)⟩
  · have hi':¬ ((k+1:Nat):Int) < l.length:=by omega
    have hkl:l.length - 1=k:=by omega
    rw [hkl]
    rcases hrow with ⟨hT,rfl⟩|⟨v,rfl,hmv⟩
    · have:turnsN p l k=[]:=by cases h:turnsN p l k with|nil=>rfl|cons a b=>rw [h] at hT;cases hT
      rw [this]
      simp only [go_sem,hi',take_map_len,j0,j4,j6,h10,hm,hm64,hb,h9]
      try rfl
    · simp only [go_sem,hi',hmv,take_map_len,j0,j4,j6,h10,hm,hm64,hb,h9]
      try rfl
theorem wayV_w (p:List StepD) (ctx:List Int):wWay (wayV p ctx).1≤1048576:=by
 unfold wayV
 split
 · rename_i h
   rw [Bool.and_eq_true] at h
   have ok:=trace_ok h.1
   have h1:=ok.len
   have h2:=turnsN_len p (traceV p ctx).1 (traceV p ctx).1.length
   unfold wWay
   show (traceV p ctx).1.length+(turnsV p (traceV p ctx).1).length≤_
   unfold turnsV
   omega
 · decide
def stepK (p:List StepD) (a:Int):Option StepD:=if 0≤a then p[a.toNat]? else none
def goW (p:List StepD):List Int→List Bool→Bool
 | [],ts=>ts.isEmpty
 | [a],ts=>match stepK p a with
  | some s=>(s.kind == 11)&&ts.isEmpty
  | none=>false
 | a::b::l,ts=>match stepK p a with
  | none=>false
  | some s=>if s.kind == 11 then false else
   if brB s then (match ts with
    | []=>false
    | t::ts'=>(b == (if t then a+s.to+1 else a+1))&&goW p (b::l) ts') else
   (b == (if s.kind == 8 then a+s.to+1 else a+1))&&goW p (b::l) ts
def headZ:List Int→Bool
 | []=>false
 | a::_=>a == 0
def goodW (p:List StepD) (w:WayD):Bool:=goodP p&&headZ w.steps&&goW p w.steps w.turns
theorem stepK_some {p:List StepD} {a:Int} (h0:0≤a) (h1:a < p.length) (hp:ProgOk p):∃ s,stepK p a=some s∧p[a.toNat]? = some s∧stepB s=true:=by
 have hi:a.toNat < p.length:=by omega
 exact ⟨p[a.toNat],by unfold stepK;rw [if_pos h0];exact List.getElem?_eq_getElem hi,List.getElem?_eq_getElem hi,(hp.all _ hi).1⟩
theorem stepK_none {p:List StepD} {a:Int} (h:a < 0∨a ≥ p.length):stepK p a=none:=by
 unfold stepK
 split
 · exact List.getElem?_eq_none (by omega)
 · rfl
theorem goW_out {p:List StepD} {a:Int} {l:List Int} {ts:List Bool} (h:stepK p a=none):goW p (a::l) ts=false:=by
 cases l with
 | nil=>unfold goW;rw [h]
 | cons b l=>unfold goW;rw [h]
theorem goW_one {p:List StepD} {a:Int} {ts:List Bool} {s:StepD} (ks:stepK p a=some s):goW p [a] ts=((s.kind == 11)&&ts.isEmpty):=by unfold goW;rw [ks]
theorem goW_two {p : List StepD} {a b : Int} {l : List Int} {ts : List Bool} {s : StepD} (ks : stepK p a = some s) : goW p (a :: b :: l) ts = if s.kind == 11 then false else
      if brB s then (match ts with
       | []=>false
       | t::ts'=>(b == (if t then a+s.to+1 else a+1))&&goW p (b::l) ts') else
      (b == (if s.kind == 8 then a+s.to+1 else a+1))&&goW p (b::l) ts:=by rw [goW,ks]
section
variable {P:Program} {s:Nat→AV} {M:Mem} {nb ib:Nat} {lg:Lg} {es:List Ent}
@[go_sem ↓] theorem RE_EPgf {j d t:Nat} {b:Bool} {k:KO} {kd:Nat} {K:(Nat→AV)→Mem→Prop} :
 @RE P nb ib (EP j (some d) (some (t,b)) k kd false::es) s M lg ⟨K⟩ = @gdW (gB (s t)) b ⟨@KS P s M (nb+64 * j) (ib+64 * j) k ⟨fun a N T=>@okP kd nb j k M N T ⟨@RE P nb ib es (upd s d a) N lg ⟨K⟩⟩⟩⟩ ⟨@RE P nb ib es (upd s d (.tup [])) M lg ⟨K⟩⟩ :=
 RE_step (e:=EP j (some d) (some (t,b)) k kd false) rfl fun a N T=>and_assoc.symm
@[go_sem ↓] theorem RE_EPgt {j d t:Nat} {b:Bool} {k:KO} {kd:Nat} {K:(Nat→AV)→Mem→Prop} :
 @RE P nb ib (EP j (some d) (some (t,b)) k kd true::es) s M lg ⟨K⟩ = @gdW (gB (s t)) b ⟨@KS P s M (nb+64 * j) (ib+64 * j) k ⟨fun a N T=>@okP kd nb j k M N T ⟨@RE P nb ib es (upd s d a) N (upd lg j (wrt T M N)) ⟨K⟩⟩⟩⟩ ⟨@RE P nb ib es (upd s d (.tup [])) M lg ⟨K⟩⟩ :=
 RE_step (e:=EP j (some d) (some (t,b)) k kd true) rfl fun a N T=>and_assoc.symm
end
def nxL (p:List StepD):List Int→Bool
 | a::b::l=>(match stepK p a with|some s=>(nextsL s a).any (· == b)|none=>false)&&nxL p (b::l)
 | _=>true
def turnsR (p:List StepD):List Int→List Bool
 | a::b::l=>(match stepK p a with|some s=>if brB s then [b == a+s.to+1] else []|none=>[])++turnsR p (b::l)
 | _=>[]
def lastX (p:List StepD) (l:List Int):Bool:=match l.getLast? with
 | some a=>(match stepK p a with|some s=>s.kind == 11|none=>false)
 | none=>false
theorem stepK_ok {p:List StepD} {a:Int} {s:StepD} (hp:ProgOk p) (h:stepK p a=some s):stepB s=true:=by
 unfold stepK at h
 split at h
 · obtain ⟨hi,rfl⟩:=List.getElem?_eq_some_iff.1 h
   exact (hp.all _ hi).1
 · cases h
theorem goW_eq {p:List StepD} (hp:ProgOk p):∀ (l:List Int) (ts:List Bool),l≠[]→goW p l ts=(nxL p l&&lastX p l&&decide (turnsR p l=ts))
 | [],_,h=>absurd rfl h
 | [a],ts,_=>by
  cases hk:stepK p a with
  | none =>
   rw [goW_out hk]
   simp [lastX,hk]
  | some s =>
   rw [goW_one hk]
   cases ts<;>simp [nxL,lastX,turnsR,hk]
 | a::b::l,ts,_=>by
  have hlx:lastX p (a::b::l)=lastX p (b::l):=by unfold lastX;rw [List.getLast?_cons_cons]
  cases hk:stepK p a with
  | none =>
   rw [goW_out hk]
   simp [nxL,hk]
  | some s =>
   have ok:=step_ok (stepK_ok hp hk)
   rw [goW_two hk]
   have hnl:nxL p (a::b::l)=((nextsL s a).any (· == b)&&nxL p (b::l)):=by rw [nxL,hk]
   have htr:turnsR p (a::b::l)=(if brB s then [b == a+s.to+1] else [])++turnsR p (b::l):=by rw [turnsR,hk]
   rw [hnl,htr,hlx]
   cases h11:(s.kind == 11) with
   | true =>
    have:nextsL s a=[]:=by unfold nextsL;rw [h11];rfl
    simp [this]
   | false =>
    simp only [Bool.false_eq_true,if_false]
    cases hb:brB s with
    | false =>
     have hnx:nextsL s a=[if s.kind == 8 then a+s.to+1 else a+1]:=by
      unfold nextsL
      rw [h11]
      unfold brB at hb
      rw [Bool.or_eq_false_iff] at hb
      rw [hb.1,hb.2]
      cases (s.kind == 8)<;>rfl
     rw [hnx]
     generalize (if s.kind == 8 then a+s.to+1 else a+1)=v
     simp only [Bool.false_eq_true,if_false,List.nil_append,List.any_cons,List.any_nil,Bool.or_false]
     rw [goW_eq hp (b::l) ts (by simp),Bool.beq_comm (a:=v)]
     cases (b == v)<;>simp
    | true =>
     have hgt:s.to > 0:=ok.jmp.2 (by unfold brB at hb;simp at hb;omega)
     have hnx:nextsL s a=[a+1,a+s.to+1]:=by
      unfold nextsL
      rw [h11]
      unfold brB at hb
      have h8:(s.kind == 8)=false:=by rw [beq_eq_false_iff_ne];simp at hb;omega
      rw [h8]
      cases h9:(s.kind == 9) with
      | true=>rfl
      | false=>rw [h9,Bool.false_or] at hb;rw [hb];rfl
     rw [hnx]
     simp only [if_true,List.any_cons,List.any_nil,Bool.or_false,List.cons_append,List.nil_append]
     cases ts with
     | nil=>simp
     | cons t ts =>
      dsimp only
      rw [goW_eq hp (b::l) ts (by simp)]
      by_cases e1:b=a+1
      · have e2:¬ b=a+s.to+1:=by omega
        have n1:(a+1 == b)=true:=by rw [e1];exact beq_self_eq_true _
        have n2:(b == a+s.to+1)=false:=neq_b e2
        have n3:(b == a+1)=true:=by rw [e1];exact beq_self_eq_true _
        cases t<;>simp [n1,n2,n3]
      · by_cases e2:b=a+s.to+1
        · have n1:(a+s.to+1 == b)=true:=by rw [e2];exact beq_self_eq_true _
          have n2:(b == a+s.to+1)=true:=by rw [e2];exact beq_self_eq_true _
          have n3:(b == a+1)=false:=neq_b e1
          cases t<;>simp [n1,n2,n3]
        · have n1:(a+s.to+1 == b)=false:=neq_b (fun h=>e2 h.symm)
          have n2:(b == a+s.to+1)=false:=neq_b e2
          have n3:(b == a+1)=false:=neq_b e1
          have n4:(a+1 == b)=false:=neq_b (fun h=>e1 h.symm)
          cases t<;>simp [n1,n2,n3,n4]
theorem turnsR_eq {p:List StepD}:∀ {l:List Int},InP p l→turnsV p l=turnsR p l
 | [],_=>rfl
 | [a],_=>by unfold turnsV turnsN;simp [turnAt,turnsR]
 | a::b::l,h=>by
  have ih:=turnsR_eq (p:=p) (l:=b::l) fun x hx=>h x (List.mem_cons_of_mem _ hx)
  have ha:=h a List.mem_cons_self
  have hk:stepK p a=p[a.toNat]?:=by unfold stepK;rw [if_pos ha.1]
  unfold turnsV turnsN at ih ⊢
  rw [List.length_cons,List.range_succ_eq_map,List.flatMap_cons,List.flatMap_map]
  have e:(fun i=>turnAt p (a::b::l) (i+1))=turnAt p (b::l):=by funext i;rfl
  rw [show (List.range (b::l).length).flatMap (fun i=>turnAt p (a::b::l) i.succ)=(List.range (b::l).length).flatMap (turnAt p (b::l)) from rfl,ih]
  rw [turnsR,hk]
  rfl
theorem goodW_eq {p:List StepD} {l:List Int} {ts:List Bool} (hp:ProgOk p) (h:l≠[]):goW p l ts=(nxL p l&&lastX p l&&decide (turnsR p l=ts)):=goW_eq hp l ts h
theorem next_in {p:List StepD} {a b:Int} {s:StepD} (hp:ProgOk p) (ha:0≤a) (gs:p[a.toNat]? = some s) (h:(nextsL s a).any (· == b)=true):0≤b∧b < p.length:=by
 obtain ⟨hi,rfl⟩:=List.getElem?_eq_some_iff.1 gs
 obtain ⟨hv,ht⟩:=hp.all _ hi
 have ok:=step_ok hv
 have hto:=ok.to
 have hj:=ok.jmp
 have hl:p[a.toNat].kind=11∨a+1 < p.length:=by
  by_cases h:a+1 < p.length
  · exact .inr h
  · left
    have e:p.length - 1=a.toNat:=by omega
    have:=hp.last
    unfold lastK at this
    rw [e,gs] at this
    exact this
 generalize p[a.toNat]=s at h ht hto hj hl
 unfold nextsL at h
 split at h
 · simp at h
 · rename_i h11
   have n11:¬ s.kind=11:=by simpa using h11
   split at h
   · rename_i h8
     have k8:s.kind=8:=by simpa using h8
     simp only [List.any_cons,List.any_nil,Bool.or_false,beq_iff_eq] at h
     have:=ht (hj.2 (.inl k8))
     omega
   · split at h
     · rename_i h9
       have k9:s.kind=9:=by simpa using h9
       simp only [List.any_cons,List.any_nil,Bool.or_false,Bool.or_eq_true,beq_iff_eq] at h
       have:=ht (hj.2 (.inr (.inl k9)))
       omega
     · split at h
       · rename_i h10
         have k10:s.kind=10:=by simpa using h10
         simp only [List.any_cons,List.any_nil,Bool.or_false,Bool.or_eq_true,beq_iff_eq] at h
         have:=ht (hj.2 (.inr (.inr k10)))
         omega
       · simp only [List.any_cons,List.any_nil,Bool.or_false,beq_iff_eq] at h
         omega
theorem nexts_len {s:StepD} {i:Int}:(nextsL s i).length≤2:=by
 unfold nextsL
 repeat' split
 all_goals simp
theorem impl_GoodWay.fc (p:List StepD) (w:WayD) (hp:p.length≤4194304) (hw:wWay w≤4194304):FCt prog F_impl_GoodWay [.ro,.ro] [steps p,w.d] (Bb (goodW p w)) []:=by
 refine fct_run impl_GoodWay.ok rfl ?_
 obtain ⟨l,ts⟩:=w
 have hl:l.length+ts.length≤4194304:=hw
 unfold goodW
 dsimp only
 simp only [go_sem]
 refine fcW_bool (impl_GoodProgram.fc p hp) ?_
 cases hg:goodP p with
 | false=>simp only [go_sem]
 | true =>
  have op:=prog_ok hg
  cases hlq:l with
  | nil =>
   have z0:(((0:Nat):Int) == 0)=true:=rfl
   simp only [go_sem,List.length_nil,z0]
   rfl
  | cons a0 l0 =>
   rw [← hlq]
   have hne:l≠[]:=by rw [hlq];simp
   have n0:((l.length:Int) == 0)=false:=by rw [hlq];exact neq_b (by simp only [List.length_cons];omega)
   have i0:(0:Int) < l.length:=by rw [hlq];simp only [List.length_cons];omega
   have hz:headZ l=(a0 == 0):=by rw [hlq];rfl
   have g0:l[0]? = some a0:=by rw [hlq];rfl
   have gt0:(0:Int).toNat=0:=rfl
   have hgw:=goodW_eq (ts:=ts) op hne
   simp only [go_sem,n0,i0,g0,gt0,hz]
   cases ha:(a0 == 0) with
   | false =>
    have ha2:(a0 != 0)=true:=by rw [bne,ha];rfl
    simp only [go_sem,ha2,hz,ha]
   | true =>
    have ha2:(a0 != 0)=false:=by rw [bne,ha];rfl
    have hz2:headZ l=true:=by rw [hz,ha]
    have a00:a0=0:=by simpa using ha
    have hpl:=op.len.1
    simp only [go_sem,ha2,hz2]
    refine R_loop (α:=Nat) (fun k s' M'=>k+1≤l.length∧s' 5=aI ((k+1:Nat):Int)∧M'.m 64=some (.box 0 (.dat none (WayD.d ⟨l,ts⟩)))∧InP p (l.take (k+1))∧nxL p l=nxL p (l.drop k)) (fun k=>l.length - k) 0
     ⟨by omega,by simp only [go_sem];rfl,by simp only [go_sem],by rw [hlq];intro x hx;simp at hx;rw [hx,a00];omega,by simp⟩ ?_
    rintro k s' M' ⟨hk,h5,hm,hin,hr⟩ ho
    unfold impl_GoodWay.b0
    have j0:s' 0=.dat none (steps p):=by rw [ho 0 rfl];simp only [go_sem]
    have j3:s' 3=.ptr 64 0 0 none:=by rw [ho 3 rfl];simp only [go_sem]
    clear ho
    have gk:l[k]? = some l[k]:=List.getElem?_eq_getElem (by omega)
    have ik:(k:Int) < l.length:=by omega
    have hmem:l[k]∈l.take (k+1):=by rw [take_succ' (show k < l.length by omega)];exact List.mem_append_right _ (List.mem_singleton.2 rfl)
    obtain ⟨q0,q1⟩:=hin _ hmem
    obtain ⟨st,ks,gs,hv⟩:=stepK_some q0 q1 op
    by_cases hlt:k+1 < l.length
    · have hi':((k+1:Nat):Int) < l.length:=by omega
      have w0:IntKind.i64.wrap (((k+1:Nat):Int) - 1)=(k:Int):=by rw [wrap_in (by omega) (by omega)];omega
      have wk:IntKind.i64.wrap (((k+1:Nat):Int)+1)=((k+1+1:Nat):Int):=by rw [wrap_in (by omega) (by omega)];omega
      have g2:l[k+1]? = some l[k+1]:=List.getElem?_eq_getElem hlt
      have hd:l.drop k=l[k]::l[k+1]::l.drop (k+1+1):=by rw [List.drop_eq_getElem_cons (show k < l.length by omega),List.drop_eq_getElem_cons hlt]
      have hd2:l.drop (k+1)=l[k+1]::l.drop (k+1+1):=List.drop_eq_getElem_cons hlt
      rw [hd,nxL,ks] at hr
      dsimp only at hr
      rw [← hd2] at hr
      have nl:(nextsL st l[k]).length≤2:=nexts_len
      simp only [go_sem,hi',w0,gk,ik,j0,j3,h5,hm,hz2]
      refine fcW_bd (impl_nexts.fc p l[k] st q0 q1 op.len.2 gs hv) noRs_ints ?_
      simp only [go_sem,hi',gk,ik,g2,take_map_len,j0,j3,h5,hm,hz2]
      refine fcW_bool (slices_Contains__sint_int.fc (nextsL st l[k]) l[k+1] (by omega)) ?_
      cases hc:(nextsL st l[k]).any (· == l[k+1]) with
      | false =>
       rw [hc,Bool.false_and] at hr
       rw [hr,Bool.false_and,Bool.false_and] at hgw
       simp only [go_sem,hgw,j0,j3,h5,hm,hz2]
      | true =>
       rw [hc,Bool.true_and] at hr
       simp only [go_sem,wk,j0,j3,h5,hm,hz2]
       exact ⟨k+1,by dsimp only;omega,hlt,by simp only [go_sem,j0,j3,h5,hm,hz2],by simp only [go_sem,j0,j3,h5,hm,hz2],fun x hx=>by
        rw [take_succ' hlt] at hx
        rcases List.mem_append.1 hx with hx|hx
        · exact hin x hx
        · rw [List.mem_singleton] at hx;subst hx;exact next_in op q0 gs hc,hr⟩
    · have hi':¬ ((k+1:Nat):Int) < l.length:=by omega
      have hkl:k+1=l.length:=by omega
      have hnx:nxL p l=true:=by
       rw [hr,List.drop_eq_getElem_cons (show k < l.length by omega),List.drop_eq_nil_iff.2 (by omega)];rfl
      have hlx:lastX p l=(st.kind == 11):=by
       unfold lastX
       rw [List.getLast?_eq_getElem?,show l.length - 1=k by omega,gk]
       dsimp only
       rw [ks]
      have hinp:InP p l:=by
       have:l.take (k+1)=l:=List.take_of_length_le (by omega)
       rw [this] at hin;exact hin
      have w0:IntKind.i64.wrap ((l.length:Int) - 1)=(k:Int):=by rw [wrap_in (by omega) (by omega)];omega
      rw [hnx,hlx,← turnsR_eq hinp,Bool.true_and] at hgw
      simp only [go_sem,hi',w0,gk,ik,q0,q1,gs,j0,j3,h5,hm,hz2]
      cases h11:(st.kind == 11) with
      | false =>
       rw [h11,Bool.false_and] at hgw
       simp only [go_sem,h11,hgw,j0,j3,h5,hm,hz2]
      | true =>
       rw [h11,Bool.true_and] at hgw
       simp only [go_sem,h11,j0,j3,h5,hm,hz2]
       refine fcW_bd (impl_turnsOf.fc p l op hinp (by omega)) noRs_bools ?_
       simp only [go_sem,take_map_len,j0,j3,h5,hm,hz2]
       have htl:(turnsV p l).length≤l.length:=turnsN_len p l l.length
       refine fcW_bool (slices_Equal__sbool_bool.fc (turnsV p l) ts (by omega) (by omega)) ?_
       simp only [go_sem,hgw,j0,j3,h5,hm,hz2]
def followF (p:List StepD) (ctx:List Int):Nat→List Int→MachD→Int×Int
 | i,[],_=>((i:Int),0)
 | i,a::l,m=>if m.pc == a then (if (stepAt p ctx m).2.1 == 0 then followF p ctx (i+1) l (stepAt p ctx m).1 else ((i:Int),(stepAt p ctx m).2.1)) else ((i:Int),0)
theorem followF_cons {p:List StepD} {ctx:List Int} {i:Nat} {a:Int} {l:List Int} {m:MachD}:followF p ctx i (a::l) m=if m.pc == a then (if (stepAt p ctx m).2.1 == 0 then followF p ctx (i+1) l (stepAt p ctx m).1 else ((i:Int),(stepAt p ctx m).2.1)) else ((i:Int),0):=rfl
def followV (p:List StepD) (ctx:List Int) (w:WayD):(Int×Int)×Bool:=if goodW p w&&ctxB ctx then (followF p ctx 0 w.steps newM,true) else ((0,0),false)
theorem goodW_prog {p:List StepD} {w:WayD} (h:goodW p w=true):ProgOk p:=by
 unfold goodW at h
 simp only [Bool.and_eq_true] at h
 exact prog_ok h.1.1
theorem impl_FollowWay.fc (p:List StepD) (ctx:List Int) (w:WayD) (hp:p.length≤4194304) (hc:ctx.length≤4194304) (hw:wWay w≤4194304) :
 FCt prog F_impl_FollowWay [.ro,.ro,.ro] [steps p,ints ctx,w.d] (.tup [Ii (followV p ctx w).1.1,Ii (followV p ctx w).1.2,Bb (followV p ctx w).2]) []:=by
 refine fct_run impl_FollowWay.ok rfl ?_
 have c1:=impl_GoodWay.fc p w hp hw
 have c2:=impl_isContext.fc ctx (by omega)
 unfold followV
 cases h1:goodW p w with
 | false=>rw [h1] at c1;repeat' (first|with_reducible rfl|refine fcW_bool (c1) ?_|refine fcW_bool (c2) ?_|with_reducible refine cdW_dec (fun _=>?_) (fun _=>?_)|refine cdW_not (fun _=>?_) (fun _=>?_)|refine cdW_any (fun _=>?_) (fun _=>?_)|with_reducible refine gdW_decT (fun _=>?_) (fun _=>?_)|with_reducible refine gdW_decF (fun _=>?_) (fun _=>?_)|refine gdW_not (fun _=>?_) (fun _=>?_)|refine gdW_any (fun _=>?_) (fun _=>?_)|simp only [go_sem,bne,iQ,iB,iX,Int.reduceLE,iN,iA,iS,iM, *]|rfl)
 | true =>
  cases h2:ctxB ctx with
  | false=>rw [h1] at c1;rw [h2] at c2;repeat' (first|with_reducible rfl|refine fcW_bool (c1) ?_|refine fcW_bool (c2) ?_|with_reducible refine cdW_dec (fun _=>?_) (fun _=>?_)|refine cdW_not (fun _=>?_) (fun _=>?_)|refine cdW_any (fun _=>?_) (fun _=>?_)|with_reducible refine gdW_decT (fun _=>?_) (fun _=>?_)|with_reducible refine gdW_decF (fun _=>?_) (fun _=>?_)|refine gdW_not (fun _=>?_) (fun _=>?_)|refine gdW_any (fun _=>?_) (fun _=>?_)|simp only [go_sem,bne,iQ,iB,iX,Int.reduceLE,iN,iA,iS,iM, *]|rfl)
  | true =>
   have op:=goodW_prog h1
   have hc:=ctx_ok h2
   obtain ⟨l,ts⟩:=w
   have hll:l.length≤4194304:=by have:l.length+ts.length≤4194304:=hw;omega
   rw [h1] at c1
   rw [h2] at c2
   simp only [go_sem]
   refine fcW_bool c1 ?_
   simp only [go_sem]
   refine fcW_bool c2 ?_
   simp only [go_sem]
   refine fcW_bd impl_NewMachine.fc noRs_Machine ?_
   have nl:=newM_ok.len
   simp only [go_sem,nl.regs,nl.cells,nl.isset]
   refine R_loop (α:=Nat×MachD) (fun a s' M'=>a.1≤l.length∧s' 27=aI a.1∧M'.m 64=some (.box 0 (.dat none (WayD.d ⟨l,ts⟩)))∧MachOk a.2∧a.2.pc < p.length ∧
    (∃ n1 n2 n3 v v1 v2 v3,M'.m 1152=some (.box v (.agg [aI a.2.pc,.sl n1 v1 0 6 1,.sl n2 v2 0 16 1,.sl n3 v3 0 16 1]))∧s' 9=.ptr 1152 v 0 none∧M'.m n1=some (.arr v1 true 1 (a.2.regs.map Ii))∧M'.m n2=some (.arr v2 true 1 (a.2.cells.map Ii))∧M'.m n3=some (.arr v3 true 1 (a.2.isset.map Bb)) ∧
     ((n1=1088∧n2=1089∧n3=1090)∨(n1=2560∧n2=2561∧n3=2562))) ∧
    followF p ctx 0 l newM=followF p ctx a.1 (l.drop a.1) a.2) (fun a=>l.length - a.1) (0,newM)
    ⟨by dsimp only;omega,by simp only [go_sem];rfl,by simp only [go_sem],newM_ok,by show (0:Int) < _;have:=op.len.1;omega,⟨1088,1089,1090,_,_,_,_,by simp only [go_sem,nl.regs,nl.cells,nl.isset];rfl,by simp only [go_sem];try rfl,by simp only [go_sem];try rfl,by simp only [go_sem];try rfl,by simp only [go_sem];try rfl,.inl ⟨rfl,rfl,rfl⟩⟩,by simp⟩ ?_
   rintro ⟨k,m⟩ s' M' ⟨hk,h27,hw64,hm,hpc,⟨n1,n2,n3,v,v1,v2,v3,hb,h9,a1,a2,a3,hn⟩,hr⟩ ho
   dsimp only at hk h27 hm hpc hb a1 a2 a3 hr
   unfold impl_FollowWay.b0
   have j0:s' 0=.dat none (steps p):=by rw [ho 0 rfl];simp only [go_sem]
   have j1:s' 1=.dat none (ints ctx):=by rw [ho 1 rfl];simp only [go_sem]
   have j5:s' 5=.ptr 64 0 0 none:=by rw [ho 5 rfl];simp only [go_sem]
   have j25:s' 25=.dat none (ints l):=by rw [ho 25 rfl];simp only [go_sem]
   have j26:s' 26=aI l.length:=by rw [ho 26 rfl];simp only [go_sem]
   clear ho
   have ml:=hm.len
   have l1:=ml.regs
   have l2:=ml.cells
   have l3:=ml.isset
   by_cases hlt:k < l.length
   · have hi':(k:Int) < l.length:=by omega
     have ga:l[k]? = some l[k]:=List.getElem?_eq_getElem hlt
     have hw:IntKind.i64.wrap (k+1)=((k+1:Nat):Int):=wrap_k hlt (by omega)
     have hd:l.drop k=l[k]::l.drop (k+1):=List.drop_eq_getElem_cons hlt
     rw [hd,followF_cons] at hr
     cases hq:(m.pc == l[k]) with
     | false =>
      have hq2:(m.pc != l[k])=true:=by rw [bne,hq];rfl
      rw [hq] at hr
      simp only [go_sem,hi',ga,hq2,hr,j0,j1,j5,j25,j26,h27,hw64,hb,h9,a1,a2,a3]
     | true =>
      have hq2:(m.pc != l[k])=false:=by rw [bne,hq];rfl
      rw [hq] at hr
      have hst:=stepAt_fc op hc hm hpc
      have hsk:=step_keeps op hc hm hpc
      generalize stepAt p ctx m=R at hst hsk hr
      obtain ⟨R0,R1,R2⟩:=R
      dsimp only at hst hr
      have rl:=hsk.ok.len
      have r1:=rl.regs
      have r2:=rl.cells
      have r3:=rl.isset
      dsimp only at r1 r2 r3
      rcases hn with ⟨rfl,rfl,rfl⟩|⟨rfl,rfl,rfl⟩ <;>
      · simp only [go_sem,hi',ga,hq2,l1,l2,l3,tk_I,tk_B,j0,j1,j5,j25,j26,h27,hw64,hb,h9,a1,a2,a3]
        refine coW_of hst rfl noRsL_pM ?_
        cases h0:(R1 == 0) with
        | false =>
         have h3:(R1 != 0)=true:=by rw [bne,h0];rfl
         rw [h0] at hr
         simp only [Bool.false_eq_true,if_false,if_true] at hr
         simp only [go_sem,h3,hr,j0,j1,j5,j25,j26,h27,hw64,hb,h9,a1,a2,a3]
        | true =>
         have h3:(R1 != 0)=false:=by rw [bne,h0];rfl
         rw [h0] at hr
         simp only [if_true] at hr
         simp only [go_sem,h3,hw,j0,j1,j5,j25,j26,h27,hw64,hb,h9,a1,a2,a3]
         exact ⟨(k+1,R0),by dsimp only;omega,by dsimp only;omega,by simp only [go_sem,j0,j1,j5,j25,j26,h27,hw64,hb,h9,a1,a2,a3],by simp only [go_sem,j0,j1,j5,j25,j26,h27,hw64,hb,h9,a1,a2,a3],hsk.ok,hsk.pc,⟨2560,2561,2562,_,_,_,_,by simp only [go_sem,r1,r2,r3,j0,j1,j5,j25,j26,h27,hw64,hb,h9,a1,a2,a3];try rfl,by simp only [go_sem,j0,j1,j5,j25,j26,h27,hw64,hb,h9,a1,a2,a3],by simp only [go_sem,j0,j1,j5,j25,j26,h27,hw64,hb,h9,a1,a2,a3];try rfl,by simp only [go_sem,j0,j1,j5,j25,j26,h27,hw64,hb,h9,a1,a2,a3];try rfl,by simp only [go_sem,j0,j1,j5,j25,j26,h27,hw64,hb,h9,a1,a2,a3];try rfl,.inr ⟨rfl,rfl,rfl⟩⟩,hr⟩
   · have hi':¬ (k:Int) < l.length:=by omega
     obtain rfl:k=l.length:=by omega
     rw [List.drop_length] at hr
     have hr:followF p ctx 0 l newM=((l.length:Int),0):=hr
     simp only [go_sem,Int.lt_irrefl,hr,j0,j1,j5,j25,j26,h27,hw64,hb,h9,a1,a2,a3]
end Go.Vm.Ytljjgfmappionaa
