/- What the functions that the law reaches return: part 1 (the conditions stand at each). -/
import Derived.Test.YtmicgdfekpoajaaIr
import Derived.Tactics
import Derived.Tactics2
import Derived.StillTactics
import Derived.Laws.Pointers
open Int renaming reduceEq → iQ, reduceBEq → iB, reduceBNe → iX, reduceNeg → iN, reduceAdd → iA, reduceSub → iS, reduceMul → iM
attribute [go_sem_proc] Nat.reduceEqDiff Nat.reduceAdd Nat.reduceMul Nat.reduceBEq Int.reduceToNat Nat.reduceSub Nat.reduceLT Nat.reduceLeDiff Int.reduceLE Int.reduceLT reduceCtorEq
attribute [go_sem_proc ↓] reduceIte
attribute [go_sem] Option.getD_none
namespace Go.Vm
open Go
set_option linter.unusedSimpArgs false
set_option linter.unusedVariables false
abbrev Ii (n:Int):D:=.int .i64 n
abbrev Bb (b:Bool):D:=.bool b
abbrev ints (l:List Int):D:=.sl 1 (l.map Ii)
abbrev aI (n:Int):AV:=.dat none (.int .i64 n)
def i64 (n:Int):Prop:=-9223372036854775808≤n∧n≤9223372036854775807
theorem wrap_k {k m:Nat} (h:k < m) (hm:m≤9223372036854775807):IntKind.i64.wrap ((k:Int)+1)=((k+1:Nat):Int):=by
 rw [wrap_in (by omega) (by omega)];rfl
theorem take_succ' {α:Type} {l:List α} {k:Nat} (h:k < l.length):l.take (k+1)=l.take k++[l[k]]:=by
 rw [List.take_succ_eq_append_getElem h]
theorem all_take {α:Type} {p:α→Bool} {l:List α} {k:Nat} (h:k < l.length) (h1:(l.take k).all p=true) (h2:p l[k]=true):(l.take (k+1)).all p=true:=by
 rw [take_succ' h,List.all_append,h1];simpa using h2
theorem not_all {α:Type} {p:α→Bool} {l:List α} {k:Nat} (h:k < l.length) (h2:p l[k]=false):l.all p=false:=by
 rw [← Bool.not_eq_true,List.all_eq_true]
 intro hh
 have:=hh _ (List.getElem_mem h)
 rw [h2] at this;cases this
section
variable {α:Type} {f:α→D} {z:D} {l:List α} {k:Nat}
theorem take_map_len:(l.map f).take l.length=l.map f:=by rw [List.take_of_length_le (by simp)]
end
section
variable {α:Type} {A B:List α} {k:Nat}
end
def RowAt (x:AV) (M:Mem) (nm sz:Nat) (ds:List D):Prop:=(ds=[]∧x=.nil sz)∨∃ v,x=.sl nm v 0 ds.length sz∧M.m nm=some (.arr v true sz ds)
theorem RowAt.nil {M:Mem} {nm sz:Nat}:RowAt (.nil sz) M nm sz []:=.inl ⟨rfl,rfl⟩
theorem RowAt.sl {x:AV} {M:Mem} {nm sz v n:Nat} {ds:List D} (hx:x=.sl nm v 0 n sz) (hn:n=ds.length) (hm:M.m nm=some (.arr v true sz ds)):RowAt x M nm sz ds:=.inr ⟨v,by rw [hx,hn],hm⟩
section
variable {α:Type} {f:Int→α→α} {c:α→Nat}
end
theorem noRsL_all:∀ {ds:List D},(∀ d∈ds,noRs d=true)→noRsL ds=true
 | [],_=>rfl
 | d::ds,h=>by simp only [noRsL,Bool.and_eq_true];exact ⟨h d List.mem_cons_self,noRsL_all fun x hx=>h x (List.mem_cons_of_mem _ hx)⟩
theorem noRs_sl {sz:Nat} {ds:List D} (h:∀ d∈ds,noRs d=true):noRs (.sl sz ds)=true:=by simp only [noRs];exact noRsL_all h
theorem noRs_ints {l:List Int}:noRs (ints l)=true:=noRs_sl (by simp [noRs])
section
variable {P:Program} {s:Nat→AV} {M:Mem} {nb ib:Nat}
theorem frzR_caps:∀ (caps:List D),frzR s M ((caps.map bindC).map X.k)=some caps
 | []=>rfl
 | c::caps=>by simp only [List.map_cons,frzR,ev_k,frz_bindC,frzR_caps caps]
theorem frzR_app:∀ (xs ys:List X),frzR s M (xs++ys)=match frzR s M xs,frzR s M ys with|some a,some b=>some (a++b)|_,_=>none
 | [],ys=>by simp only [List.nil_append,frzR];cases frzR s M ys<;>rfl
 | x::xs,ys=>by
  simp only [List.cons_append,frzR,frzR_app xs ys]
  cases frz M 8 (x.ev s)<;>cases frzR s M xs<;>cases frzR s M ys<;>rfl
theorem ccl_ro {f:FuncId} {caps:List D} {args:List X} {ds:List D} {K:AV→Mem→(Nat→Bool)→Prop} (ha:frzR s M args=some ds)
 (h:@fcW P f (args.map (fun _=>Md.ro)++caps.map fun _=>Md.ro) (ds++caps) false ((args++(caps.map bindC).map X.k).all fun x=>coldA (x.ev s)) nb ib M ⟨K⟩):@cW P (.clo f (caps.map bindC)) s M nb ib false args ⟨K⟩:=by
 rw [cW_clo,CR_ro,frzR_app,ha,frzR_caps]
 have e:((args++(caps.map bindC).map X.k).map fun _=>Md.ro)=(args.map (fun _=>Md.ro)++caps.map fun _=>Md.ro):=by simp [List.map_map,Function.comp_def]
 rw [e]
 exact h
end
def idxB {α:Type} (p:α→Bool) (l:List α):Int:=match l.findIdx? p with
 | some i=>i
 | none=>-1
theorem idxB_none {α:Type} {p:α→Bool} {l:List α} (h:l.all (fun x=>!p x)=true):idxB p l = -1:=by
 unfold idxB
 rw [List.findIdx?_eq_none_iff.2 (fun x hx=>by simpa using List.all_eq_true.1 h x hx)]
theorem idxB_some {α:Type} {p:α→Bool} {l:List α} {k:Nat} (hk:k < l.length) (h:(l.take k).all (fun x=>!p x)=true) (hp:p l[k]=true):idxB p l=k:=by
 unfold idxB
 rw [List.findIdx?_eq_some_iff_getElem.2 ⟨hk,hp,fun j hj=>by
  have:=List.all_eq_true.1 h l[j] (by rw [List.mem_take_iff_getElem];exact ⟨j,by omega,rfl⟩)
  simpa using this⟩]
theorem idxB_any {α:Type} {p:α→Bool} {l:List α}:decide (0≤idxB p l)=l.any p:=by
 unfold idxB
 cases h:l.findIdx? p with
 | none =>
  rw [List.findIdx?_eq_none_iff] at h
  rw [List.any_eq_false.2 (fun x hx=>by simp [h x hx])];rfl
 | some i =>
  rw [List.findIdx?_eq_some_iff_getElem] at h
  obtain ⟨hi,hp,_⟩:=h
  rw [List.any_eq_true.2 ⟨l[i],List.getElem_mem hi,hp⟩]
  simp
end Go.Vm
namespace Go.Vm.Ytmicgdfekpoajaa
open Go Go.Vm
set_option maxRecDepth 10000
set_option maxHeartbeats 4000000
set_option linter.unusedSimpArgs false
set_option linter.unusedVariables false
def inB (n lo hi:Int):Bool:=decide (lo≤n)&&decide (n≤hi)
theorem impl_in.fc (n lo hi:Int):FCt prog F_impl_in [.ro,.ro,.ro] [Ii n,Ii lo,Ii hi] (Bb (inB n lo hi)) []:=by
 refine fct_run impl_in.ok rfl ?_
 unfold inB
 by_cases h:lo≤n
 · simp only [go_sem,ge_iff_le,h]
 · simp only [go_sem,ge_iff_le,h]
theorem spec_l1In.fc (n lo hi:Int):FCt prog F_spec_l1In [.ro,.ro,.ro] [Ii n,Ii lo,Ii hi] (Bb (inB n lo hi)) []:=by
 refine fct_run spec_l1In.ok rfl ?_
 unfold inB
 by_cases h:lo≤n
 · simp only [go_sem,ge_iff_le,h]
 · simp only [go_sem,ge_iff_le,h]
structure RuleD where
 ifs:List Int
 thn:Int
 deriving DecidableEq
abbrev RuleD.d (r:RuleD):D:=.agg [ints r.ifs,Ii r.thn]
abbrev rules (l:List RuleD):D:=.sl 2 (l.map RuleD.d)
theorem slices_IndexFunc__sint_int.fc (l:List Int) (f:FuncId) (caps:List D) (p:Int→Bool) (hl:l.length≤4294967296)
 (h:∀ x∈l,FCt prog f (.ro::caps.map fun _=>.ro) (Ii x::caps) (Bb (p x)) []):FCt prog F_slices_IndexFunc__sint_int [.ro,.ro] [ints l,.clo f caps] (Ii (idxB p l)) []:=by
 refine fct_run slices_IndexFunc__sint_int.ok rfl ?_
 simp only [go_sem]
 refine R_loop (α:=Nat) (fun k s' M'=>k≤l.length∧s' 8=aI k∧(l.take k).all (fun x=>!p x)=true) (fun k=>l.length - k) 0 ⟨by omega,by simp only [go_sem];rfl,by simp⟩ ?_
 rintro k s' M' ⟨hk,h8,hr⟩ ho
 have h0:s' 0=.dat none (ints l):=by rw [ho 0 rfl];simp only [go_sem]
 have h1:s' 1=.clo f (caps.map bindC):=by rw [ho 1 rfl];simp only [go_sem]
 have h7:s' 7=aI l.length:=by rw [ho 7 rfl];simp only [go_sem]
 clear ho
 unfold slices_IndexFunc__sint_int.b0
 by_cases hlt:k < l.length
 · have hi':(k:Int) < l.length:=by omega
   have ga:l[k]? = some l[k]:=List.getElem?_eq_getElem hlt
   have hw:IntKind.i64.wrap (k+1)=((k+1:Nat):Int):=wrap_k hlt (by omega)
   simp only [go_sem,h0,h1,h7,h8,hi',ga]
   refine ccl_ro (ds:=[Ii l[k]]) (by simp only [go_sem]) ?_
   refine fcW_bool (h _ (List.getElem_mem hlt)) ?_
   cases hp:p l[k] with
   | true=>simp only [go_sem,idxB_some hlt hr hp]
   | false =>
    simp only [go_sem,h8,hw]
    exact ⟨k+1,by dsimp only;omega,by omega,by simp only [go_sem],all_take hlt hr (by simp [hp])⟩
 · have hi':¬ (k:Int) < l.length:=by omega
   rw [List.take_of_length_le (by omega)] at hr
   simp only [go_sem,h0,h1,h7,h8,hi',idxB_none hr]
theorem slices_ContainsFunc__sint_int.fc (l:List Int) (f:FuncId) (caps:List D) (p:Int→Bool) (hl:l.length≤4294967296)
 (h:∀ x∈l,FCt prog f (.ro::caps.map fun _=>.ro) (Ii x::caps) (Bb (p x)) []):FCt prog F_slices_ContainsFunc__sint_int [.ro,.ro] [ints l,.clo f caps] (Bb (l.any p)) []:=by
 refine fct_run slices_ContainsFunc__sint_int.ok rfl ?_
 simp only [go_sem]
 refine fcW_int (slices_IndexFunc__sint_int.fc l f caps p hl h) ?_
 simp only [go_sem,ge_iff_le,idxB_any]
set_option maxHeartbeats 16000000
theorem same_end {α:Type} {a b:List α} {k:Nat} (hl:a.length=b.length) (hk:a.length≤k) (h:∀ i,i < k→a[i]? = b[i]?):a=b:=by
 apply List.ext_getElem?
 intro i
 by_cases hi:i < k
 · exact h i hi
 · rw [List.getElem?_eq_none (by omega),List.getElem?_eq_none (by omega)]
theorem same_not {α:Type} {a b:List α} {i:Nat} (h1:i < a.length) (h2:i < b.length) (h:a[i]≠b[i]):a≠b:=fun e=>by subst e;exact h rfl
theorem laws_sameInts.fc (a b:List Int) (ha:a.length≤4294967296) (hb:b.length≤4294967296):FCt prog F_laws_sameInts [.ro,.ro] [ints a,ints b] (Bb (decide (a=b))) []:=by
 refine fct_run laws_sameInts.ok rfl ?_
 by_cases hl:a.length=b.length
 · have e1:((a.length:Int) != b.length)=false:=by rw [hl];simp
   simp only [go_sem,e1]
   refine R_loop (α:=Nat) (fun k s' M'=>k≤a.length∧s' 13=aI k∧∀ i,i < k→a[i]? = b[i]?) (fun k=>a.length - k) 0 ⟨Nat.zero_le _,by simp only [go_sem];try rfl,fun i hi=>absurd hi (Nat.not_lt_zero i)⟩ ?_
   rintro k s' M' ⟨hk,h13,hr⟩ ho
   unfold laws_sameInts.b0
   have j0:s' 0=.dat none (ints a):=by rw [ho 0 rfl];simp only [go_sem]
   have j1:s' 1=.dat none (ints b):=by rw [ho 1 rfl];simp only [go_sem]
   have j12:s' 12=aI a.length:=by rw [ho 12 rfl];simp only [go_sem]
   clear ho
   by_cases hlt:k < a.length
   · have hi':(k:Int) < a.length:=by omega
     have ga:a[k]? = some a[k]:=List.getElem?_eq_getElem hlt
     have hw:IntKind.i64.wrap (k+1)=((k+1:Nat):Int):=wrap_k hlt (by omega)
     have gb:b[k]? = some b[k]:=List.getElem?_eq_getElem (by omega)
     have hb':(k:Int) < b.length:=by omega
     by_cases hx:a[k]=b[k]
     · have hx':(a[k] != b[k])=false:=by simp [hx]
       simp only [go_sem,hi',hb',ga,gb,hx',hw,j0,j1,j12,h13]
       refine ⟨k+1,by dsimp only;omega,by omega,by simp only [go_sem,j0,j1,j12,h13],fun i hi=>?_⟩
       by_cases c:i < k
       · exact hr i c
       · obtain rfl:i=k:=by omega
         rw [ga,gb,hx]
     · have hne:=same_not hlt (by omega) hx
       have hd:decide (a=b)=false:=by simp [hne]
       have hx':(a[k] != b[k])=true:=by simp [hx]
       generalize a[k]=x at *
       simp only [go_sem,hi',hb',ga,gb,hx',hd,j0,j1,j12,h13];try rfl
   · have hi':¬ (k:Int) < a.length:=by omega
     obtain rfl:k=a.length:=by omega
     have e:=same_end hl hk hr
     have hd:decide (a=b)=true:=by simp [e]
     simp only [go_sem,Int.lt_irrefl,hd,j0,j1,j12,h13];try rfl
 · have e1:((a.length:Int) != b.length)=true:=by simp;omega
   have hd:decide (a=b)=false:=by simp;intro e;exact hl (by rw [e])
   simp only [go_sem,e1,hd];try rfl
set_option maxHeartbeats 4000000
abbrev pr (a b:Int):D:=.agg [Ii a,Ii b]
theorem impl_isWord.fc (n:Int):FCt prog F_impl_isWord [.ro] [Ii n] (Bb (inB n 0 65535)) []:=by
 refine fct_run impl_isWord.ok rfl ?_
 simp only [go_sem]
 refine fcW_bool (impl_in.fc ..) ?_
 simp only [go_sem]
def goodS (a b:Int):Bool:=inB a 0 65535&&inB b 0 65535&&decide (a≤b)
def andI (a b:Int):Int:=IntKind.i64.wrap (BitVec.ofInt IntKind.i64.bits a &&& BitVec.ofInt IntKind.i64.bits b).toNat
def goodK (a b:Int):Bool:=inB a 0 65535&&inB b 0 65535&&(andI a b == 0)
theorem spec_l1Least.fc (a b:Int):FCt prog F_spec_l1Least [.ro,.ro] [Ii a,Ii b] (Ii (if b < a then b else a)) []:=by
 refine fct_run spec_l1Least.ok rfl ?_
 by_cases h:a < b
 · have e:(if b < a then b else a)=a:=by split<;>omega
   simp only [go_sem,h,e]
 · have e:(if b < a then b else a)=b:=by split<;>omega
   simp only [go_sem,h,e]
abbrev arcD (a:Int×Int):D:=pr a.1 a.2
abbrev arcs (l:List (Int×Int)):D:=.sl 2 (l.map arcD)
def putK (l:List Int) (x:Int):Nat:=l.findIdx (fun y=>!decide (y < x))
def putI (l:List Int) (x:Int):List Int:=if l[putK l x]? = some x then l else l.take (putK l x)++x::l.drop (putK l x)
theorem putI_len (l:List Int) (x:Int):(putI l x).length≤l.length+1:=by
 unfold putI
 split
 · omega
 · simp;omega
abbrev bools (l:List Bool):D:=.sl 1 (l.map Bb)
def hasI (so:List Int) (x:Int):Bool:=so.any (· == x)
def listI (n:Nat) (p:Nat→Bool):List Int:=((List.range n).filter p).map fun (i:Nat)=>(i:Int)
theorem noRs_bools {l:List Bool}:noRs (bools l)=true:=noRs_sl (by
 intro d hd;obtain ⟨x,_,rfl⟩:=List.mem_map.1 hd;rfl)
theorem allScB {l:List Bool}:(l.map Bb).all isSc=true:=by
 rw [List.all_eq_true];intro d hd;obtain ⟨x,_,rfl⟩:=List.mem_map.1 hd;rfl
theorem slices_Clone__sbool_bool.fc (b:Bool) (l:List Bool) (hl:l.length≤4294967296):FCt prog F_slices_Clone__sbool_bool [.ro] [bools (b::l)] (bools (b::l)) []:=by
 refine fct_run slices_Clone__sbool_bool.ok rfl ?_
 have hb:(l.length+1) * 1≤70368744177664:=by omega
 have htk:(l.map Bb).take l.length=l.map Bb:=List.take_of_length_le (by simp)
 simp only [go_sem,allScB,hb,Nat.zero_le,htk]
 rfl
theorem slices_Clone__sbool_bool.fc1 (l:List Bool) (h:0 < l.length) (hl:l.length≤4294967296):FCt prog F_slices_Clone__sbool_bool [.ro] [bools l] (bools l) []:=by
 cases l with
 | nil=>simp at h
 | cons b l=>exact slices_Clone__sbool_bool.fc b l (by simpa using Nat.le_of_succ_le hl)
def segI (a b:Nat) (p:Nat→Bool):List Int:=((List.range' a b).filter p).map fun (i:Nat)=>(i:Int)
theorem listI_seg (n:Nat) (p:Nat→Bool):listI n p=segI 0 n p:=by simp only [listI,segI,List.range_eq_range']
theorem segI_split {a b c:Nat} {p:Nat→Bool}:segI a (b+c) p=segI a b p++segI (a+b) c p:=by
 simp only [segI]
 rw [← List.range'_append_1,List.filter_append,List.map_append]
theorem segI_mem {a b:Nat} {p:Nat→Bool} {x:Int} (h:x∈segI a b p):∃ i:Nat,x=i∧a≤i∧i < a+b∧p i=true:=by
 simp only [segI,List.mem_map,List.mem_filter,List.mem_range'_1] at h
 obtain ⟨i,⟨hi,hp⟩,rfl⟩:=h
 exact ⟨i,rfl,hi.1,hi.2,hp⟩
theorem segI_congr {a b:Nat} {p q:Nat→Bool} (h:∀ i,a≤i→i < a+b→p i=q i):segI a b p=segI a b q:=by
 simp only [segI]
 congr 1
 exact List.filter_congr fun i hi=>by rw [List.mem_range'_1] at hi;exact h i hi.1 hi.2
theorem putK_app {A C:List Int} {x:Int} (hA:∀ y∈A,y < x) (hC:∀ y∈C,¬ y < x):putK (A++C) x=A.length:=by
 unfold putK
 have h1:A.findIdx (fun y=>!decide (y < x))=A.length:=by
  rw [List.findIdx_eq_length];intro y hy;simp [hA y hy]
 rw [List.findIdx_append,h1,if_neg (by omega)]
 cases C with
 | nil=>simp
 | cons c C =>
  have:=hC c List.mem_cons_self
  simp only [List.findIdx_cons,this,decide_false,Bool.not_false,cond_true,Nat.zero_add]
theorem putI_app {A C:List Int} {x:Int} (hA:∀ y∈A,y < x) (hC:∀ y∈C,x < y):putI (A++C) x=A++x::C∧putI (A++x::C) x=A++x::C:=by
 constructor
 · unfold putI
   rw [putK_app hA (fun y hy=>by have:=hC y hy;omega)]
   have:(A++C)[A.length]?≠some x:=by
    rw [List.getElem?_append_right (Nat.le_refl _),Nat.sub_self]
    cases C with
    | nil=>simp
    | cons c C=>have:=hC c List.mem_cons_self;simp;omega
   rw [if_neg this]
   simp
 · unfold putI
   rw [putK_app hA (fun y hy=>by
    rcases List.mem_cons.1 hy with rfl|hy
    · omega
    · have:=hC y hy;omega)]
   simp
theorem putI_list {n:Nat} {p:Nat→Bool} {x:Nat} (hx:x < n):putI (listI n p) x=listI n (fun i=>if i=x then true else p i):=by
 obtain ⟨m,rfl⟩:∃ m,n=x+(1+m):=⟨n - x - 1,by omega⟩
 rw [listI_seg,listI_seg,segI_split (p:=p),segI_split (p:=p) (b:=1),segI_split (p:=fun i=>if i=x then true else p i),segI_split (p:=fun i=>if i=x then true else p i) (b:=1)]
 simp only [Nat.zero_add]
 have hA:∀ q,∀ y∈segI 0 x q,y < (x:Int):=fun q y hy=>by obtain ⟨i,rfl,_,h,_⟩:=segI_mem hy;omega
 have hC:∀ q,∀ y∈segI (x+1) m q,(x:Int) < y:=fun q y hy=>by obtain ⟨i,rfl,h,_,_⟩:=segI_mem hy;omega
 have e1:segI 0 x (fun i=>if i=x then true else p i)=segI 0 x p:=segI_congr fun i _ h=>by rw [if_neg (by omega)]
 have e2:segI (x+1) m (fun i=>if i=x then true else p i)=segI (x+1) m p:=segI_congr fun i h _=>by rw [if_neg (by omega)]
 have e3:segI x 1 (fun i=>if i=x then true else p i)=[(x:Int)]:=by simp [segI]
 rw [e1,e2,e3]
 cases hp:p x with
 | true =>
  have e4:segI x 1 p=[(x:Int)]:=by simp [segI,hp]
  rw [e4]
  exact (putI_app (hA p) (hC p)).2
 | false =>
  have e4:segI x 1 p=[]:=by simp [segI,hp]
  rw [e4,List.nil_append]
  exact (putI_app (hA p) (hC p)).1
theorem listI_congr {n:Nat} {p q:Nat→Bool} (h:∀ i,i < n→p i=q i):listI n p=listI n q:=by
 rw [listI_seg,listI_seg];exact segI_congr fun i _ hi=>h i (by omega)
theorem noRs_agg {fs:List D} (h:∀ d∈fs,noRs d=true):noRs (.agg fs)=true:=by simp only [noRs];exact noRsL_all h
theorem hasSl {α:Type} {f:α→D} {p:α→Prop} {T:Ty} (one:∀ x,HasTy T x→∃ a,x=f a∧p a) {d:D} (h:HasTy (.sl T) d):∃ l:List α,d=.sl T.cells (l.map f)∧l.length≤9223372036854775807∧∀ a∈l,p a:=by
 simp only [HasTy] at h
 obtain ⟨xs,rfl,hl,h⟩:=h
 have:∀ xs:List D,(∀ x∈xs,HasTy T x)→∃ l:List α,xs=l.map f∧∀ a∈l,p a:=by
  intro xs
  induction xs with
  | nil=>intro _;exact ⟨[],rfl,by simp⟩
  | cons x xs ih =>
   intro h
   obtain ⟨a,rfl,hp⟩:=one x (h x List.mem_cons_self)
   obtain ⟨l,rfl,hl⟩:=ih fun y hy=>h y (List.mem_cons_of_mem _ hy)
   exact ⟨a::l,rfl,fun b hb=>by
    rcases List.mem_cons.1 hb with rfl|hb
    · exact hp
    · exact hl b hb⟩
 obtain ⟨l,rfl,hp⟩:=this xs h
 exact ⟨l,rfl,by simpa [maxLen] using hl,hp⟩
theorem noRs_t2 {a b:D} (h1:noRs a=true) (h2:noRs b=true):noRs (.tup [a,b])=true:=by simp only [noRs,noRsL,h1,h2,Bool.and_self]
theorem noRs_t3 {a b c:D} (h1:noRs a=true) (h2:noRs b=true) (h3:noRs c=true):noRs (.tup [a,b,c])=true:=by simp only [noRs,noRsL,h1,h2,h3,Bool.and_self]
theorem mem_putI {l:List Int} {x y:Int}:y∈putI l x↔y=x∨y∈l:=by
 unfold putI
 split
 · rename_i h
   have:=List.mem_of_getElem? h
   constructor
   · exact .inr
   · rintro (rfl|h)
     · exact this
     · exact h
 · rw [List.mem_append,List.mem_cons]
   have:y∈l↔y∈l.take (putK l x)∨y∈l.drop (putK l x):=by rw [← List.mem_append,List.take_append_drop]
   rw [this]
   constructor
   · rintro (h|rfl|h)
     · exact .inr (.inl h)
     · exact .inl rfl
     · exact .inr (.inr h)
   · rintro (rfl|h|h)
     · exact .inr (.inl rfl)
     · exact .inl h
     · exact .inr (.inr h)
theorem hasI_iff {l:List Int} {x:Int}:hasI l x=true↔x∈l:=by
 unfold hasI
 rw [List.any_eq_true]
 exact ⟨fun ⟨y,h,e⟩=>by rw [← (by simpa using e:y=x)];exact h,fun h=>⟨x,h,by simp⟩⟩
theorem hasI_put {l:List Int} {x y:Int}:hasI (putI l x) y=(decide (y=x)||hasI l y):=by
 rw [Bool.eq_iff_iff,hasI_iff,mem_putI,Bool.or_eq_true,decide_eq_true_eq,hasI_iff]
def lackN (n:Nat) (so:List Int):Nat:=((List.range (n+1)).filter fun (i:Nat)=>!hasI so (i:Int)).length
theorem filter_lt {α:Type} {p q:α→Bool} {l:List α} {z:α} (hz:z∈l) (hp:p z=true) (hq:q z=false) (h:∀ y,q y=true→p y=true):(l.filter q).length < (l.filter p).length:=by
 have e:l.filter q=(l.filter p).filter q:=by
  rw [List.filter_filter]
  refine List.filter_congr fun y _=>?_
  cases hh:q y with
  | false=>simp
  | true=>simp [h y hh]
 rw [e]
 exact List.length_filter_lt_length_iff_exists.2 ⟨z,List.mem_filter.2 ⟨hz,hp⟩,by simp [hq]⟩
theorem lack_put {n:Nat} {so:List Int} {x:Int} (hx:0≤x∧x≤n) (h:hasI so x=false):lackN n (putI so x)+1≤lackN n so:=by
 unfold lackN
 have e:((x.toNat:Nat):Int)=x:=by omega
 refine Nat.succ_le_of_lt (filter_lt (z:=x.toNat) (by simp;omega) ?_ ?_ fun y hy=>?_)
 · rw [e,h];rfl
 · rw [e,hasI_put];simp
 · rw [hasI_put] at hy;simp at hy;simp [hy.2]
theorem lack_le {n:Nat} {so:List Int}:lackN n so≤n+1:=by
 unfold lackN
 exact Nat.le_trans (List.length_filter_le _ _) (by simp)
def readyR (so:List Int) (r:RuleD):Bool:=decide (r.thn > 0)&&!hasI so r.thn&&r.ifs.all (hasI so)
def ruleAt (l:List RuleD) (i:Nat):RuleD:=l.getD i ⟨[],0⟩
def leastI (l:List RuleD):Nat→List Int→List Int→List Int×List Int
 | 0,so,ap=>(so,ap)
 | f+1,so,ap=>match l.findIdx? (readyR so) with
  | none=>(so,ap)
  | some i=>leastI l f (putI so (ruleAt l i).thn) (ap++[(i:Int)])
theorem ruleAt_get {l:List RuleD} {i:Nat} (h:i < l.length):ruleAt l i=l[i]:=by
 unfold ruleAt;rw [List.getD_eq_getElem?_getD,List.getElem?_eq_getElem h];rfl
theorem ready_at {l:List RuleD} {so:List Int} {i:Nat} (h:l.findIdx? (readyR so)=some i):i < l.length∧readyR so (ruleAt l i)=true:=by
 rw [List.findIdx?_eq_some_iff_getElem] at h
 obtain ⟨hi,h,_⟩:=h
 exact ⟨hi,by rw [ruleAt_get hi];exact h⟩
theorem ready_thn {so:List Int} {r:RuleD} (h:readyR so r=true):0 < r.thn∧hasI so r.thn=false:=by
 simp only [readyR,Bool.and_eq_true,decide_eq_true_eq,Bool.not_eq_true'] at h
 exact ⟨h.1.1,h.1.2⟩
theorem ready_lack {n:Nat} {l:List RuleD} {so:List Int} {i:Nat} (hr:∀ r∈l,r.thn≤n) (h:l.findIdx? (readyR so)=some i):lackN n (putI so (ruleAt l i).thn)+1≤lackN n so:=by
 obtain ⟨hi,h⟩:=ready_at h
 have:=ready_thn h
 exact lack_put ⟨by omega,hr _ (by rw [ruleAt_get hi];exact List.getElem_mem hi)⟩ this.2
theorem least_fuel {n:Nat} {l:List RuleD} (hr:∀ r∈l,r.thn≤n):∀ (f g:Nat) (so ap:List Int),lackN n so≤f→lackN n so≤g→leastI l f so ap=leastI l g so ap:=by
 intro f
 induction f with
 | zero =>
  intro g so ap hf hg
  cases g with
  | zero=>rfl
  | succ g =>
   simp only [leastI]
   cases h:l.findIdx? (readyR so) with
   | none=>rfl
   | some i=>have:=ready_lack hr h;omega
 | succ f ih =>
  intro g so ap hf hg
  cases g with
  | zero =>
   simp only [leastI]
   cases h:l.findIdx? (readyR so) with
   | none=>rfl
   | some i=>have:=ready_lack hr h;omega
  | succ g =>
   simp only [leastI]
   cases h:l.findIdx? (readyR so) with
   | none=>rfl
   | some i =>
    have:=ready_lack hr h
    exact ih g _ _ (by omega) (by omega)
def leastP (l:List RuleD):List Int×List Int:=leastI l 14 [] []
theorem least_step {n:Nat} {l:List RuleD} (hn:n≤12) (hr:∀ r∈l,r.thn≤n) {so ap:List Int} {i:Nat} (h:l.findIdx? (readyR so)=some i):leastI l 14 (putI so (ruleAt l i).thn) (ap++[(i:Int)])=leastI l 14 so ap:=by
 have h1:leastI l 15 so ap=leastI l 14 (putI so (ruleAt l i).thn) (ap++[(i:Int)]):=by simp only [leastI,h]
 have hl:=lack_le (n:=n) (so:=so)
 rw [← h1]
 exact least_fuel hr _ _ _ _ (by omega) (by omega)
structure LeastOk (n:Nat) (l:List RuleD) (so ap:List Int):Prop where
 same:leastI l 14 so ap=leastP l
 sort:so=listI (n+1) fun i=>hasI so (i:Int)
 few:so.length≤ap.length
 left:ap.length+lackN n so≤n+1
 apl:∀ i∈ap,0≤i∧i < l.length∧0 < (ruleAt l i.toNat).thn
theorem LeastOk.start {n:Nat} {l:List RuleD}:LeastOk n l [] [] where
 same:=rfl
 sort:=by
  have:listI (n+1) (fun i=>hasI [] (i:Int))=[]:=by
   unfold listI;rw [List.filter_eq_nil_iff.2 (by intro i _;simp [hasI])];rfl
  rw [this]
 few:=by simp
 left:=by have:=lack_le (n:=n) (so:=[]);simpa using this
 apl:=by simp
theorem LeastOk.next {n:Nat} {l:List RuleD} {so ap:List Int} (hn:n≤12) (hr:∀ r∈l,r.thn≤n) (h:LeastOk n l so ap) {i:Nat} (hi:l.findIdx? (readyR so)=some i):LeastOk n l (putI so (ruleAt l i).thn) (ap++[(i:Int)]) where
 same:=by rw [least_step hn hr hi];exact h.same
 sort:=by
  obtain ⟨h1,h2⟩:=ready_at hi
  have h3:=ready_thn h2
  have h4:(ruleAt l i).thn≤n:=hr _ (by rw [ruleAt_get h1];exact List.getElem_mem h1)
  have hp:=putI_list (n:=n+1) (p:=fun i=>hasI so (i:Int)) (x:=(ruleAt l i).thn.toNat) (by omega)
  rw [← h.sort,show (((ruleAt l i).thn.toNat:Nat):Int)=(ruleAt l i).thn by omega] at hp
  rw [hp]
  refine listI_congr fun j hj=>?_
  rw [← hp,hasI_put]
  by_cases e:j=(ruleAt l i).thn.toNat
  · rw [if_pos e];simp;omega
  · rw [if_neg e]
    have:¬ ((j:Int)=(ruleAt l i).thn):=by omega
    simp [this]
 few:=by have:=putI_len so (ruleAt l i).thn;have:=h.few;simp;omega
 left:=by have:=ready_lack hr hi;have:=h.left;simp;omega
 apl:=fun j hj=>by
  rcases List.mem_append.1 hj with hj|hj
  · exact h.apl j hj
  · obtain ⟨h1,h2⟩:=ready_at hi
    have:j=i:=by simpa using hj
    subst this
    exact ⟨by omega,by omega,by rw [Int.toNat_natCast];exact (ready_thn h2).1⟩
theorem LeastOk.len {n:Nat} {l:List RuleD} {so ap:List Int} (h:LeastOk n l so ap) (hn:n≤12):so.length≤13∧ap.length≤13:=by
 have:=h.few;have:=h.left;omega
theorem slices_Clone__sint_int.fc (l:List Int) (hl:l.length≤4294967296):FCt prog F_slices_Clone__sint_int [.ro] [ints l] (ints l) []:=by
 refine fct_run slices_Clone__sint_int.ok rfl ?_
 have hsc:(l.map Ii).all isSc=true:=by rw [List.all_eq_true];intro d hd;obtain ⟨x,_,rfl⟩:=List.mem_map.1 hd;rfl
 cases l with
 | nil=>simp only [go_sem,List.length_nil,List.map_nil,List.all_nil];try rfl
 | cons b l =>
  have hb:(l.length+1) * 8≤70368744177664:=by simp only [List.length_cons] at hl;omega
  have htk:(l.map Ii).take l.length=l.map Ii:=List.take_of_length_le (by simp)
  simp only [List.map_cons,List.all_cons,Bool.and_eq_true] at hsc
  have h1:=hsc.1
  have h2:=hsc.2
  simp only [go_sem,h1,h2,hb,Nat.zero_le,htk]
  try rfl
abbrev strD (x:(Int×Int)):D:=.agg [Ii x.1,Ii x.2]
abbrev knownD (x:(Int×Int)):D:=.agg [Ii x.1,Ii x.2]
abbrev strs (l:List (Int×Int)):D:=.sl 2 (l.map strD)
abbrev knowns (l:List (Int×Int)):D:=.sl 2 (l.map knownD)
structure MayD where
 reg:List (Int×Int)
 bits:List (Int×Int)
 cell:List (Int×Int)
 isset:List Bool
 deriving DecidableEq
abbrev MayD.d (x:MayD):D:=.agg [strs x.reg,knowns x.bits,strs x.cell,bools x.isset]
def gS (x:Int×Int):Bool:=goodS x.1 x.2
def gK (x:Int×Int):Bool:=goodK x.1 x.2
structure MayOk (m:MayD):Prop where
 reg:m.reg.length=6
 bits:m.bits.length=6
 cell:m.cell.length=16
 isset:m.isset.length=16
 gr:∀ x∈m.reg,gS x=true
 gb:∀ x∈m.bits,gK x=true
 gc:∀ x∈m.cell,gS x=true
theorem eq_dec {a b:Nat}:((a:Int) == (b:Int))=decide (a=b):=by
 by_cases h:a=b
 · subst h;simp
 · have:((a:Int) == (b:Int))=false:=by rw [beq_eq_false_iff_ne];omega
   rw [this];simp [h]
structure MachD where
 pc:Int
 regs:List Int
 cells:List Int
 isset:List Bool
 deriving DecidableEq
abbrev MachD.d (x:MachD):D:=.agg [Ii x.pc,ints x.regs,ints x.cells,bools x.isset]
theorem noRs_Machine {x:MachD}:noRs (MachD.d x)=true:=noRs_agg fun d hd=>by
 rcases List.mem_cons.1 hd with rfl|hd
 · exact rfl
 rcases List.mem_cons.1 hd with rfl|hd
 · exact noRs_ints
 rcases List.mem_cons.1 hd with rfl|hd
 · exact noRs_ints
 rcases List.mem_cons.1 hd with rfl|hd
 · exact noRs_bools
 cases hd
def wMachine (x:MachD):Nat:=x.regs.length+x.cells.length+x.isset.length
def isW (n:Int):Bool:=inB n 0 65535
theorem impl_areWords_c1.fc (n:Int):FCt prog F_impl_areWords_c1 [.ro] [Ii n] (Bb (!isW n)) []:=by
 refine fct_run impl_areWords_c1.ok rfl ?_
 simp only [go_sem]
 refine fcW_bool (impl_isWord.fc n) ?_
 simp only [go_sem]
 rfl
theorem impl_areWords.fc (l:List Int) (hl:l.length≤4294967296):FCt prog F_impl_areWords [.ro] [ints l] (Bb (l.all isW)) []:=by
 refine fct_run impl_areWords.ok rfl ?_
 simp only [go_sem]
 refine fcW_bool (slices_ContainsFunc__sint_int.fc l F_impl_areWords_c1 [] (fun n=>!isW n) hl (fun n _=>impl_areWords_c1.fc n)) ?_
 have e:l.any (fun n=>!isW n) = !l.all isW:=by rw [List.not_all_eq_any_not]
 simp only [go_sem,e,Bool.not_not]
theorem spec_l1All.fc (l:List Int) (lo hi:Int) (hl:l.length≤4294967296):FCt prog F_spec_l1All [.ro,.ro,.ro] [ints l,Ii lo,Ii hi] (Bb (l.all fun n=>inB n lo hi)) []:=by
 refine fct_run spec_l1All.ok rfl ?_
 simp only [go_sem]
 refine R_loop (α:=Nat) (fun k s' M'=>k≤l.length∧s' 11=aI k∧(l.take k).all (fun n=>inB n lo hi)=true) (fun k=>l.length - k) 0 ⟨by omega,by simp only [go_sem];rfl,by simp⟩ ?_
 rintro k s' M' ⟨hk,h11,hr⟩ ho
 unfold spec_l1All.b0
 have k1:s' 1=aI lo:=by rw [ho 1 rfl];simp only [go_sem]
 have k2:s' 2=aI hi:=by rw [ho 2 rfl];simp only [go_sem]
 have k9:s' 9=.dat none (ints l):=by rw [ho 9 rfl];simp only [go_sem]
 have k10:s' 10=aI l.length:=by rw [ho 10 rfl];simp only [go_sem]
 clear ho
 by_cases hlt:k < l.length
 · have hi':(k:Int) < l.length:=by omega
   have ga:l[k]? = some l[k]:=List.getElem?_eq_getElem hlt
   have hw:IntKind.i64.wrap (k+1)=((k+1:Nat):Int):=wrap_k hlt (by omega)
   simp only [go_sem,hi',ga,k1,k2,k9,k10,h11]
   refine fcW_bool (spec_l1In.fc l[k] lo hi) ?_
   cases hc:inB l[k] lo hi with
   | false=>simp only [go_sem,not_all (p:=fun n=>inB n lo hi) hlt hc,k1,k2,k9,k10,h11]
   | true =>
    simp only [go_sem,hw,k1,k2,k9,k10,h11]
    exact ⟨k+1,by dsimp only;omega,by omega,by simp only [go_sem,k1,k2,k9,k10,h11],all_take hlt hr hc⟩
 · have hi':¬ (k:Int) < l.length:=by omega
   obtain rfl:k=l.length:=by omega
   rw [List.take_length] at hr
   simp only [go_sem,hi',hr,k1,k2,k9,k10,h11]
structure MachOk (m:MachD):Prop where
 pc:0≤m.pc∧m.pc≤19
 regs:m.regs.length=6
 cells:m.cells.length=16
 isset:m.isset.length=16
 wr:∀ x∈m.regs,0≤x∧x≤65535
 wc:∀ x∈m.cells,0≤x∧x≤65535
def goodMach (m:MachD):Bool:=inB m.pc 0 19&&((m.regs.length:Int) == 6)&&((m.cells.length:Int) == 16)&&((m.isset.length:Int) == 16)&&m.regs.all isW&&m.cells.all isW
theorem goodMach_ok {m:MachD} (h:goodMach m=true):MachOk m:=by
 simp only [goodMach,Bool.and_eq_true,List.all_eq_true,beq_iff_eq,inB,decide_eq_true_eq,isW] at h
 exact ⟨h.1.1.1.1.1,by omega,by omega,by omega,h.1.2,h.2⟩
theorem impl_GoodMachine.fc (m:MachD) (h:wMachine m≤4194304):FCt prog F_impl_GoodMachine [.ro] [m.d] (Bb (goodMach m)) []:=by
 refine fct_run impl_GoodMachine.ok rfl ?_
 have h:=h
 unfold wMachine at h
 unfold goodMach
 simp only [go_sem]
 refine fcW_bool (impl_in.fc m.pc 0 19) ?_
 cases inB m.pc 0 19 with
 | false=>simp only [go_sem]
 | true =>
  cases b1:((m.regs.length:Int) == 6) with
  | false=>simp only [go_sem,b1]
  | true =>
   cases b2:((m.cells.length:Int) == 16) with
   | false=>simp only [go_sem,b1,b2]
   | true =>
    cases b3:((m.isset.length:Int) == 16) with
    | false=>simp only [go_sem,b1,b2,b3]
    | true =>
     simp only [go_sem,b1,b2,b3]
     refine fcW_bool (impl_areWords.fc m.regs (by omega)) ?_
     cases m.regs.all isW with
     | false=>simp only [go_sem]
     | true =>
      simp only [go_sem]
      refine fcW_bool (impl_areWords.fc m.cells (by omega)) ?_
      simp only [go_sem]
theorem spec_GoodMachine.fc (m:MachD) (h:wMachine m≤4194304):FCt prog F_spec_GoodMachine [.ro] [m.d] (Bb (goodMach m)) []:=by
 refine fct_run spec_GoodMachine.ok rfl ?_
 have h:=h
 unfold wMachine at h
 have er:∀ l:List Int,l.all isW=l.all (fun n=>inB n 0 65535):=fun l=>rfl
 unfold goodMach
 simp only [er]
 simp only [go_sem]
 refine fcW_bool (spec_l1In.fc m.pc 0 19) ?_
 cases inB m.pc 0 19 with
 | false=>simp only [go_sem]
 | true =>
  cases b1:((m.regs.length:Int) == 6) with
  | false=>simp only [go_sem,b1]
  | true =>
   simp only [go_sem,b1]
   refine fcW_bool (spec_l1All.fc m.regs 0 65535 (by omega)) ?_
   cases m.regs.all (fun n=>inB n 0 65535) with
   | false=>simp only [go_sem]
   | true =>
    cases b2:((m.cells.length:Int) == 16) with
    | false=>simp only [go_sem,b2]
    | true =>
     simp only [go_sem,b2]
     refine fcW_bool (spec_l1All.fc m.cells 0 65535 (by omega)) ?_
     cases m.cells.all (fun n=>inB n 0 65535) with
     | false=>simp only [go_sem]
     | true=>simp only [go_sem]
theorem all_range {p:Nat→Bool} {k:Nat} (h:(List.range k).all p=true) (h2:p k=true):(List.range (k+1)).all p=true:=by
 rw [List.range_succ,List.all_append,h];simpa using h2
theorem not_range {p:Nat→Bool} {n k:Nat} (hk:k < n) (h2:p k=false):(List.range n).all p=false:=by
 rw [← Bool.not_eq_true,List.all_eq_true]
 intro h
 have:=h k (by simpa using hk)
 rw [h2] at this;cases this
theorem getD_get {α:Type} {l:List α} {i:Nat} {d:α} (h:i < l.length):l.getD i d=l[i]:=by rw [List.getD_eq_getElem?_getD,List.getElem?_eq_getElem h];rfl
def orI (a b:Int):Int:=IntKind.i64.wrap (BitVec.ofInt IntKind.i64.bits a ||| BitVec.ofInt IntKind.i64.bits b).toNat
def xorI (a b:Int):Int:=IntKind.i64.wrap (BitVec.ofInt IntKind.i64.bits a ^^^ BitVec.ofInt IntKind.i64.bits b).toNat
def nn (a:Int):Prop:=0≤a∧a < 9223372036854775808
theorem bv_nn {a:Int} (h:nn a):(BitVec.ofInt IntKind.i64.bits a).toNat=a.toNat:=by
 obtain ⟨h1,h2⟩:=h
 show (BitVec.ofInt 64 a).toNat=a.toNat
 rw [BitVec.toNat_ofInt]
 omega
theorem bvI_nn {a:Int} (h:nn a):BitVec.ofInt IntKind.i64.bits a=BitVec.ofNat 64 a.toNat:=by
 apply BitVec.eq_of_toNat_eq
 rw [bv_nn h]
 show _=(BitVec.ofNat 64 a.toNat).toNat
 rw [BitVec.toNat_ofNat]
 obtain ⟨h1,h2⟩:=h
 omega
def wd (a:Int):Prop:=0≤a∧a≤65535
theorem wd.nn {a:Int} (h:wd a):nn a:=⟨h.1,by have:=h.2;omega⟩
theorem wd.lt {a:Int} (h:wd a):a.toNat < 2 ^ 16:=by obtain ⟨h1,h2⟩:=h;omega
theorem andI_mask (n:Int):andI n 65535=n % 65536:=by
 unfold andI
 have e:(BitVec.ofInt IntKind.i64.bits n &&& BitVec.ofInt IntKind.i64.bits 65535).toNat=(n % 65536).toNat:=by
  rw [BitVec.toNat_and,bv_nn (a:=65535) ⟨by decide,by decide⟩]
  show (BitVec.ofInt 64 n).toNat &&& 65535=_
  rw [show (65535:Nat)=2 ^ 16 - 1 from rfl,Nat.and_two_pow_sub_one_eq_mod,BitVec.toNat_ofInt]
  omega
 rw [e,wrap_in (by omega) (by omega)]
 omega
theorem emod_wd (n:Int):wd (n % 65536):=⟨by omega,by omega⟩
theorem tmod_cases (n:Int):Int.tmod n 65536=n % 65536∨Int.tmod n 65536=n % 65536 - 65536:=by
 rcases Int.le_total 0 n with h|h
 · exact .inl (Int.tmod_eq_emod_of_nonneg h)
 · obtain ⟨m,rfl⟩:∃ m:Int,n = -m:=⟨-n,by omega⟩
   have:Int.tmod m 65536=m % 65536:=Int.tmod_eq_emod_of_nonneg (by omega)
   rw [Int.neg_tmod,this]
   omega
theorem wrap_ref {n:Int}:Int.tmod (IntKind.i64.wrap (Int.tmod n 65536+65536)) 65536=n % 65536:=by
 have h0:=tmod_cases n
 rw [wrap_in (x:=Int.tmod n 65536+65536) (by omega) (by omega),Int.tmod_eq_emod_of_nonneg (by omega)]
 omega
abbrev bI (a:Int):BitVec 64:=BitVec.ofInt 64 a
theorem wrap_bv (x:BitVec 64):IntKind.i64.wrap (x.toNat:Int)=x.toInt:=by
 rw [BitVec.toInt_eq_toNat_bmod]
 simp [IntKind.wrap,IntKind.signed,IntKind.bits,Int.bmod]
 have:=x.isLt
 split<;>split<;>omega
theorem andI_bv (a b:Int):andI a b=(bI a &&& bI b).toInt:=wrap_bv _
theorem orI_bv (a b:Int):orI a b=(bI a ||| bI b).toInt:=wrap_bv _
theorem xorI_bv (a b:Int):xorI a b=(bI a ^^^ bI b).toInt:=wrap_bv _
theorem bI_wd {a:Int} (h:wd a) {i:Nat} (hi:16≤i):(bI a).getLsbD i=false:=by
 rw [show bI a=BitVec.ofNat 64 a.toNat from bvI_nn h.nn,BitVec.getLsbD_ofNat]
 have:a.toNat.testBit i=false:=Nat.testBit_lt_two_pow (Nat.lt_of_lt_of_le h.lt (Nat.pow_le_pow_right (by omega) hi))
 simp [this]
theorem wd_of_bits {x:BitVec 64} (h:∀ i,16≤i→x.getLsbD i=false):wd x.toInt:=by
 have hl:x.toNat < 2 ^ 16:=by
  refine Nat.lt_pow_two_of_testBit _ fun i hi=>?_
  rw [← BitVec.getLsbD];exact h i hi
 rw [BitVec.toInt_eq_toNat_of_lt (by omega)]
 exact ⟨by omega,by omega⟩
theorem andI_wd {a b:Int} (h:wd a):wd (andI a b):=by
 rw [andI_bv];exact wd_of_bits fun i hi=>by rw [BitVec.getLsbD_and,bI_wd h hi,Bool.false_and]
theorem orI_wd {a b:Int} (h:wd a) (h2:wd b):wd (orI a b):=by
 rw [orI_bv];exact wd_of_bits fun i hi=>by rw [BitVec.getLsbD_or,bI_wd h hi,bI_wd h2 hi,Bool.false_or]
theorem xorI_wd {a b:Int} (h:wd a) (h2:wd b):wd (xorI a b):=by
 rw [xorI_bv];exact wd_of_bits fun i hi=>by rw [BitVec.getLsbD_xor,bI_wd h hi,bI_wd h2 hi];rfl
theorem cdW_not {A B:Prop} {t:Bool} (h1:t=false→A) (h2:t=true→B):@cdW (some (!t)) ⟨A⟩ ⟨B⟩:=by
 cases t
 · exact h1 rfl
 · exact h2 rfl
theorem gdW_not {A B:Prop} {t b:Bool} (h1:t = !b→A) (h2:t=b→B):@gdW (some (some (!t))) b ⟨A⟩ ⟨B⟩:=by
 cases t<;>cases b
 · exact h2 rfl
 · exact h1 rfl
 · exact h1 rfl
 · exact h2 rfl
theorem impl_WordOf.fc (n:Int):FCt prog F_impl_WordOf [.ro] [Ii n] (Ii (n % 65536)) []:=by
 refine fct_run impl_WordOf.ok rfl ?_
 rw [← andI_mask]
 unfold andI
 simp only [go_sem]
theorem spec_l1Wrap.fc (n:Int):FCt prog F_spec_l1Wrap [.ro] [Ii n] (Ii (n % 65536)) []:=by
 refine fct_run spec_l1Wrap.ok rfl ?_
 simp only [go_sem,Int.reduceEq]
 rw [wrap_ref]
def doI (op a b:Int):Int :=
 if op == 1 then IntKind.i64.wrap (a+b) % 65536 else if op == 2 then IntKind.i64.wrap (a - b) % 65536 else if op == 3 then IntKind.i64.wrap (a * b) % 65536
 else if op == 4 then (if b == 0 then 0 else IntKind.i64.wrap (Int.tdiv a b)) else if op == 5 then (if b == 0 then a else Int.tmod a b)
 else if op == 6 then andI a b else if op == 7 then orI a b else if op == 8 then xorI a b
 else if op == 9 then IntKind.i64.wrap (a * 2 ^ min (Int.tmod b 16).toNat IntKind.i64.bits) % 65536 else Int.fdiv a (2 ^ min (Int.tmod b 16).toNat IntKind.i64.bits)
theorem tmod16 {b:Int} (hb:0≤b):0≤Int.tmod b 16∧Int.tmod b 16 < 16:=by
 rw [Int.tmod_eq_emod_of_nonneg hb];omega
theorem wrap_u64 {n:Int} (h:0≤n) (h2:n < 18446744073709551616):IntKind.u64.wrap n=n:=by
 simp [IntKind.wrap,IntKind.signed,IntKind.bits];omega
theorem impl_do.fc (op a b:Int) (hb:0≤b):FCt prog F_impl_do [.ro,.ro,.ro] [Ii op,Ii a,Ii b] (Ii (doI op a b)) []:=by
 refine fct_run impl_do.ok rfl ?_
 have h1:¬ Int.tmod b 16 < 0:=by have:=(tmod16 hb).1;omega
 unfold doI andI orI xorI
 have h2:b=0∨b≠0:=by omega
 have h3:(b == 0)=decide (b=0):=by by_cases h:b=0<;>simp [h]
 rcases h2 with h2|h2
 · subst h2
   repeat' (first|with_reducible rfl|refine fcW_int (impl_WordOf.fc ..) ?_|with_reducible refine cdW_dec (fun _=>?_) (fun _=>?_)|refine cdW_not (fun _=>?_) (fun _=>?_)|refine cdW_any (fun _=>?_) (fun _=>?_)|with_reducible refine gdW_decT (fun _=>?_) (fun _=>?_)|with_reducible refine gdW_decF (fun _=>?_) (fun _=>?_)|refine gdW_not (fun _=>?_) (fun _=>?_)|refine gdW_any (fun _=>?_) (fun _=>?_)|simp only [go_sem,bne,iQ,iB,iX,Int.reduceLE,iN,iA,iS,iM,iQ, *]|rfl)
 · repeat' (first|with_reducible rfl|refine fcW_int (impl_WordOf.fc ..) ?_|with_reducible refine cdW_dec (fun _=>?_) (fun _=>?_)|refine cdW_not (fun _=>?_) (fun _=>?_)|refine cdW_any (fun _=>?_) (fun _=>?_)|with_reducible refine gdW_decT (fun _=>?_) (fun _=>?_)|with_reducible refine gdW_decF (fun _=>?_) (fun _=>?_)|refine gdW_not (fun _=>?_) (fun _=>?_)|refine gdW_any (fun _=>?_) (fun _=>?_)|simp only [go_sem,bne,iQ,iB,iX,Int.reduceLE,iN,iA,iS,iM,iQ,decide_false, *]|rfl)
theorem spec_l1Do.fc (op a b:Int) (hb:0≤b):FCt prog F_spec_l1Do [.ro,.ro,.ro] [Ii op,Ii a,Ii b] (Ii (doI op a b)) []:=by
 refine fct_run spec_l1Do.ok rfl ?_
 have h1:¬ Int.tmod b 16 < 0:=by have:=(tmod16 hb).1;omega
 have h4:IntKind.u64.wrap (Int.tmod b 16)=Int.tmod b 16:=wrap_u64 (tmod16 hb).1 (by have:=(tmod16 hb).2;omega)
 unfold doI andI orI xorI
 have h2:b=0∨b≠0:=by omega
 have h3:(b == 0)=decide (b=0):=by by_cases h:b=0<;>simp [h]
 rcases h2 with h2|h2
 · subst h2
   repeat' (first|with_reducible rfl|refine fcW_int (spec_l1Wrap.fc ..) ?_|with_reducible refine cdW_dec (fun _=>?_) (fun _=>?_)|refine cdW_not (fun _=>?_) (fun _=>?_)|refine cdW_any (fun _=>?_) (fun _=>?_)|with_reducible refine gdW_decT (fun _=>?_) (fun _=>?_)|with_reducible refine gdW_decF (fun _=>?_) (fun _=>?_)|refine gdW_not (fun _=>?_) (fun _=>?_)|refine gdW_any (fun _=>?_) (fun _=>?_)|simp only [go_sem,bne,iQ,iB,iX,Int.reduceLE,iN,iA,iS,iM,iQ, *]|rfl)
 · repeat' (first|with_reducible rfl|refine fcW_int (spec_l1Wrap.fc ..) ?_|with_reducible refine cdW_dec (fun _=>?_) (fun _=>?_)|refine cdW_not (fun _=>?_) (fun _=>?_)|refine cdW_any (fun _=>?_) (fun _=>?_)|with_reducible refine gdW_decT (fun _=>?_) (fun _=>?_)|with_reducible refine gdW_decF (fun _=>?_) (fun _=>?_)|refine gdW_not (fun _=>?_) (fun _=>?_)|refine gdW_any (fun _=>?_) (fun _=>?_)|simp only [go_sem,bne,iQ,iB,iX,Int.reduceLE,iN,iA,iS,iM,iQ,decide_false, *]|rfl)
set_option maxHeartbeats 8000000
structure MLen (m:MayD):Prop where
 reg:m.reg.length=6
 bits:m.bits.length=6
 cell:m.cell.length=16
 isset:m.isset.length=16
theorem MayOk.len {m:MayD} (h:MayOk m):MLen m:=⟨h.reg,h.bits,h.cell,h.isset⟩
theorem sc_all {α:Type} {f:α→D} (hf:∀ x,isSc (f x)=true) (l:List α):(l.map f).all isSc=true:=by
 rw [List.all_eq_true];intro d hd;obtain ⟨x,_,rfl⟩:=List.mem_map.1 hd;exact hf x
section
variable {α:Type} {A B:List α} {k:Nat} {f:α→D}
end
structure StepD where
 kind:Int
 op:Int
 dst:Int
 src:Int
 imm:Int
 to:Int
 deriving DecidableEq
abbrev StepD.d (x:StepD):D:=.agg [Ii x.kind,Ii x.op,Ii x.dst,Ii x.src,Ii x.imm,Ii x.to]
abbrev steps (l:List StepD):D:=.sl 6 (l.map StepD.d)
theorem noRs_steps {l:List StepD}:noRs (steps l)=true:=noRs_sl (by
 intro d hd
 obtain ⟨x,_,rfl⟩:=List.mem_map.1 hd
 exact rfl)
theorem spec_l2Reg.fc (n:Int):FCt prog F_spec_l2Reg [.ro] [Ii n] (Bb (inB n 0 5)) []:=by
 refine fct_run spec_l2Reg.ok rfl ?_
 repeat' (first|with_reducible rfl|refine fcW_bool (spec_l1In.fc ..) ?_|with_reducible refine cdW_dec (fun _=>?_) (fun _=>?_)|refine cdW_not (fun _=>?_) (fun _=>?_)|refine cdW_any (fun _=>?_) (fun _=>?_)|with_reducible refine gdW_decT (fun _=>?_) (fun _=>?_)|with_reducible refine gdW_decF (fun _=>?_) (fun _=>?_)|refine gdW_not (fun _=>?_) (fun _=>?_)|refine gdW_any (fun _=>?_) (fun _=>?_)|simp only [go_sem,bne,iQ,iB,iX,Int.reduceLE,iN,iA,iS,iM, *]|rfl)
def zeroB (s:StepD) (op dst src imm to:Bool):Bool:=(op||s.op == 0)&&(dst||s.dst == 0)&&(src||s.src == 0)&&(imm||s.imm == 0)&&(to||s.to == 0)
theorem spec_l2Zero.fc (s:StepD) (op dst src imm to:Bool):FCt prog F_spec_l2Zero [.ro,.ro,.ro,.ro,.ro,.ro] [s.d,Bb op,Bb dst,Bb src,Bb imm,Bb to] (Bb (zeroB s op dst src imm to)) []:=by
 refine fct_run spec_l2Zero.ok rfl ?_
 unfold zeroB
 repeat' (first|with_reducible rfl|with_reducible refine cdW_dec (fun _=>?_) (fun _=>?_)|refine cdW_not (fun _=>?_) (fun _=>?_)|refine cdW_any (fun _=>?_) (fun _=>?_)|with_reducible refine gdW_decT (fun _=>?_) (fun _=>?_)|with_reducible refine gdW_decF (fun _=>?_) (fun _=>?_)|refine gdW_not (fun _=>?_) (fun _=>?_)|refine gdW_any (fun _=>?_) (fun _=>?_)|simp only [go_sem,bne,iQ,iB,iX,Int.reduceLE,iN,iA,iS,iM, *]|rfl)
def stepB (s:StepD):Bool :=
 if !inB s.dst 0 5 then false else if !inB s.src 0 5 then false else
 if s.kind == 1 then inB s.op 1 10&&zeroB s true true true false false else
 if s.kind == 2 then inB s.op 1 10&&inB s.imm 0 255&&zeroB s true true false true false else
 if s.kind == 3 then inB s.imm 0 255&&zeroB s false true false true false else
 if s.kind == 4 then inB s.imm 256 65535&&zeroB s false true false true false else
 if s.kind == 5 then inB s.imm 0 7&&zeroB s false true true true false else
 if s.kind == 6 then inB s.imm 0 255&&zeroB s false true false true false else
 if s.kind == 7 then inB s.imm 0 255&&zeroB s false true false true false else
 if s.kind == 8 then inB s.to 1 19&&zeroB s false false false false true else
 if s.kind == 9 then inB s.to 1 19&&zeroB s false true true false true else
 if s.kind == 10 then inB s.to 1 19&&zeroB s false true true false true else
 (s.kind == 11)&&zeroB s false false false false false
theorem spec_l2Step.fc (s:StepD):FCt prog F_spec_l2Step [.ro] [s.d] (Bb (stepB s)) []:=by
 refine fct_run spec_l2Step.ok rfl ?_
 unfold stepB
 repeat' (first|with_reducible rfl|refine fcW_bool (spec_l1In.fc ..) ?_|refine fcW_bool (spec_l2Reg.fc ..) ?_|refine fcW_bool (spec_l2Zero.fc ..) ?_|with_reducible refine cdW_dec (fun _=>?_) (fun _=>?_)|refine cdW_not (fun _=>?_) (fun _=>?_)|refine cdW_any (fun _=>?_) (fun _=>?_)|with_reducible refine gdW_decT (fun _=>?_) (fun _=>?_)|with_reducible refine gdW_decF (fun _=>?_) (fun _=>?_)|refine gdW_not (fun _=>?_) (fun _=>?_)|refine gdW_any (fun _=>?_) (fun _=>?_)|simp only [go_sem,bne,iQ,iB,iX,Int.reduceLE,iN,iA,iS,iM, *]|rfl)
def fldL (k:Int):List UInt8 :=
 if k == 1 then [111,100,115] else if k == 2 then [111,100,105] else if k == 3 then [100,105] else if k == 4 then [100,105] else if k == 6 then [100,105] else if k == 7 then [100,105] else
 if k == 5 then [100,115,105] else if k == 8 then [116] else if k == 9 then [100,115,116] else if k == 10 then [100,115,116] else []
def strL (l:List UInt8):ByteArray:=⟨l.toArray⟩
theorem impl_fields.fc (k:Int):FCt prog F_impl_fields [.ro] [Ii k] (.str (strL (fldL k))) []:=by
 refine fct_run impl_fields.ok rfl ?_
 unfold fldL
 repeat' (first|with_reducible rfl|with_reducible refine cdW_dec (fun _=>?_) (fun _=>?_)|refine cdW_not (fun _=>?_) (fun _=>?_)|refine cdW_any (fun _=>?_) (fun _=>?_)|with_reducible refine gdW_decT (fun _=>?_) (fun _=>?_)|with_reducible refine gdW_decF (fun _=>?_) (fun _=>?_)|refine gdW_not (fun _=>?_) (fun _=>?_)|refine gdW_any (fun _=>?_) (fun _=>?_)|simp only [go_sem,bne,iQ,iB,iX,Int.reduceLE,iN,iA,iS,iM, *]|rfl)
 all_goals rfl
def rgF (k:Int) (c:Int):Int×Int :=
 if c == 111 then (1,10) else if c == 100 then (0,5) else if c == 115 then (0,5) else if c == 116 then (1,19) else
 if k == 4 then (256,65535) else if k == 5 then (0,7) else (0,255)
theorem impl_Step_ranges.fc (s:StepD) (c:Int):FCt prog F_impl_Step_ranges [.ro,.ro] [s.d,.int .u8 c] (.tup [Ii (rgF s.kind c).1,Ii (rgF s.kind c).2]) []:=by
 refine fct_run impl_Step_ranges.ok rfl ?_
 unfold rgF
 repeat' (first|with_reducible rfl|with_reducible refine cdW_dec (fun _=>?_) (fun _=>?_)|refine cdW_not (fun _=>?_) (fun _=>?_)|refine cdW_any (fun _=>?_) (fun _=>?_)|with_reducible refine gdW_decT (fun _=>?_) (fun _=>?_)|with_reducible refine gdW_decF (fun _=>?_) (fun _=>?_)|refine gdW_not (fun _=>?_) (fun _=>?_)|refine gdW_any (fun _=>?_) (fun _=>?_)|simp only [go_sem,bne,iQ,iB,iX,Int.reduceLE,iN,iA,iS,iM, *]|rfl)
theorem field_pc {c:Int} {j:Nat} (h:c=111∧j=1∨c=100∧j=2∨c=115∧j=3∨c=105∧j=4∨c=116∧j=5):PCt prog F_impl_pStep_field (.int .u8 c) j:=by
 refine ⟨by kernel_rfl,?_⟩
 intro X w a v hv
 simp only [TV] at hv
 obtain ⟨rfl,_⟩:=hv
 rcases h with ⟨rfl,rfl⟩|⟨rfl,rfl⟩|⟨rfl,rfl⟩|⟨rfl,rfl⟩|⟨rfl,rfl⟩ <;>
 · go_enter Go.Proofs.Try.func173,Go.Proofs.Try.ntmps173
   go_wp2
   go_ret
   exact ⟨rfl,rfl⟩
def getF (s:StepD) (c:UInt8):Int:=if c=111 then s.op else if c=100 then s.dst else if c=115 then s.src else if c=105 then s.imm else s.to
def clrF (s:StepD) (c:UInt8):StepD:=if c=111 then { s with op:=0 } else if c=100 then { s with dst:=0 } else if c=115 then { s with src:=0 } else if c=105 then { s with imm:=0 } else { s with to:=0 }
def okF (s:StepD) (c:UInt8):Bool:=inB (getF s c) (rgF s.kind c.toNat).1 (rgF s.kind c.toNat).2
def restF (s:StepD) (l:List UInt8):StepD:=l.foldl clrF { s with kind:=0 }
def validB (s:StepD):Bool:=(fldL s.kind).all (okF s)&&(inB s.kind 1 11&&(restF s (fldL s.kind) == ⟨0,0,0,0,0,0⟩))
theorem fldL_len (k:Int):(fldL k).length≤3:=by
 unfold fldL;repeat' (split<;>try decide)
theorem fldL_mem {k:Int} {c:UInt8} (h:c∈fldL k):c=111∨c=100∨c=115∨c=105∨c=116:=by
 have:(fldL k).all (fun c=>c == 111||c == 100||c == 115||c == 105||c == 116)=true:=by
  unfold fldL;repeat' split
  all_goals rfl
 have:=List.all_eq_true.1 this c h
 simp only [Bool.or_eq_true,beq_iff_eq] at this
 rcases this with (((h|h)|h)|h)|h<;>simp [h]
theorem valid_not {s:StepD} {i:Nat} (h:i < (fldL s.kind).length) (h2:okF s (fldL s.kind)[i]=false):validB s=false:=by
 unfold validB;rw [not_all h h2];rfl
theorem rest_step {s:StepD} {l:List UInt8} {i:Nat} (h:i < l.length):restF s (l.take (i+1))=clrF (restF s (l.take i)) l[i]:=by
 unfold restF;rw [take_succ' h,List.foldl_append];rfl
theorem impl_Step_valid.fc (s:StepD):FCt prog F_impl_Step_valid [.ro] [s.d] (Bb (validB s)) []:=by
 refine fct_run impl_Step_valid.ok rfl ?_
 simp only [go_sem]
 refine fcW_str (impl_fields.fc s.kind) ?_
 have hln:=fldL_len s.kind
 have hsz:(strL (fldL s.kind)).size=(fldL s.kind).length:=rfl
 simp only [go_sem,hsz]
 refine R_loop (α:=Nat) (fun i s' M'=>i≤(fldL s.kind).length∧s' 14=aI i∧((fldL s.kind).take i).all (okF s)=true∧M'.m 64=some (.box 0 (.dat none s.d)) ∧
  ∃ r,restF s ((fldL s.kind).take i)=r∧M'.m 256=some (.box 192 (.agg [aI r.kind,aI r.op,aI r.dst,aI r.src,aI r.imm,aI r.to]))) (fun i=>(fldL s.kind).length - i) 0
  ⟨by omega,by simp only [go_sem];rfl,by simp,by simp only [go_sem],{ s with kind:=0 },by simp [restF],by simp only [go_sem]⟩ ?_
 rintro i s' M' ⟨hi,h14,hall,m1,r,hr,m2⟩ ho
 unfold impl_Step_valid.b0
 have k1:s' 1=.ptr 64 0 0 none:=by rw [ho 1 rfl];simp only [go_sem]
 have k3:s' 3=.ptr 256 192 0 none:=by rw [ho 3 rfl];simp only [go_sem]
 have k13:s' 13=aI (fldL s.kind).length:=by rw [ho 13 rfl];simp only [go_sem]
 clear ho
 by_cases hlt:i < (fldL s.kind).length
 · have hi':(i:Int) < (fldL s.kind).length:=by omega
   have hw:IntKind.i64.wrap (i+1)=((i+1:Nat):Int):=by rw [wrap_in (by omega) (by omega)];omega
   have hbd:0≤(i:Int)∧(i:Int) < (strL (fldL s.kind)).size:=⟨by omega,by rw [hsz];omega⟩
   have hgt:∀ h,(strL (fldL s.kind))[i]'h=(fldL s.kind)[i]:=fun _=>rfl
   have hmem:=fldL_mem (List.getElem_mem hlt)
   have hnot:=valid_not hlt
   have hst:=rest_step (s:=s) hlt
   rw [hr] at hst
   have hall':okF s (fldL s.kind)[i]=true→((fldL s.kind).take (i+1)).all (okF s)=true:=fun h=>all_take hlt hall h
   simp only [go_sem,hi',k1,k3,k13,h14,m1,m2]
   refine fcW_str (impl_fields.fc s.kind) ?_
   simp only [go_sem,hbd,hgt,↓reduceDIte,k1,k3,k13,h14,m1,m2]
   generalize (fldL s.kind)[i]=c at hmem hnot hst hall' ⊢
   refine fcW_bd (impl_Step_ranges.fc s c.toNat) rfl ?_
   simp only [go_sem,k1,k3,k13,h14,m1,m2]
   unfold okF at hnot hall'
   rcases hmem with rfl|rfl|rfl|rfl|rfl
   · refine fcF_of (field_pc (j:=1) (.inl ⟨rfl,rfl⟩)) ?_
     simp only [go_sem,k1,k3,k13,h14,m1,m2]
     refine fcW_bool (impl_in.fc _ _ _) ?_
     cases hc:inB s.op (rgF s.kind (UInt8.toNat 111)).1 (rgF s.kind (UInt8.toNat 111)).2 with
     | false=>simp only [go_sem,hnot hc,k1,k3,k13,h14,m1,m2]
     | true =>
      simp only [go_sem,k1,k3,k13,h14,m1,m2]
      refine fcF_of (field_pc (j:=1) (.inl ⟨rfl,rfl⟩)) ?_
      simp only [go_sem,hw,k1,k3,k13,h14,m1,m2]
      exact ⟨i+1,by dsimp only;omega,by omega,by simp only [go_sem,k1,k3,k13,h14,m1,m2],hall' hc,by simp only [go_sem,k1,k3,k13,h14,m1,m2],_,hst,by simp only [go_sem,k1,k3,k13,h14,m1,m2];rfl⟩
   · refine fcF_of (field_pc (j:=2) (.inr (.inl ⟨rfl,rfl⟩))) ?_
     simp only [go_sem,k1,k3,k13,h14,m1,m2]
     refine fcW_bool (impl_in.fc _ _ _) ?_
     cases hc:inB s.dst (rgF s.kind (UInt8.toNat 100)).1 (rgF s.kind (UInt8.toNat 100)).2 with
     | false=>simp only [go_sem,hnot hc,k1,k3,k13,h14,m1,m2]
     | true =>
      simp only [go_sem,k1,k3,k13,h14,m1,m2]
      refine fcF_of (field_pc (j:=2) (.inr (.inl ⟨rfl,rfl⟩))) ?_
      simp only [go_sem,hw,k1,k3,k13,h14,m1,m2]
      exact ⟨i+1,by dsimp only;omega,by omega,by simp only [go_sem,k1,k3,k13,h14,m1,m2],hall' hc,by simp only [go_sem,k1,k3,k13,h14,m1,m2],_,hst,by simp only [go_sem,k1,k3,k13,h14,m1,m2];rfl⟩
   · refine fcF_of (field_pc (j:=3) (.inr (.inr (.inl ⟨rfl,rfl⟩)))) ?_
     simp only [go_sem,k1,k3,k13,h14,m1,m2]
     refine fcW_bool (impl_in.fc _ _ _) ?_
     cases hc:inB s.src (rgF s.kind (UInt8.toNat 115)).1 (rgF s.kind (UInt8.toNat 115)).2 with
     | false=>simp only [go_sem,hnot hc,k1,k3,k13,h14,m1,m2]
     | true =>
      simp only [go_sem,k1,k3,k13,h14,m1,m2]
      refine fcF_of (field_pc (j:=3) (.inr (.inr (.inl ⟨rfl,rfl⟩)))) ?_
      simp only [go_sem,hw,k1,k3,k13,h14,m1,m2]
      exact ⟨i+1,by dsimp only;omega,by omega,by simp only [go_sem,k1,k3,k13,h14,m1,m2],hall' hc,by simp only [go_sem,k1,k3,k13,h14,m1,m2],_,hst,by simp only [go_sem,k1,k3,k13,h14,m1,m2];rfl⟩
   · refine fcF_of (field_pc (j:=4) (.inr (.inr (.inr (.inl ⟨rfl,rfl⟩))))) ?_
     simp only [go_sem,k1,k3,k13,h14,m1,m2]
     refine fcW_bool (impl_in.fc _ _ _) ?_
     cases hc:inB s.imm (rgF s.kind (UInt8.toNat 105)).1 (rgF s.kind (UInt8.toNat 105)).2 with
     | false=>simp only [go_sem,hnot hc,k1,k3,k13,h14,m1,m2]
     | true =>
      simp only [go_sem,k1,k3,k13,h14,m1,m2]
      refine fcF_of (field_pc (j:=4) (.inr (.inr (.inr (.inl ⟨rfl,rfl⟩))))) ?_
      simp only [go_sem,hw,k1,k3,k13,h14,m1,m2]
      exact ⟨i+1,by dsimp only;omega,by omega,by simp only [go_sem,k1,k3,k13,h14,m1,m2],hall' hc,by simp only [go_sem,k1,k3,k13,h14,m1,m2],_,hst,by simp only [go_sem,k1,k3,k13,h14,m1,m2];rfl⟩
   · refine fcF_of (field_pc (j:=5) (.inr (.inr (.inr (.inr ⟨rfl,rfl⟩))))) ?_
     simp only [go_sem,k1,k3,k13,h14,m1,m2]
     refine fcW_bool (impl_in.fc _ _ _) ?_
     cases hc:inB s.to (rgF s.kind (UInt8.toNat 116)).1 (rgF s.kind (UInt8.toNat 116)).2 with
     | false=>simp only [go_sem,hnot hc,k1,k3,k13,h14,m1,m2]
     | true =>
      simp only [go_sem,k1,k3,k13,h14,m1,m2]
      refine fcF_of (field_pc (j:=5) (.inr (.inr (.inr (.inr ⟨rfl,rfl⟩))))) ?_
      simp only [go_sem,hw,k1,k3,k13,h14,m1,m2]
      exact ⟨i+1,by dsimp only;omega,by omega,by simp only [go_sem,k1,k3,k13,h14,m1,m2],hall' hc,by simp only [go_sem,k1,k3,k13,h14,m1,m2],_,hst,by simp only [go_sem,k1,k3,k13,h14,m1,m2];rfl⟩
 obtain rfl:i=(fldL s.kind).length:=by omega
 rw [List.take_length] at hall hr
 simp only [go_sem,Int.lt_irrefl,k1,k3,k13,h14,m1,m2]
 refine fcW_bool (impl_in.fc _ _ _) ?_
 have hv:validB s=(inB s.kind 1 11&&(r == ⟨0,0,0,0,0,0⟩)):=by unfold validB;rw [hall,hr,Bool.true_and]
 cases hc:inB s.kind 1 11 with
 | false=>simp only [go_sem,hv,hc,k1,k3,k13,h14,m1,m2]
 | true =>
  rw [hc,Bool.true_and] at hv
  have hz:(r == ⟨0,0,0,0,0,0⟩)=(r.kind == 0&&(r.op == 0&&(r.dst == 0&&(r.src == 0&&(r.imm == 0&&r.to == 0))))):=by
   obtain ⟨a,b,c,d,e,f⟩:=r
   rw [Bool.eq_iff_iff]
   simp only [beq_iff_eq,StepD.mk.injEq,Bool.and_eq_true]
  simp only [go_sem,hv,hz,Bool.bne_false,k1,k3,k13,h14,m1,m2]
theorem valid_kind {s:StepD} (h:validB s=true∨stepB s=true):s.kind=1∨s.kind=2∨s.kind=3∨s.kind=4∨s.kind=5∨s.kind=6∨s.kind=7∨s.kind=8∨s.kind=9∨s.kind=10∨s.kind=11:=by
 by_cases hk:1≤s.kind∧s.kind≤11
 · omega
 · exfalso
   have e:∀ j:Int,1≤j∧j≤11→(s.kind == j)=false:=fun j hj=>by rw [beq_eq_false_iff_ne];omega
   rcases h with h|h
   · unfold validB at h
     simp only [Bool.and_eq_true,inB,decide_eq_true_eq] at h
     omega
   · unfold stepB at h
     simp only [e 1 (by omega),e 2 (by omega),e 3 (by omega),e 4 (by omega),e 5 (by omega),e 6 (by omega),e 7 (by omega),e 8 (by omega),e 9 (by omega),e 10 (by omega),e 11 (by omega)] at h
     simp at h
theorem valid_step (s:StepD):validB s=stepB s:=by
 by_cases h:validB s=true∨stepB s=true
 · obtain ⟨k,o,d,r,m,t⟩:=s
   rcases valid_kind h with rfl|rfl|rfl|rfl|rfl|rfl|rfl|rfl|rfl|rfl|rfl <;>
   · rw [Bool.eq_iff_iff]
     simp [validB,stepB,fldL,okF,getF,rgF,restF,clrF,zeroB,inB]
     try omega
 · cases h1:validB s<;>cases h2:stepB s<;>simp_all
def jumpB (s:StepD):Bool:=s.kind == 8||(s.kind == 9||s.kind == 10)
theorem impl_Step_jumps.fc (s:StepD):FCt prog F_impl_Step_jumps [.ro] [s.d] (Bb (jumpB s)) []:=by
 refine fct_run impl_Step_jumps.ok rfl ?_
 unfold jumpB
 repeat' (first|with_reducible rfl|with_reducible refine cdW_dec (fun _=>?_) (fun _=>?_)|refine cdW_not (fun _=>?_) (fun _=>?_)|refine cdW_any (fun _=>?_) (fun _=>?_)|with_reducible refine gdW_decT (fun _=>?_) (fun _=>?_)|with_reducible refine gdW_decF (fun _=>?_) (fun _=>?_)|refine gdW_not (fun _=>?_) (fun _=>?_)|refine gdW_any (fun _=>?_) (fun _=>?_)|simp only [go_sem,bne,iQ,iB,iX,Int.reduceLE,iN,iA,iS,iM, *]|rfl)
structure StepOk (s:StepD):Prop where
 kind:1≤s.kind∧s.kind≤11
 dst:0≤s.dst∧s.dst≤5
 src:0≤s.src∧s.src≤5
 imm:0≤s.imm∧s.imm≤65535
 op:0≤s.op∧s.op≤10
 to:0≤s.to∧s.to≤19
 jmp:s.to > 0↔s.kind=8∨s.kind=9∨s.kind=10
 iop:s.kind=1∨s.kind=2→1≤s.op
theorem step_ok {s:StepD} (h:stepB s=true):StepOk s:=by
 obtain ⟨k,o,d,r,m,t⟩:=s
 rcases valid_kind (.inr h) with rfl|rfl|rfl|rfl|rfl|rfl|rfl|rfl|rfl|rfl|rfl <;>
 · simp [stepB,zeroB,inB] at h
   constructor<;>dsimp only<;>omega
theorem jump_to {s:StepD} (h:stepB s=true):jumpB s=decide (s.to > 0):=by
 have:=(step_ok h).jmp
 rw [Bool.eq_iff_iff,decide_eq_true_eq,this]
 simp [jumpB]
def okAt (p:List StepD) (i:Nat):Bool:=match p[i]? with
 | some s=>stepB s&&!(decide (s.to > 0)&&decide ((i:Int)+s.to+1 ≥ p.length))
 | none=>false
def lastK (p:List StepD):Int:=match p[p.length - 1]? with
 | some s=>s.kind
 | none=>0
def goodP (p:List StepD):Bool:=inB p.length 1 20&&(lastK p == 11)&&(List.range p.length).all (okAt p)
theorem goodP_not {p:List StepD} {i:Nat} (hi:i < p.length) (h:okAt p i=false):goodP p=false:=by
 unfold goodP;rw [not_range hi h,Bool.and_false]
theorem impl_GoodProgram.fc (p:List StepD) (hp:p.length≤4194304):FCt prog F_impl_GoodProgram [.ro] [steps p] (Bb (goodP p)) []:=by
 refine fct_run impl_GoodProgram.ok rfl ?_
 simp only [go_sem]
 refine fcW_bool (impl_in.fc _ _ _) ?_
 cases h1:inB p.length 1 20 with
 | false =>
  have:goodP p=false:=by unfold goodP;rw [h1];rfl
  simp only [go_sem,this]
 | true =>
  have hl:1≤p.length∧p.length≤20:=by simp [inB] at h1;omega
  have w1:IntKind.i64.wrap ((p.length:Int) - 1)=((p.length - 1:Nat):Int):=by rw [wrap_in (by omega) (by omega)];omega
  have g1:p[p.length - 1]? = some (p[p.length - 1]'(by omega)):=List.getElem?_eq_getElem (by omega)
  have b1:((p.length - 1:Nat):Int) < p.length:=by omega
  have hk:lastK p=(p[p.length - 1]'(by omega)).kind:=by unfold lastK;rw [g1]
  simp only [go_sem,w1,g1,b1]
  cases h2:((p[p.length - 1]'(by omega)).kind == 11) with
  | false =>
   have:goodP p=false:=by unfold goodP;rw [hk,h2,Bool.and_false];rfl
   have h3:((p[p.length - 1]'(by omega)).kind != 11)=true:=by rw [bne,h2];rfl
   simp only [go_sem,this,h3]
  | true =>
   have h3:((p[p.length - 1]'(by omega)).kind != 11)=false:=by rw [bne,h2];rfl
   simp only [go_sem,h3]
   refine R_loop (α:=Nat) (fun i s' M'=>i≤p.length∧s' 21=aI i∧(List.range i).all (okAt p)=true) (fun i=>p.length - i) 0 ⟨by omega,by simp only [go_sem];rfl,by simp⟩ ?_
   rintro i s' M' ⟨hi,h21,hr⟩ ho
   unfold impl_GoodProgram.b0
   have k0:s' 0=.dat none (steps p):=by rw [ho 0 rfl];simp only [go_sem]
   have k19:s' 19=.dat none (steps p):=by rw [ho 19 rfl];simp only [go_sem]
   have k20:s' 20=aI p.length:=by rw [ho 20 rfl];simp only [go_sem]
   clear ho
   by_cases hlt:i < p.length
   · have hi':(i:Int) < p.length:=by omega
     have ga:p[i]? = some p[i]:=List.getElem?_eq_getElem hlt
     have hw:IntKind.i64.wrap (i+1)=((i+1:Nat):Int):=wrap_k hlt (by omega)
     have bad:=goodP_not hlt
     have oka:okAt p i=(stepB p[i]&&!(decide (p[i].to > 0)&&decide ((i:Int)+p[i].to+1 ≥ p.length))):=by unfold okAt;rw [ga]
     simp only [go_sem,hi',ga,k0,k19,k20,h21]
     refine fcW_bool (impl_Step_valid.fc p[i]) ?_
     rw [valid_step]
     cases hv:stepB p[i] with
     | false =>
      have hb:=bad (by rw [oka,hv,Bool.false_and])
      simp only [go_sem,hb,k0,k19,k20,h21]
     | true =>
      have ok:=step_ok hv
      rw [hv,Bool.true_and] at oka
      simp only [go_sem,k0,k19,k20,h21]
      refine fcW_bool (impl_Step_jumps.fc p[i]) ?_
      rw [jump_to hv]
      have w2:IntKind.i64.wrap ((i:Int)+p[i].to)=(i:Int)+p[i].to:=by have:=ok.to;exact wrap_in (by omega) (by omega)
      have w3:IntKind.i64.wrap ((i:Int)+p[i].to+1)=(i:Int)+p[i].to+1:=by have:=ok.to;exact wrap_in (by omega) (by omega)
      by_cases hj:p[i].to > 0
      · by_cases he:(i:Int)+p[i].to+1 ≥ p.length
        · have hb:=bad (by rw [oka,decide_eq_true hj,decide_eq_true he];rfl)
          simp only [go_sem,hj,he,w2,w3,hb,k0,k19,k20,h21]
        · simp only [go_sem,hj,he,w2,w3,hw,k0,k19,k20,h21]
          exact ⟨i+1,by dsimp only;omega,by omega,by simp only [go_sem,k0,k19,k20,h21],all_range hr (by rw [oka,decide_eq_false he,Bool.and_false];rfl)⟩
      · simp only [go_sem,hj,hw,k0,k19,k20,h21]
        exact ⟨i+1,by dsimp only;omega,by omega,by simp only [go_sem,k0,k19,k20,h21],all_range hr (by rw [oka,decide_eq_false hj,Bool.false_and];rfl)⟩
   · have hi':¬ (i:Int) < p.length:=by omega
     obtain rfl:i=p.length:=by omega
     have:goodP p=true:=by unfold goodP;rw [h1,hk,h2,hr];rfl
     simp only [go_sem,this,Int.lt_irrefl,k0,k19,k20,h21]
theorem spec_GoodProgram.fc (p:List StepD) (hp:p.length≤4194304):FCt prog F_spec_GoodProgram [.ro] [steps p] (Bb (goodP p)) []:=by
 refine fct_run spec_GoodProgram.ok rfl ?_
 simp only [go_sem]
 refine R_loop (α:=Nat) (fun i s' M'=>i≤p.length∧s' 7=aI i∧(List.range i).all (okAt p)=true) (fun i=>p.length - i) 0 ⟨by omega,by simp only [go_sem];rfl,by simp⟩ ?_
 rintro i s' M' ⟨hi,h21,hr⟩ ho
 unfold spec_GoodProgram.b0
 have k0:s' 0=.dat none (steps p):=by rw [ho 0 rfl];simp only [go_sem]
 have k5:s' 5=.dat none (steps p):=by rw [ho 5 rfl];simp only [go_sem]
 have k6:s' 6=aI p.length:=by rw [ho 6 rfl];simp only [go_sem]
 clear ho
 by_cases hlt:i < p.length
 · have hi':(i:Int) < p.length:=by omega
   have ga:p[i]? = some p[i]:=List.getElem?_eq_getElem hlt
   have hw:IntKind.i64.wrap (i+1)=((i+1:Nat):Int):=wrap_k hlt (by omega)
   have bad:=goodP_not hlt
   have oka:okAt p i=(stepB p[i]&&!(decide (p[i].to > 0)&&decide ((i:Int)+p[i].to+1 ≥ p.length))):=by unfold okAt;rw [ga]
   simp only [go_sem,hi',ga,k0,k5,k6,h21]
   refine fcW_bool (spec_l2Step.fc p[i]) ?_
   cases hv:stepB p[i] with
   | false =>
    have hb:=bad (by rw [oka,hv,Bool.false_and])
    simp only [go_sem,hb,k0,k5,k6,h21]
   | true =>
    have ok:=step_ok hv
    rw [hv,Bool.true_and] at oka
    have w2:IntKind.i64.wrap ((i:Int)+p[i].to)=(i:Int)+p[i].to:=by have:=ok.to;exact wrap_in (by omega) (by omega)
    have w3:IntKind.i64.wrap ((i:Int)+p[i].to+1)=(i:Int)+p[i].to+1:=by have:=ok.to;exact wrap_in (by omega) (by omega)
    by_cases hj:p[i].to > 0
    · by_cases he:(i:Int)+p[i].to+1 ≥ p.length
      · have hb:=bad (by rw [oka,decide_eq_true hj,decide_eq_true he];rfl)
        simp only [go_sem,hj,he,w2,w3,hb,k0,k5,k6,h21]
      · simp only [go_sem,hj,he,w2,w3,hw,k0,k5,k6,h21]
        exact ⟨i+1,by dsimp only;omega,by omega,by simp only [go_sem,k0,k5,k6,h21],all_range hr (by rw [oka,decide_eq_false he,Bool.and_false];rfl)⟩
    · simp only [go_sem,hj,hw,k0,k5,k6,h21]
      exact ⟨i+1,by dsimp only;omega,by omega,by simp only [go_sem,k0,k5,k6,h21],all_range hr (by rw [oka,decide_eq_false hj,Bool.false_and];rfl)⟩
 · have hi':¬ (i:Int) < p.length:=by omega
   obtain rfl:i=p.length:=by omega
   simp only [go_sem,Int.lt_irrefl,k0,k5,k6,h21]
   refine fcW_bool (spec_l1In.fc _ _ _) ?_
   cases h1:inB p.length 1 20 with
   | false =>
    have:goodP p=false:=by unfold goodP;rw [h1];rfl
    simp only [go_sem,this,k0,k5,k6,h21]
   | true =>
    have hl:1≤p.length∧p.length≤20:=by simp [inB] at h1;omega
    have w1:IntKind.i64.wrap ((p.length:Int) - 1)=((p.length - 1:Nat):Int):=by rw [wrap_in (by omega) (by omega)];omega
    have g1:p[p.length - 1]? = some (p[p.length - 1]'(by omega)):=List.getElem?_eq_getElem (by omega)
    have b1:((p.length - 1:Nat):Int) < p.length:=by omega
    have hk:lastK p=(p[p.length - 1]'(by omega)).kind:=by unfold lastK;rw [g1]
    have:goodP p=((p[p.length - 1]'(by omega)).kind == 11):=by unfold goodP;rw [h1,hk,hr,Bool.and_true,Bool.true_and]
    simp only [go_sem,w1,g1,b1,this,k0,k5,k6,h21]
set_option maxHeartbeats 16000000
def isB (n:Int):Bool:=inB n 0 255
def ctxB (l:List Int):Bool:=decide (l.length=8)&&l.all isB
structure CtxOk (l:List Int):Prop where
 len:l.length=8
 all:∀ x∈l,0≤x∧x≤255
theorem ctx_ok {l:List Int} (h:ctxB l=true):CtxOk l:=by
 simp only [ctxB,Bool.and_eq_true,decide_eq_true_eq,List.all_eq_true,isB,inB] at h
 exact ⟨h.1,h.2⟩
theorem impl_isContext_c1.fc (n:Int):FCt prog F_impl_isContext_c1 [.ro] [Ii n] (Bb (!isB n)) []:=by
 refine fct_run impl_isContext_c1.ok rfl ?_
 unfold isB
 repeat' (first|with_reducible rfl|refine fcW_bool (impl_in.fc ..) ?_|with_reducible refine cdW_dec (fun _=>?_) (fun _=>?_)|refine cdW_not (fun _=>?_) (fun _=>?_)|refine cdW_any (fun _=>?_) (fun _=>?_)|with_reducible refine gdW_decT (fun _=>?_) (fun _=>?_)|with_reducible refine gdW_decF (fun _=>?_) (fun _=>?_)|refine gdW_not (fun _=>?_) (fun _=>?_)|refine gdW_any (fun _=>?_) (fun _=>?_)|simp only [go_sem,bne,iQ,iB,iX,Int.reduceLE,iN,iA,iS,iM, *]|rfl)
theorem impl_isContext.fc (l:List Int) (hl:l.length≤4294967296):FCt prog F_impl_isContext [.ro] [ints l] (Bb (ctxB l)) []:=by
 refine fct_run impl_isContext.ok rfl ?_
 have e1:((l.length:Int) == 8)=decide (l.length=8):=eq_dec (b:=8)
 have e2:l.any (fun n=>!isB n) = !l.all isB:=by rw [List.not_all_eq_any_not]
 unfold ctxB
 by_cases h:l.length=8
 · rw [decide_eq_true h] at e1 ⊢
   simp only [go_sem,e1]
   refine fcW_bool (slices_ContainsFunc__sint_int.fc l F_impl_isContext_c1 [] (fun n=>!isB n) hl (fun n _=>impl_isContext_c1.fc n)) ?_
   simp only [go_sem,e2,Bool.not_not]
 · rw [decide_eq_false h] at e1 ⊢
   simp only [go_sem,e1]
theorem spec_l3Ctx.fc (l:List Int) (hl:l.length≤4294967296):FCt prog F_spec_l3Ctx [.ro] [ints l] (Bb (ctxB l)) []:=by
 refine fct_run spec_l3Ctx.ok rfl ?_
 have e1:((l.length:Int) == 8)=decide (l.length=8):=eq_dec (b:=8)
 unfold ctxB
 by_cases h:l.length=8
 · rw [decide_eq_true h] at e1 ⊢
   simp only [go_sem,e1]
   refine fcW_bool (spec_l1All.fc l 0 255 hl) ?_
   simp only [go_sem]
   rfl
 · rw [decide_eq_false h] at e1 ⊢
   simp only [go_sem,e1]
structure MachLen (m:MachD):Prop where
 regs:m.regs.length=6
 cells:m.cells.length=16
 isset:m.isset.length=16
theorem MachOk.len {m:MachD} (h:MachOk m):MachLen m:=⟨h.regs,h.cells,h.isset⟩
theorem impl_Machine_own.fc (m:MachD) (h:MachLen m):FCt prog F_impl_Machine_own [.ro] [m.d] m.d []:=by
 refine fct_run impl_Machine_own.ok rfl ?_
 obtain ⟨h1,h2,h3⟩:=h
 simp only [go_sem]
 refine fcW_bd (slices_Clone__sint_int.fc m.regs (by omega)) noRs_ints ?_
 simp only [go_sem]
 refine fcW_bd (slices_Clone__sint_int.fc m.cells (by omega)) noRs_ints ?_
 simp only [go_sem]
 refine fcW_bd (slices_Clone__sbool_bool.fc1 m.isset (by omega) (by omega)) noRs_bools ?_
 simp only [go_sem,take_map_len]
theorem spec_l3Own.fc (m:MachD) (h:MachLen m):FCt prog F_spec_l3Own [.ro] [m.d] m.d []:=by
 refine fct_run spec_l3Own.ok rfl ?_
 obtain ⟨h1,h2,h3⟩:=h
 have a1:=sc_all (f:=Ii) (fun _=>rfl) m.regs
 have a2:=sc_all (f:=Ii) (fun _=>rfl) m.cells
 have a3:=sc_all (f:=Bb) (fun _=>rfl) m.isset
 simp only [go_sem,take_map_len,a1,a2,a3,h1,h2,h3]
 rw [List.take_of_length_le (by simp [h1]),List.take_of_length_le (by simp [h2]),List.take_of_length_le (by simp [h3])]
def regI (m:MachD) (i:Int):Int:=m.regs.getD i.toNat 0
def setR (m:MachD) (i n:Int):MachD:={ m with pc:=m.pc+1,regs:=m.regs.set i.toNat n }
def setC (m:MachD) (i n:Int):MachD:={ m with pc:=m.pc+1,cells:=m.cells.set i.toNat n,isset:=m.isset.set i.toNat true }
def setP (m:MachD) (n:Int):MachD:={ m with pc:=n }
def stepM (s:StepD) (ctx:List Int) (m:MachD):MachD×Int×Bool :=
 if s.kind == 1 then (setR m s.dst (doI s.op (regI m s.dst) (regI m s.src)),0,false) else
 if s.kind == 2 then (setR m s.dst (doI s.op (regI m s.dst) s.imm),0,false) else
 if s.kind == 3 then (setR m s.dst s.imm,0,false) else
 if s.kind == 4 then (setR m s.dst s.imm,0,false) else
 if s.kind == 5 then (if regI m s.src+s.imm ≥ 8 then (m,1,false) else (setR m s.dst (ctx.getD (regI m s.src+s.imm).toNat 0),0,false)) else
 if s.kind == 7 then (if s.imm ≥ 16 then (m,2,false) else (setC m s.imm (regI m s.dst),0,false)) else
 if s.kind == 6 then (if s.imm ≥ 16 then (m,2,false) else if m.isset.getD s.imm.toNat false then (setR m s.dst (m.cells.getD s.imm.toNat 0),0,false) else (m,3,false)) else
 if s.kind == 11 then (m,0,true) else
 if s.kind == 8 then (setP m (m.pc+s.to+1),0,false) else
 if s.kind == 9 then (if regI m s.dst == regI m s.src then (setP m (m.pc+s.to+1),0,false) else (setP m (m.pc+1),0,false)) else
 (if regI m s.dst < regI m s.src then (setP m (m.pc+s.to+1),0,false) else (setP m (m.pc+1),0,false))
theorem setIi {l:List Int} {i:Nat} {x:Int}:(l.map Ii).set i (D.int .i64 x)=(l.set i x).map Ii:=by rw [List.map_set]
theorem setBb {l:List Bool} {i:Nat} {x:Bool}:(l.map Bb).set i (D.bool x)=(l.set i x).map Bb:=by rw [List.map_set]
theorem getD_some {α:Type} {l:List α} {i:Nat} {d:α} (h:i < l.length):l[i]? = some (l.getD i d):=by rw [getD_get h];exact List.getElem?_eq_getElem h
theorem tk_I {n:Nat} {l:List Int} (h:l.length=n):(l.map Ii).take n=l.map Ii:=List.take_of_length_le (by simp [h])
theorem tk_B {n:Nat} {l:List Bool} (h:l.length=n):(l.map Bb).take n=l.map Bb:=List.take_of_length_le (by simp [h])
theorem impl_pMachine_step.fc (p:List StepD) (ctx:List Int) (m:MachD) (s:StepD) (hp:p.length≤20) (hc:CtxOk ctx) (hm:MachOk m) (hpc:m.pc < p.length) (hs:p[m.pc.toNat]? = some s) (hv:stepB s=true) :
 FCt prog F_impl_pMachine_step [.io,.ro,.ro] [.ptr m.d,steps p,ints ctx] (.tup [Ii (stepM s ctx m).2.1,Bb (stepM s ctx m).2.2]) [.ptr (stepM s ctx m).1.d]:=by
 refine fct_run impl_pMachine_step.ok rfl ?_
 have ok:=step_ok hv
 have kd:=valid_kind (.inr hv)
 obtain ⟨⟨pc0,pc1⟩,l1,l2,l3,wr,wc⟩:=hm
 obtain ⟨cl,ca⟩:=hc
 obtain ⟨pc,regs,cells,isset⟩:=m
 obtain ⟨k,op,dst,src,imm,to⟩:=s
 obtain ⟨_,od,os,oi,oo,ot,_,_⟩:=ok
 dsimp only at *
 have gd:regs[dst.toNat]? = some (regI ⟨pc,regs,cells,isset⟩ dst):=getD_some (by omega)
 have gs:regs[src.toNat]? = some (regI ⟨pc,regs,cells,isset⟩ src):=getD_some (by omega)
 have ws:0≤regI ⟨pc,regs,cells,isset⟩ src∧regI ⟨pc,regs,cells,isset⟩ src≤65535:=wr _ (List.mem_of_getElem? gs)
 have w1:IntKind.i64.wrap (pc+1)=pc+1:=wrap_in (by omega) (by omega)
 have w2:IntKind.i64.wrap (pc+1+to)=pc+to+1:=by rw [wrap_in (by omega) (by omega)];omega
 have w3:IntKind.i64.wrap (regI ⟨pc,regs,cells,isset⟩ src+imm)=regI ⟨pc,regs,cells,isset⟩ src+imm:=wrap_in (by omega) (by omega)
 have od1:=od.1
 have od2:dst < 6:=by omega
 have os1:=os.1
 have os2:src < 6:=by omega
 have c6:((6:Nat):Int)=6:=rfl
 have c8:((8:Nat):Int)=8:=rfl
 have c16:((16:Nat):Int)=16:=rfl
 have i0:0≤imm:=oi.1
 have r0:0≤regI ⟨pc,regs,cells,isset⟩ src+imm:=by omega
 have h5:¬ regI ⟨pc,regs,cells,isset⟩ src+imm ≥ 8→ctx[(regI ⟨pc,regs,cells,isset⟩ src+imm).toNat]? = some (ctx.getD (regI ⟨pc,regs,cells,isset⟩ src+imm).toNat 0):=fun h=>getD_some (by omega)
 have h6:¬ imm ≥ 16→cells[imm.toNat]? = some (cells.getD imm.toNat 0):=fun h=>getD_some (by omega)
 have h7:¬ imm ≥ 16→isset[imm.toNat]? = some (isset.getD imm.toNat false):=fun h=>getD_some (by omega)
 have b5:¬ regI ⟨pc,regs,cells,isset⟩ src+imm ≥ 8→regI ⟨pc,regs,cells,isset⟩ src+imm < 8:=fun h=>by omega
 have b6:¬ imm ≥ 16→imm < 16:=fun h=>by omega
 unfold stepM setR setC setP
 rcases kd with rfl|rfl|rfl|rfl|rfl|rfl|rfl|rfl|rfl|rfl|rfl
 · clear h5 h6 h7 b5 b6
   repeat' (first|with_reducible rfl|refine fcW_int (impl_do.fc _ _ _ ws.1) ?_|refine fcW_int (impl_do.fc _ _ _ i0) ?_|with_reducible refine cdW_dec (fun _=>?_) (fun _=>?_)|refine cdW_not (fun _=>?_) (fun _=>?_)|refine cdW_any (fun _=>?_) (fun _=>?_)|with_reducible refine gdW_decT (fun _=>?_) (fun _=>?_)|with_reducible refine gdW_decF (fun _=>?_) (fun _=>?_)|refine gdW_not (fun _=>?_) (fun _=>?_)|refine gdW_any (fun _=>?_) (fun _=>?_)|simp only [go_sem,bne,iQ,iB,iX,Int.reduceLE,iN,iA,iS,iM,setIi,setBb,tk_I,tk_B,List.length_set, *]|rfl)
 · clear h5 h6 h7 b5 b6
   repeat' (first|with_reducible rfl|refine fcW_int (impl_do.fc _ _ _ ws.1) ?_|refine fcW_int (impl_do.fc _ _ _ i0) ?_|with_reducible refine cdW_dec (fun _=>?_) (fun _=>?_)|refine cdW_not (fun _=>?_) (fun _=>?_)|refine cdW_any (fun _=>?_) (fun _=>?_)|with_reducible refine gdW_decT (fun _=>?_) (fun _=>?_)|with_reducible refine gdW_decF (fun _=>?_) (fun _=>?_)|refine gdW_not (fun _=>?_) (fun _=>?_)|refine gdW_any (fun _=>?_) (fun _=>?_)|simp only [go_sem,bne,iQ,iB,iX,Int.reduceLE,iN,iA,iS,iM,setIi,setBb,tk_I,tk_B,List.length_set, *]|rfl)
 · clear h5 h6 h7 b5 b6
   repeat' (first|with_reducible rfl|refine fcW_int (impl_do.fc _ _ _ ws.1) ?_|refine fcW_int (impl_do.fc _ _ _ i0) ?_|with_reducible refine cdW_dec (fun _=>?_) (fun _=>?_)|refine cdW_not (fun _=>?_) (fun _=>?_)|refine cdW_any (fun _=>?_) (fun _=>?_)|with_reducible refine gdW_decT (fun _=>?_) (fun _=>?_)|with_reducible refine gdW_decF (fun _=>?_) (fun _=>?_)|refine gdW_not (fun _=>?_) (fun _=>?_)|refine gdW_any (fun _=>?_) (fun _=>?_)|simp only [go_sem,bne,iQ,iB,iX,Int.reduceLE,iN,iA,iS,iM,setIi,setBb,tk_I,tk_B,List.length_set, *]|rfl)
 · clear h5 h6 h7 b5 b6
   repeat' (first|with_reducible rfl|refine fcW_int (impl_do.fc _ _ _ ws.1) ?_|refine fcW_int (impl_do.fc _ _ _ i0) ?_|with_reducible refine cdW_dec (fun _=>?_) (fun _=>?_)|refine cdW_not (fun _=>?_) (fun _=>?_)|refine cdW_any (fun _=>?_) (fun _=>?_)|with_reducible refine gdW_decT (fun _=>?_) (fun _=>?_)|with_reducible refine gdW_decF (fun _=>?_) (fun _=>?_)|refine gdW_not (fun _=>?_) (fun _=>?_)|refine gdW_any (fun _=>?_) (fun _=>?_)|simp only [go_sem,bne,iQ,iB,iX,Int.reduceLE,iN,iA,iS,iM,setIi,setBb,tk_I,tk_B,List.length_set, *]|rfl)
 · clear h6 h7 b6
   by_cases h:regI ⟨pc,regs,cells,isset⟩ src+imm ≥ 8
   · clear h5 b5
     repeat' (first|with_reducible rfl|refine fcW_int (impl_do.fc _ _ _ ws.1) ?_|refine fcW_int (impl_do.fc _ _ _ i0) ?_|with_reducible refine cdW_dec (fun _=>?_) (fun _=>?_)|refine cdW_not (fun _=>?_) (fun _=>?_)|refine cdW_any (fun _=>?_) (fun _=>?_)|with_reducible refine gdW_decT (fun _=>?_) (fun _=>?_)|with_reducible refine gdW_decF (fun _=>?_) (fun _=>?_)|refine gdW_not (fun _=>?_) (fun _=>?_)|refine gdW_any (fun _=>?_) (fun _=>?_)|simp only [go_sem,bne,iQ,iB,iX,Int.reduceLE,iN,iA,iS,iM,setIi,setBb,tk_I,tk_B,List.length_set, *]|rfl)
   · have h5:=h5 h
     have b5:=b5 h
     repeat' (first|with_reducible rfl|refine fcW_int (impl_do.fc _ _ _ ws.1) ?_|refine fcW_int (impl_do.fc _ _ _ i0) ?_|with_reducible refine cdW_dec (fun _=>?_) (fun _=>?_)|refine cdW_not (fun _=>?_) (fun _=>?_)|refine cdW_any (fun _=>?_) (fun _=>?_)|with_reducible refine gdW_decT (fun _=>?_) (fun _=>?_)|with_reducible refine gdW_decF (fun _=>?_) (fun _=>?_)|refine gdW_not (fun _=>?_) (fun _=>?_)|refine gdW_any (fun _=>?_) (fun _=>?_)|simp only [go_sem,bne,iQ,iB,iX,Int.reduceLE,iN,iA,iS,iM,setIi,setBb,tk_I,tk_B,List.length_set, *]|rfl)
 · clear h5 b5
   by_cases h:imm ≥ 16
   · clear h6 h7 b6
     repeat' (first|with_reducible rfl|refine fcW_int (impl_do.fc _ _ _ ws.1) ?_|refine fcW_int (impl_do.fc _ _ _ i0) ?_|with_reducible refine cdW_dec (fun _=>?_) (fun _=>?_)|refine cdW_not (fun _=>?_) (fun _=>?_)|refine cdW_any (fun _=>?_) (fun _=>?_)|with_reducible refine gdW_decT (fun _=>?_) (fun _=>?_)|with_reducible refine gdW_decF (fun _=>?_) (fun _=>?_)|refine gdW_not (fun _=>?_) (fun _=>?_)|refine gdW_any (fun _=>?_) (fun _=>?_)|simp only [go_sem,bne,iQ,iB,iX,Int.reduceLE,iN,iA,iS,iM,setIi,setBb,tk_I,tk_B,List.length_set, *]|rfl)
   · have h6:=h6 h
     have h7:=h7 h
     have b6:=b6 h
     cases hq:isset.getD imm.toNat false<;>rw [hq] at h7
     · repeat' (first|with_reducible rfl|refine fcW_int (impl_do.fc _ _ _ ws.1) ?_|refine fcW_int (impl_do.fc _ _ _ i0) ?_|with_reducible refine cdW_dec (fun _=>?_) (fun _=>?_)|refine cdW_not (fun _=>?_) (fun _=>?_)|refine cdW_any (fun _=>?_) (fun _=>?_)|with_reducible refine gdW_decT (fun _=>?_) (fun _=>?_)|with_reducible refine gdW_decF (fun _=>?_) (fun _=>?_)|refine gdW_not (fun _=>?_) (fun _=>?_)|refine gdW_any (fun _=>?_) (fun _=>?_)|simp only [go_sem,bne,iQ,iB,iX,Int.reduceLE,iN,iA,iS,iM,setIi,setBb,tk_I,tk_B,List.length_set, *]|rfl)
     · repeat' (first|with_reducible rfl|refine fcW_int (impl_do.fc _ _ _ ws.1) ?_|refine fcW_int (impl_do.fc _ _ _ i0) ?_|with_reducible refine cdW_dec (fun _=>?_) (fun _=>?_)|refine cdW_not (fun _=>?_) (fun _=>?_)|refine cdW_any (fun _=>?_) (fun _=>?_)|with_reducible refine gdW_decT (fun _=>?_) (fun _=>?_)|with_reducible refine gdW_decF (fun _=>?_) (fun _=>?_)|refine gdW_not (fun _=>?_) (fun _=>?_)|refine gdW_any (fun _=>?_) (fun _=>?_)|simp only [go_sem,bne,iQ,iB,iX,Int.reduceLE,iN,iA,iS,iM,setIi,setBb,tk_I,tk_B,List.length_set, *]|rfl)
 · clear h5 b5
   by_cases h:imm ≥ 16
   · clear h6 h7 b6
     repeat' (first|with_reducible rfl|refine fcW_int (impl_do.fc _ _ _ ws.1) ?_|refine fcW_int (impl_do.fc _ _ _ i0) ?_|with_reducible refine cdW_dec (fun _=>?_) (fun _=>?_)|refine cdW_not (fun _=>?_) (fun _=>?_)|refine cdW_any (fun _=>?_) (fun _=>?_)|with_reducible refine gdW_decT (fun _=>?_) (fun _=>?_)|with_reducible refine gdW_decF (fun _=>?_) (fun _=>?_)|refine gdW_not (fun _=>?_) (fun _=>?_)|refine gdW_any (fun _=>?_) (fun _=>?_)|simp only [go_sem,bne,iQ,iB,iX,Int.reduceLE,iN,iA,iS,iM,setIi,setBb,tk_I,tk_B,List.length_set, *]|rfl)
   · have h6:=h6 h
     have h7:=h7 h
     have b6:=b6 h
     repeat' (first|with_reducible rfl|refine fcW_int (impl_do.fc _ _ _ ws.1) ?_|refine fcW_int (impl_do.fc _ _ _ i0) ?_|with_reducible refine cdW_dec (fun _=>?_) (fun _=>?_)|refine cdW_not (fun _=>?_) (fun _=>?_)|refine cdW_any (fun _=>?_) (fun _=>?_)|with_reducible refine gdW_decT (fun _=>?_) (fun _=>?_)|with_reducible refine gdW_decF (fun _=>?_) (fun _=>?_)|refine gdW_not (fun _=>?_) (fun _=>?_)|refine gdW_any (fun _=>?_) (fun _=>?_)|simp only [go_sem,bne,iQ,iB,iX,Int.reduceLE,iN,iA,iS,iM,setIi,setBb,tk_I,tk_B,List.length_set, *]|rfl)
 · clear h5 h6 h7 b5 b6
   repeat' (first|with_reducible rfl|refine fcW_int (impl_do.fc _ _ _ ws.1) ?_|refine fcW_int (impl_do.fc _ _ _ i0) ?_|with_reducible refine cdW_dec (fun _=>?_) (fun _=>?_)|refine cdW_not (fun _=>?_) (fun _=>?_)|refine cdW_any (fun _=>?_) (fun _=>?_)|with_reducible refine gdW_decT (fun _=>?_) (fun _=>?_)|with_reducible refine gdW_decF (fun _=>?_) (fun _=>?_)|refine gdW_not (fun _=>?_) (fun _=>?_)|refine gdW_any (fun _=>?_) (fun _=>?_)|simp only [go_sem,bne,iQ,iB,iX,Int.reduceLE,iN,iA,iS,iM,setIi,setBb,tk_I,tk_B,List.length_set, *]|rfl)
 · clear h5 h6 h7 b5 b6
   repeat' (first|with_reducible rfl|refine fcW_int (impl_do.fc _ _ _ ws.1) ?_|refine fcW_int (impl_do.fc _ _ _ i0) ?_|with_reducible refine cdW_dec (fun _=>?_) (fun _=>?_)|refine cdW_not (fun _=>?_) (fun _=>?_)|refine cdW_any (fun _=>?_) (fun _=>?_)|with_reducible refine gdW_decT (fun _=>?_) (fun _=>?_)|with_reducible refine gdW_decF (fun _=>?_) (fun _=>?_)|refine gdW_not (fun _=>?_) (fun _=>?_)|refine gdW_any (fun _=>?_) (fun _=>?_)|simp only [go_sem,bne,iQ,iB,iX,Int.reduceLE,iN,iA,iS,iM,setIi,setBb,tk_I,tk_B,List.length_set, *]|rfl)
 · clear h5 h6 h7 b5 b6
   repeat' (first|with_reducible rfl|refine fcW_int (impl_do.fc _ _ _ ws.1) ?_|refine fcW_int (impl_do.fc _ _ _ i0) ?_|with_reducible refine cdW_dec (fun _=>?_) (fun _=>?_)|refine cdW_not (fun _=>?_) (fun _=>?_)|refine cdW_any (fun _=>?_) (fun _=>?_)|with_reducible refine gdW_decT (fun _=>?_) (fun _=>?_)|with_reducible refine gdW_decF (fun _=>?_) (fun _=>?_)|refine gdW_not (fun _=>?_) (fun _=>?_)|refine gdW_any (fun _=>?_) (fun _=>?_)|simp only [go_sem,bne,iQ,iB,iX,Int.reduceLE,iN,iA,iS,iM,setIi,setBb,tk_I,tk_B,List.length_set, *]|rfl)
 · clear h5 h6 h7 b5 b6
   repeat' (first|with_reducible rfl|refine fcW_int (impl_do.fc _ _ _ ws.1) ?_|refine fcW_int (impl_do.fc _ _ _ i0) ?_|with_reducible refine cdW_dec (fun _=>?_) (fun _=>?_)|refine cdW_not (fun _=>?_) (fun _=>?_)|refine cdW_any (fun _=>?_) (fun _=>?_)|with_reducible refine gdW_decT (fun _=>?_) (fun _=>?_)|with_reducible refine gdW_decF (fun _=>?_) (fun _=>?_)|refine gdW_not (fun _=>?_) (fun _=>?_)|refine gdW_any (fun _=>?_) (fun _=>?_)|simp only [go_sem,bne,iQ,iB,iX,Int.reduceLE,iN,iA,iS,iM,setIi,setBb,tk_I,tk_B,List.length_set, *]|rfl)
theorem spec_l3Do.fc (p:List StepD) (ctx:List Int) (m:MachD) (s:StepD) (hp:p.length≤20) (hc:CtxOk ctx) (hm:MachOk m) (hpc:m.pc < p.length) (hs:p[m.pc.toNat]? = some s) (hv:stepB s=true) :
 FCt prog F_spec_l3Do [.ro,.ro,.co] [steps p,ints ctx,m.d] (.tup [(stepM s ctx m).1.d,Ii (stepM s ctx m).2.1,Bb (stepM s ctx m).2.2]) []:=by
 refine fct_run spec_l3Do.ok rfl ?_
 have ok:=step_ok hv
 have kd:=valid_kind (.inr hv)
 obtain ⟨⟨pc0,pc1⟩,l1,l2,l3,wr,wc⟩:=hm
 obtain ⟨cl,ca⟩:=hc
 obtain ⟨pc,regs,cells,isset⟩:=m
 obtain ⟨k,op,dst,src,imm,to⟩:=s
 obtain ⟨_,od,os,oi,oo,ot,_,_⟩:=ok
 dsimp only at *
 have gd:regs[dst.toNat]? = some (regI ⟨pc,regs,cells,isset⟩ dst):=getD_some (by omega)
 have gs:regs[src.toNat]? = some (regI ⟨pc,regs,cells,isset⟩ src):=getD_some (by omega)
 have ws:0≤regI ⟨pc,regs,cells,isset⟩ src∧regI ⟨pc,regs,cells,isset⟩ src≤65535:=wr _ (List.mem_of_getElem? gs)
 have w1:IntKind.i64.wrap (pc+1)=pc+1:=wrap_in (by omega) (by omega)
 have w2:IntKind.i64.wrap (pc+1+to)=pc+to+1:=by rw [wrap_in (by omega) (by omega)];omega
 have w4:IntKind.i64.wrap (pc+to)=pc+to:=wrap_in (by omega) (by omega)
 have w5:IntKind.i64.wrap (pc+to+1)=pc+to+1:=wrap_in (by omega) (by omega)
 have w3:IntKind.i64.wrap (regI ⟨pc,regs,cells,isset⟩ src+imm)=regI ⟨pc,regs,cells,isset⟩ src+imm:=wrap_in (by omega) (by omega)
 have od1:=od.1
 have od2:dst < 6:=by omega
 have os1:=os.1
 have os2:src < 6:=by omega
 have c6:((6:Nat):Int)=6:=rfl
 have c8:((8:Nat):Int)=8:=rfl
 have c16:((16:Nat):Int)=16:=rfl
 have i0:0≤imm:=oi.1
 have r0:0≤regI ⟨pc,regs,cells,isset⟩ src+imm:=by omega
 have h5:¬ regI ⟨pc,regs,cells,isset⟩ src+imm ≥ 8→ctx[(regI ⟨pc,regs,cells,isset⟩ src+imm).toNat]? = some (ctx.getD (regI ⟨pc,regs,cells,isset⟩ src+imm).toNat 0):=fun h=>getD_some (by omega)
 have h6:¬ imm ≥ 16→cells[imm.toNat]? = some (cells.getD imm.toNat 0):=fun h=>getD_some (by omega)
 have h7:¬ imm ≥ 16→isset[imm.toNat]? = some (isset.getD imm.toNat false):=fun h=>getD_some (by omega)
 have b5:¬ regI ⟨pc,regs,cells,isset⟩ src+imm ≥ 8→regI ⟨pc,regs,cells,isset⟩ src+imm < 8:=fun h=>by omega
 have b6:¬ imm ≥ 16→imm < 16:=fun h=>by omega
 unfold stepM setR setC setP
 rcases kd with rfl|rfl|rfl|rfl|rfl|rfl|rfl|rfl|rfl|rfl|rfl
 · clear h5 h6 h7 b5 b6
   repeat' (first|with_reducible rfl|refine fcW_int (spec_l1Do.fc _ _ _ ws.1) ?_|refine fcW_int (spec_l1Do.fc _ _ _ i0) ?_|with_reducible refine cdW_dec (fun _=>?_) (fun _=>?_)|refine cdW_not (fun _=>?_) (fun _=>?_)|refine cdW_any (fun _=>?_) (fun _=>?_)|with_reducible refine gdW_decT (fun _=>?_) (fun _=>?_)|with_reducible refine gdW_decF (fun _=>?_) (fun _=>?_)|refine gdW_not (fun _=>?_) (fun _=>?_)|refine gdW_any (fun _=>?_) (fun _=>?_)|simp only [go_sem,bne,iQ,iB,iX,Int.reduceLE,iN,iA,iS,iM,setIi,setBb,tk_I,tk_B,List.length_set, *]|rfl)
 · clear h5 h6 h7 b5 b6
   repeat' (first|with_reducible rfl|refine fcW_int (spec_l1Do.fc _ _ _ ws.1) ?_|refine fcW_int (spec_l1Do.fc _ _ _ i0) ?_|with_reducible refine cdW_dec (fun _=>?_) (fun _=>?_)|refine cdW_not (fun _=>?_) (fun _=>?_)|refine cdW_any (fun _=>?_) (fun _=>?_)|with_reducible refine gdW_decT (fun _=>?_) (fun _=>?_)|with_reducible refine gdW_decF (fun _=>?_) (fun _=>?_)|refine gdW_not (fun _=>?_) (fun _=>?_)|refine gdW_any (fun _=>?_) (fun _=>?_)|simp only [go_sem,bne,iQ,iB,iX,Int.reduceLE,iN,iA,iS,iM,setIi,setBb,tk_I,tk_B,List.length_set, *]|rfl)
 · clear h5 h6 h7 b5 b6
   repeat' (first|with_reducible rfl|refine fcW_int (spec_l1Do.fc _ _ _ ws.1) ?_|refine fcW_int (spec_l1Do.fc _ _ _ i0) ?_|with_reducible refine cdW_dec (fun _=>?_) (fun _=>?_)|refine cdW_not (fun _=>?_) (fun _=>?_)|refine cdW_any (fun _=>?_) (fun _=>?_)|with_reducible refine gdW_decT (fun _=>?_) (fun _=>?_)|with_reducible refine gdW_decF (fun _=>?_) (fun _=>?_)|refine gdW_not (fun _=>?_) (fun _=>?_)|refine gdW_any (fun _=>?_) (fun _=>?_)|simp only [go_sem,bne,iQ,iB,iX,Int.reduceLE,iN,iA,iS,iM,setIi,setBb,tk_I,tk_B,List.length_set, *]|rfl)
 · clear h5 h6 h7 b5 b6
   repeat' (first|with_reducible rfl|refine fcW_int (spec_l1Do.fc _ _ _ ws.1) ?_|refine fcW_int (spec_l1Do.fc _ _ _ i0) ?_|with_reducible refine cdW_dec (fun _=>?_) (fun _=>?_)|refine cdW_not (fun _=>?_) (fun _=>?_)|refine cdW_any (fun _=>?_) (fun _=>?_)|with_reducible refine gdW_decT (fun _=>?_) (fun _=>?_)|with_reducible refine gdW_decF (fun _=>?_) (fun _=>?_)|refine gdW_not (fun _=>?_) (fun _=>?_)|refine gdW_any (fun _=>?_) (fun _=>?_)|simp only [go_sem,bne,iQ,iB,iX,Int.reduceLE,iN,iA,iS,iM,setIi,setBb,tk_I,tk_B,List.length_set, *]|rfl)
 · clear h6 h7 b6
   by_cases h:regI ⟨pc,regs,cells,isset⟩ src+imm ≥ 8
   · clear h5 b5
     repeat' (first|with_reducible rfl|refine fcW_int (spec_l1Do.fc _ _ _ ws.1) ?_|refine fcW_int (spec_l1Do.fc _ _ _ i0) ?_|with_reducible refine cdW_dec (fun _=>?_) (fun _=>?_)|refine cdW_not (fun _=>?_) (fun _=>?_)|refine cdW_any (fun _=>?_) (fun _=>?_)|with_reducible refine gdW_decT (fun _=>?_) (fun _=>?_)|with_reducible refine gdW_decF (fun _=>?_) (fun _=>?_)|refine gdW_not (fun _=>?_) (fun _=>?_)|refine gdW_any (fun _=>?_) (fun _=>?_)|simp only [go_sem,bne,iQ,iB,iX,Int.reduceLE,iN,iA,iS,iM,setIi,setBb,tk_I,tk_B,List.length_set, *]|rfl)
   · have h5:=h5 h
     have b5:=b5 h
     repeat' (first|with_reducible rfl|refine fcW_int (spec_l1Do.fc _ _ _ ws.1) ?_|refine fcW_int (spec_l1Do.fc _ _ _ i0) ?_|with_reducible refine cdW_dec (fun _=>?_) (fun _=>?_)|refine cdW_not (fun _=>?_) (fun _=>?_)|refine cdW_any (fun _=>?_) (fun _=>?_)|with_reducible refine gdW_decT (fun _=>?_) (fun _=>?_)|with_reducible refine gdW_decF (fun _=>?_) (fun _=>?_)|refine gdW_not (fun _=>?_) (fun _=>?_)|refine gdW_any (fun _=>?_) (fun _=>?_)|simp only [go_sem,bne,iQ,iB,iX,Int.reduceLE,iN,iA,iS,iM,setIi,setBb,tk_I,tk_B,List.length_set, *]|rfl)
 · clear h5 b5
   by_cases h:imm ≥ 16
   · clear h6 h7 b6
     repeat' (first|with_reducible rfl|refine fcW_int (spec_l1Do.fc _ _ _ ws.1) ?_|refine fcW_int (spec_l1Do.fc _ _ _ i0) ?_|with_reducible refine cdW_dec (fun _=>?_) (fun _=>?_)|refine cdW_not (fun _=>?_) (fun _=>?_)|refine cdW_any (fun _=>?_) (fun _=>?_)|with_reducible refine gdW_decT (fun _=>?_) (fun _=>?_)|with_reducible refine gdW_decF (fun _=>?_) (fun _=>?_)|refine gdW_not (fun _=>?_) (fun _=>?_)|refine gdW_any (fun _=>?_) (fun _=>?_)|simp only [go_sem,bne,iQ,iB,iX,Int.reduceLE,iN,iA,iS,iM,setIi,setBb,tk_I,tk_B,List.length_set, *]|rfl)
   · have h6:=h6 h
     have h7:=h7 h
     have b6:=b6 h
     cases hq:isset.getD imm.toNat false<;>rw [hq] at h7
     · repeat' (first|with_reducible rfl|refine fcW_int (spec_l1Do.fc _ _ _ ws.1) ?_|refine fcW_int (spec_l1Do.fc _ _ _ i0) ?_|with_reducible refine cdW_dec (fun _=>?_) (fun _=>?_)|refine cdW_not (fun _=>?_) (fun _=>?_)|refine cdW_any (fun _=>?_) (fun _=>?_)|with_reducible refine gdW_decT (fun _=>?_) (fun _=>?_)|with_reducible refine gdW_decF (fun _=>?_) (fun _=>?_)|refine gdW_not (fun _=>?_) (fun _=>?_)|refine gdW_any (fun _=>?_) (fun _=>?_)|simp only [go_sem,bne,iQ,iB,iX,Int.reduceLE,iN,iA,iS,iM,setIi,setBb,tk_I,tk_B,List.length_set, *]|rfl)
     · repeat' (first|with_reducible rfl|refine fcW_int (spec_l1Do.fc _ _ _ ws.1) ?_|refine fcW_int (spec_l1Do.fc _ _ _ i0) ?_|with_reducible refine cdW_dec (fun _=>?_) (fun _=>?_)|refine cdW_not (fun _=>?_) (fun _=>?_)|refine cdW_any (fun _=>?_) (fun _=>?_)|with_reducible refine gdW_decT (fun _=>?_) (fun _=>?_)|with_reducible refine gdW_decF (fun _=>?_) (fun _=>?_)|refine gdW_not (fun _=>?_) (fun _=>?_)|refine gdW_any (fun _=>?_) (fun _=>?_)|simp only [go_sem,bne,iQ,iB,iX,Int.reduceLE,iN,iA,iS,iM,setIi,setBb,tk_I,tk_B,List.length_set, *]|rfl)
 · clear h5 b5
   by_cases h:imm ≥ 16
   · clear h6 h7 b6
     repeat' (first|with_reducible rfl|refine fcW_int (spec_l1Do.fc _ _ _ ws.1) ?_|refine fcW_int (spec_l1Do.fc _ _ _ i0) ?_|with_reducible refine cdW_dec (fun _=>?_) (fun _=>?_)|refine cdW_not (fun _=>?_) (fun _=>?_)|refine cdW_any (fun _=>?_) (fun _=>?_)|with_reducible refine gdW_decT (fun _=>?_) (fun _=>?_)|with_reducible refine gdW_decF (fun _=>?_) (fun _=>?_)|refine gdW_not (fun _=>?_) (fun _=>?_)|refine gdW_any (fun _=>?_) (fun _=>?_)|simp only [go_sem,bne,iQ,iB,iX,Int.reduceLE,iN,iA,iS,iM,setIi,setBb,tk_I,tk_B,List.length_set, *]|rfl)
   · have h6:=h6 h
     have h7:=h7 h
     have b6:=b6 h
     repeat' (first|with_reducible rfl|refine fcW_int (spec_l1Do.fc _ _ _ ws.1) ?_|refine fcW_int (spec_l1Do.fc _ _ _ i0) ?_|with_reducible refine cdW_dec (fun _=>?_) (fun _=>?_)|refine cdW_not (fun _=>?_) (fun _=>?_)|refine cdW_any (fun _=>?_) (fun _=>?_)|with_reducible refine gdW_decT (fun _=>?_) (fun _=>?_)|with_reducible refine gdW_decF (fun _=>?_) (fun _=>?_)|refine gdW_not (fun _=>?_) (fun _=>?_)|refine gdW_any (fun _=>?_) (fun _=>?_)|simp only [go_sem,bne,iQ,iB,iX,Int.reduceLE,iN,iA,iS,iM,setIi,setBb,tk_I,tk_B,List.length_set, *]|rfl)
 · clear h5 h6 h7 b5 b6
   repeat' (first|with_reducible rfl|refine fcW_int (spec_l1Do.fc _ _ _ ws.1) ?_|refine fcW_int (spec_l1Do.fc _ _ _ i0) ?_|with_reducible refine cdW_dec (fun _=>?_) (fun _=>?_)|refine cdW_not (fun _=>?_) (fun _=>?_)|refine cdW_any (fun _=>?_) (fun _=>?_)|with_reducible refine gdW_decT (fun _=>?_) (fun _=>?_)|with_reducible refine gdW_decF (fun _=>?_) (fun _=>?_)|refine gdW_not (fun _=>?_) (fun _=>?_)|refine gdW_any (fun _=>?_) (fun _=>?_)|simp only [go_sem,bne,iQ,iB,iX,Int.reduceLE,iN,iA,iS,iM,setIi,setBb,tk_I,tk_B,List.length_set, *]|rfl)
 · clear h5 h6 h7 b5 b6
   repeat' (first|with_reducible rfl|refine fcW_int (spec_l1Do.fc _ _ _ ws.1) ?_|refine fcW_int (spec_l1Do.fc _ _ _ i0) ?_|with_reducible refine cdW_dec (fun _=>?_) (fun _=>?_)|refine cdW_not (fun _=>?_) (fun _=>?_)|refine cdW_any (fun _=>?_) (fun _=>?_)|with_reducible refine gdW_decT (fun _=>?_) (fun _=>?_)|with_reducible refine gdW_decF (fun _=>?_) (fun _=>?_)|refine gdW_not (fun _=>?_) (fun _=>?_)|refine gdW_any (fun _=>?_) (fun _=>?_)|simp only [go_sem,bne,iQ,iB,iX,Int.reduceLE,iN,iA,iS,iM,setIi,setBb,tk_I,tk_B,List.length_set, *]|rfl)
 · clear h5 h6 h7 b5 b6
   repeat' (first|with_reducible rfl|refine fcW_int (spec_l1Do.fc _ _ _ ws.1) ?_|refine fcW_int (spec_l1Do.fc _ _ _ i0) ?_|with_reducible refine cdW_dec (fun _=>?_) (fun _=>?_)|refine cdW_not (fun _=>?_) (fun _=>?_)|refine cdW_any (fun _=>?_) (fun _=>?_)|with_reducible refine gdW_decT (fun _=>?_) (fun _=>?_)|with_reducible refine gdW_decF (fun _=>?_) (fun _=>?_)|refine gdW_not (fun _=>?_) (fun _=>?_)|refine gdW_any (fun _=>?_) (fun _=>?_)|simp only [go_sem,bne,iQ,iB,iX,Int.reduceLE,iN,iA,iS,iM,setIi,setBb,tk_I,tk_B,List.length_set, *]|rfl)
 · clear h5 h6 h7 b5 b6
   repeat' (first|with_reducible rfl|refine fcW_int (spec_l1Do.fc _ _ _ ws.1) ?_|refine fcW_int (spec_l1Do.fc _ _ _ i0) ?_|with_reducible refine cdW_dec (fun _=>?_) (fun _=>?_)|refine cdW_not (fun _=>?_) (fun _=>?_)|refine cdW_any (fun _=>?_) (fun _=>?_)|with_reducible refine gdW_decT (fun _=>?_) (fun _=>?_)|with_reducible refine gdW_decF (fun _=>?_) (fun _=>?_)|refine gdW_not (fun _=>?_) (fun _=>?_)|refine gdW_any (fun _=>?_) (fun _=>?_)|simp only [go_sem,bne,iQ,iB,iX,Int.reduceLE,iN,iA,iS,iM,setIi,setBb,tk_I,tk_B,List.length_set, *]|rfl)
theorem noRs_t4 {a b c d:D} (ha:noRs a=true) (hb:noRs b=true) (hc:noRs c=true) (hd:noRs d=true):noRs (.tup [a,b,c,d])=true:=by
 simp only [noRs,noRsL,ha,hb,hc,hd,Bool.and_self]
structure ProgOk (p:List StepD):Prop where
 len:1≤p.length∧p.length≤20
 all:∀ (i:Nat) (h:i < p.length),stepB p[i]=true∧(p[i].to > 0→(i:Int)+p[i].to+1 < p.length)
 last:lastK p=11
theorem prog_ok {p:List StepD} (h:goodP p=true):ProgOk p:=by
 simp only [goodP,Bool.and_eq_true,inB,decide_eq_true_eq,beq_iff_eq,List.all_eq_true,List.mem_range] at h
 refine ⟨by omega,fun i hi=>?_,h.1.2⟩
 have:=h.2 i hi
 unfold okAt at this
 rw [List.getElem?_eq_getElem hi] at this
 simp only [Bool.and_eq_true,Bool.not_eq_true',Bool.and_eq_false_iff,decide_eq_false_iff_not] at this
 exact ⟨this.1,by omega⟩
def zeroMach:MachD:=⟨0,[],[],[]⟩
def doOk (p:List StepD) (ctx:List Int) (m:MachD):Bool:=goodP p&&ctxB ctx&&goodMach m&&decide (m.pc < p.length)
def stepAt (p:List StepD) (ctx:List Int) (m:MachD):MachD×Int×Bool:=match p[m.pc.toNat]? with
 | some s=>stepM s ctx m
 | none=>(m,0,false)
def doStepV (p:List StepD) (ctx:List Int) (m:MachD):MachD×Int×Bool×Bool :=
 if doOk p ctx m then (if (stepAt p ctx m).2.1 == 0 then ((stepAt p ctx m).1,0,(stepAt p ctx m).2.2,true) else (zeroMach,(stepAt p ctx m).2.1,false,true)) else (zeroMach,0,false,false)
def doStepD (r:MachD×Int×Bool×Bool):D:=.tup [r.1.d,Ii r.2.1,Bb r.2.2.1,Bb r.2.2.2]
theorem step_fault {s:StepD} {ctx:List Int} {m:MachD}:(stepM s ctx m).2.1=0∨(stepM s ctx m).2.1 > 0:=by
 have key:∀ (c:Prop) [Decidable c] (a b:MachD×Int×Bool),(a.2.1=0∨a.2.1 > 0)→(b.2.1=0∨b.2.1 > 0)→((if c then a else b).2.1=0∨(if c then a else b).2.1 > 0):=by
  intro c _ a b ha hb;split
  · exact ha
  · exact hb
 unfold stepM
 repeat' (first|exact .inl rfl|exact .inr (show (1:Int) > 0 by decide)|exact .inr (show (2:Int) > 0 by decide)|exact .inr (show (3:Int) > 0 by decide)|apply key)
theorem noRsL_pM {m:MachD}:noRsL [.ptr m.d]=true:=by
 show (noRs (.ptr m.d)&&true)=true
 rw [Bool.and_true]
 exact noRs_Machine
theorem impl_DoStep.fc (p:List StepD) (ctx:List Int) (m:MachD) (hp:p.length≤4194304) (hc:ctx.length≤4194304) (hm:wMachine m≤4194304) :
 FCt prog F_impl_DoStep [.ro,.ro,.ro] [steps p,ints ctx,m.d] (doStepD (doStepV p ctx m)) []:=by
 refine fct_run impl_DoStep.ok rfl ?_
 have c1:=impl_GoodProgram.fc p hp
 have c2:=impl_isContext.fc ctx (by omega)
 have c3:=impl_GoodMachine.fc m hm
 unfold doStepV doOk doStepD zeroMach
 cases h1:goodP p with
 | false=>repeat' (first|with_reducible rfl|refine fcW_bool (c1) ?_|refine fcW_bool (c2) ?_|refine fcW_bool (c3) ?_|with_reducible refine cdW_dec (fun _=>?_) (fun _=>?_)|refine cdW_not (fun _=>?_) (fun _=>?_)|refine cdW_any (fun _=>?_) (fun _=>?_)|with_reducible refine gdW_decT (fun _=>?_) (fun _=>?_)|with_reducible refine gdW_decF (fun _=>?_) (fun _=>?_)|refine gdW_not (fun _=>?_) (fun _=>?_)|refine gdW_any (fun _=>?_) (fun _=>?_)|simp only [go_sem,bne,iQ,iB,iX,Int.reduceLE,iN,iA,iS,iM, *]|rfl)
 | true =>
  cases h2:ctxB ctx with
  | false=>repeat' (first|with_reducible rfl|refine fcW_bool (c1) ?_|refine fcW_bool (c2) ?_|refine fcW_bool (c3) ?_|with_reducible refine cdW_dec (fun _=>?_) (fun _=>?_)|refine cdW_not (fun _=>?_) (fun _=>?_)|refine cdW_any (fun _=>?_) (fun _=>?_)|with_reducible refine gdW_decT (fun _=>?_) (fun _=>?_)|with_reducible refine gdW_decF (fun _=>?_) (fun _=>?_)|refine gdW_not (fun _=>?_) (fun _=>?_)|refine gdW_any (fun _=>?_) (fun _=>?_)|simp only [go_sem,bne,iQ,iB,iX,Int.reduceLE,iN,iA,iS,iM, *]|rfl)
  | true =>
   cases h3:goodMach m with
   | false=>repeat' (first|with_reducible rfl|refine fcW_bool (c1) ?_|refine fcW_bool (c2) ?_|refine fcW_bool (c3) ?_|with_reducible refine cdW_dec (fun _=>?_) (fun _=>?_)|refine cdW_not (fun _=>?_) (fun _=>?_)|refine cdW_any (fun _=>?_) (fun _=>?_)|with_reducible refine gdW_decT (fun _=>?_) (fun _=>?_)|with_reducible refine gdW_decF (fun _=>?_) (fun _=>?_)|refine gdW_not (fun _=>?_) (fun _=>?_)|refine gdW_any (fun _=>?_) (fun _=>?_)|simp only [go_sem,bne,iQ,iB,iX,Int.reduceLE,iN,iA,iS,iM, *]|rfl)
   | true =>
    by_cases h4:m.pc < p.length
    case neg =>
     have h5:m.pc ≥ p.length:=by omega
     repeat' (first|with_reducible rfl|refine fcW_bool (c1) ?_|refine fcW_bool (c2) ?_|refine fcW_bool (c3) ?_|with_reducible refine cdW_dec (fun _=>?_) (fun _=>?_)|refine cdW_not (fun _=>?_) (fun _=>?_)|refine cdW_any (fun _=>?_) (fun _=>?_)|with_reducible refine gdW_decT (fun _=>?_) (fun _=>?_)|with_reducible refine gdW_decF (fun _=>?_) (fun _=>?_)|refine gdW_not (fun _=>?_) (fun _=>?_)|refine gdW_any (fun _=>?_) (fun _=>?_)|simp only [go_sem,bne,iQ,iB,iX,Int.reduceLE,iN,iA,iS,iM, *]|rfl)
    have h5:¬ m.pc ≥ p.length:=by omega
    have op:=prog_ok h1
    have om:=goodMach_ok h3
    have p0:=om.pc.1
    obtain ⟨hs,_⟩:=op.all m.pc.toNat (by omega)
    have gs:p[m.pc.toNat]? = some (p[m.pc.toNat]'(by omega)):=List.getElem?_eq_getElem (by omega)
    have hst:stepAt p ctx m=stepM (p[m.pc.toNat]'(by omega)) ctx m:=by unfold stepAt;rw [gs]
    rw [hst]
    have c5:=impl_pMachine_step.fc p ctx m _ op.len.2 (ctx_ok h2) om h4 gs hs
    have sf:=step_fault (s:=p[m.pc.toNat]'(by omega)) (ctx:=ctx) (m:=m)
    generalize stepM (p[m.pc.toNat]'(by omega)) ctx m=R at c5 sf ⊢
    obtain ⟨R0,R1,R2⟩:=R
    simp only [go_sem,h1,h2,h3,h4,h5]
    refine fcW_bool c1 ?_
    simp only [go_sem,h1]
    refine fcW_bool c2 ?_
    simp only [go_sem,h2]
    refine fcW_bool c3 ?_
    simp only [go_sem,h3,h5]
    refine fcW_bd (impl_Machine_own.fc m om.len) noRs_Machine ?_
    simp only [go_sem,take_map_len]
    refine coW_of c5 rfl noRsL_pM ?_
    rcases sf with sf|sf
    · dsimp only at sf
      subst sf
      simp only [go_sem,take_map_len,bne_self_eq_false]
      rw [decide_eq_true h4]
      rfl
    · dsimp only at sf
      have s1:(R1 == 0)=false:=by rw [beq_eq_false_iff_ne];omega
      have s2:(R1 != 0)=true:=by rw [bne,s1];rfl
      simp only [go_sem,s1,s2,take_map_len]
      rw [decide_eq_true h4]
      rfl
theorem spec_DoStep.fc (p:List StepD) (ctx:List Int) (m:MachD) (hp:p.length≤4194304) (hc:ctx.length≤4194304) (hm:wMachine m≤4194304) :
 FCt prog F_spec_DoStep [.ro,.ro,.ro] [steps p,ints ctx,m.d] (doStepD (doStepV p ctx m)) []:=by
 refine fct_run spec_DoStep.ok rfl ?_
 have c1:=spec_GoodProgram.fc p hp
 have c2:=spec_l3Ctx.fc ctx (by omega)
 have c3:=spec_GoodMachine.fc m hm
 unfold doStepV doOk doStepD zeroMach
 cases h1:goodP p with
 | false=>repeat' (first|with_reducible rfl|refine fcW_bool (c1) ?_|refine fcW_bool (c2) ?_|refine fcW_bool (c3) ?_|with_reducible refine cdW_dec (fun _=>?_) (fun _=>?_)|refine cdW_not (fun _=>?_) (fun _=>?_)|refine cdW_any (fun _=>?_) (fun _=>?_)|with_reducible refine gdW_decT (fun _=>?_) (fun _=>?_)|with_reducible refine gdW_decF (fun _=>?_) (fun _=>?_)|refine gdW_not (fun _=>?_) (fun _=>?_)|refine gdW_any (fun _=>?_) (fun _=>?_)|simp only [go_sem,bne,iQ,iB,iX,Int.reduceLE,iN,iA,iS,iM, *]|rfl)
 | true =>
  cases h2:ctxB ctx with
  | false=>repeat' (first|with_reducible rfl|refine fcW_bool (c1) ?_|refine fcW_bool (c2) ?_|refine fcW_bool (c3) ?_|with_reducible refine cdW_dec (fun _=>?_) (fun _=>?_)|refine cdW_not (fun _=>?_) (fun _=>?_)|refine cdW_any (fun _=>?_) (fun _=>?_)|with_reducible refine gdW_decT (fun _=>?_) (fun _=>?_)|with_reducible refine gdW_decF (fun _=>?_) (fun _=>?_)|refine gdW_not (fun _=>?_) (fun _=>?_)|refine gdW_any (fun _=>?_) (fun _=>?_)|simp only [go_sem,bne,iQ,iB,iX,Int.reduceLE,iN,iA,iS,iM, *]|rfl)
  | true =>
   cases h3:goodMach m with
   | false=>repeat' (first|with_reducible rfl|refine fcW_bool (c1) ?_|refine fcW_bool (c2) ?_|refine fcW_bool (c3) ?_|with_reducible refine cdW_dec (fun _=>?_) (fun _=>?_)|refine cdW_not (fun _=>?_) (fun _=>?_)|refine cdW_any (fun _=>?_) (fun _=>?_)|with_reducible refine gdW_decT (fun _=>?_) (fun _=>?_)|with_reducible refine gdW_decF (fun _=>?_) (fun _=>?_)|refine gdW_not (fun _=>?_) (fun _=>?_)|refine gdW_any (fun _=>?_) (fun _=>?_)|simp only [go_sem,bne,iQ,iB,iX,Int.reduceLE,iN,iA,iS,iM, *]|rfl)
   | true =>
    by_cases h4:m.pc < p.length
    case neg =>
     have h5:m.pc ≥ p.length:=by omega
     repeat' (first|with_reducible rfl|refine fcW_bool (c1) ?_|refine fcW_bool (c2) ?_|refine fcW_bool (c3) ?_|with_reducible refine cdW_dec (fun _=>?_) (fun _=>?_)|refine cdW_not (fun _=>?_) (fun _=>?_)|refine cdW_any (fun _=>?_) (fun _=>?_)|with_reducible refine gdW_decT (fun _=>?_) (fun _=>?_)|with_reducible refine gdW_decF (fun _=>?_) (fun _=>?_)|refine gdW_not (fun _=>?_) (fun _=>?_)|refine gdW_any (fun _=>?_) (fun _=>?_)|simp only [go_sem,bne,iQ,iB,iX,Int.reduceLE,iN,iA,iS,iM, *]|rfl)
    have h5:¬ m.pc ≥ p.length:=by omega
    have op:=prog_ok h1
    have om:=goodMach_ok h3
    have p0:=om.pc.1
    obtain ⟨hs,_⟩:=op.all m.pc.toNat (by omega)
    have gs:p[m.pc.toNat]? = some (p[m.pc.toNat]'(by omega)):=List.getElem?_eq_getElem (by omega)
    have hst:stepAt p ctx m=stepM (p[m.pc.toNat]'(by omega)) ctx m:=by unfold stepAt;rw [gs]
    rw [hst]
    have c5:=spec_l3Do.fc p ctx m _ op.len.2 (ctx_ok h2) om h4 gs hs
    have sf:=step_fault (s:=p[m.pc.toNat]'(by omega)) (ctx:=ctx) (m:=m)
    generalize stepM (p[m.pc.toNat]'(by omega)) ctx m=R at c5 sf ⊢
    obtain ⟨R0,R1,R2⟩:=R
    simp only [go_sem,h1,h2,h3,h4,h5]
    refine fcW_bool c1 ?_
    simp only [go_sem,h1]
    refine fcW_bool c2 ?_
    simp only [go_sem,h2]
    refine fcW_bool c3 ?_
    simp only [go_sem,h3,h5]
    refine fcW_bd (spec_l3Own.fc m om.len) noRs_Machine ?_
    simp only [go_sem,take_map_len]
    refine coW_of c5 (noRs_t3 noRs_Machine rfl rfl) rfl ?_
    rcases sf with sf|sf
    · dsimp only at sf
      subst sf
      simp only [go_sem,take_map_len,bne_self_eq_false,gt_iff_lt,Int.lt_irrefl]
      rw [decide_eq_true h4]
      rfl
    · dsimp only at sf
      have s1:(R1 == 0)=false:=by rw [beq_eq_false_iff_ne];omega
      have s2:R1 > 0:=sf
      have s0:(R1 != 0)=true:=by rw [bne,s1];rfl
      simp only [go_sem,s1,s2,gt_iff_lt,take_map_len]
      rw [decide_eq_true h4]
      rfl
theorem mach_w {m:MachD} (h:MachLen m):wMachine m≤1048576:=by obtain ⟨h1,h2,h3⟩:=h;unfold wMachine;omega
theorem stepM_len {s:StepD} {ctx:List Int} {m:MachD} (h:MachLen m):MachLen (stepM s ctx m).1:=by
 obtain ⟨h1,h2,h3⟩:=h
 have key:∀ (c:Prop) [Decidable c] (a b:MachD×Int×Bool),MachLen a.1→MachLen b.1→MachLen (if c then a else b).1:=by
  intro c _ a b ha hb;split
  · exact ha
  · exact hb
 have k0:MachLen m:=⟨h1,h2,h3⟩
 have k1:∀ i n,MachLen (setR m i n):=fun i n=>⟨by simp [setR,h1],h2,h3⟩
 have k2:∀ i n,MachLen (setC m i n):=fun i n=>⟨h1,by simp [setC,h2],by simp [setC,h3]⟩
 have k3:∀ n,MachLen (setP m n):=fun n=>⟨h1,h2,h3⟩
 unfold stepM
 repeat' (first|exact k0|exact k1 _ _|exact k2 _ _|exact k3 _|apply key)
theorem doStep_w {p:List StepD} {ctx:List Int} {m:MachD}:wMachine (doStepV p ctx m).1≤1048576:=by
 unfold doStepV
 split
 · rename_i h
   simp only [doOk,Bool.and_eq_true] at h
   split
   · refine mach_w ?_
     unfold stepAt
     split
     · exact stepM_len (goodMach_ok h.1.2).len
     · exact (goodMach_ok h.1.2).len
   · exact (by decide:wMachine zeroMach≤1048576)
 · exact (by decide:wMachine zeroMach≤1048576)
theorem map_snoc {α:Type} {f:α→D} {l:List α} {x:α}:l.map f++[f x]=(l++[x]).map f:=by rw [List.map_append];rfl
set_option maxHeartbeats 8000000
theorem tdiv_wd {a b:Int} (ha:wd a) (hb:wd b):wd (IntKind.i64.wrap (Int.tdiv a b)):=by
 have h1:0≤Int.tdiv a b:=by rw [Int.tdiv_eq_ediv_of_nonneg ha.1];exact Int.ediv_nonneg ha.1 hb.1
 have h2:Int.tdiv a b≤a:=by rw [Int.tdiv_eq_ediv_of_nonneg ha.1];exact Int.ediv_le_self b ha.1
 have:=ha.2
 rw [wrap_in (by omega) (by omega)]
 exact ⟨h1,by omega⟩
theorem tmod_wd {a b:Int} (ha:wd a) (hb:wd b) (h:b≠0):wd (Int.tmod a b):=by
 rw [Int.tmod_eq_emod_of_nonneg ha.1]
 have h1:=Int.emod_nonneg a h
 have h2:=Int.emod_lt_of_pos a (show 0 < b by have:=hb.1;omega)
 have:=hb.2
 exact ⟨h1,by omega⟩
theorem fdiv_wd {a:Int} {k:Nat} (ha:wd a):wd (Int.fdiv a (2 ^ k)):=by
 have hp:(0:Int)≤2 ^ k:=Int.pow_nonneg (by decide)
 rw [Int.fdiv_eq_ediv_of_nonneg _ hp]
 have h1:=Int.ediv_nonneg ha.1 hp
 have h2:=Int.ediv_le_self (2 ^ k:Int) ha.1
 have:=ha.2
 exact ⟨h1,by omega⟩
theorem doI_wd {op a b:Int} (ha:wd a) (hb:wd b):wd (doI op a b):=by
 have key:∀ (c:Prop) [Decidable c] (x y:Int),(c→wd x)→(¬ c→wd y)→wd (if c then x else y):=by
  intro c _ x y hx hy;split
  · rename_i h;exact hx h
  · rename_i h;exact hy h
 have z:wd 0:=⟨by decide,by decide⟩
 unfold doI
 refine key _ _ _ (fun _=>emod_wd _) fun _=>key _ _ _ (fun _=>emod_wd _) fun _=>key _ _ _ (fun _=>emod_wd _) fun _=>key _ _ _ (fun _=>key _ _ _ (fun _=>z) fun _=>tdiv_wd ha hb) fun _=>key _ _ _ (fun _=>key _ _ _ (fun _=>ha) fun h=>tmod_wd ha hb (by simpa using h)) fun _ =>
  key _ _ _ (fun _=>andI_wd ha) fun _=>key _ _ _ (fun _=>orI_wd ha hb) fun _=>key _ _ _ (fun _=>xorI_wd ha hb) fun _=>key _ _ _ (fun _=>emod_wd _) fun _=>fdiv_wd ha
theorem mem_set {α:Type} {l:List α} {i:Nat} {x y:α} (h:y∈l.set i x):y∈l∨y=x:=List.mem_or_eq_of_mem_set h
theorem setR_ok {m:MachD} {i n:Int} (hm:MachOk m) (hp:m.pc+1≤19) (hn:wd n):MachOk (setR m i n) :=
 ⟨⟨by have:=hm.pc.1;show 0≤m.pc+1;omega,hp⟩,by simp [setR,hm.regs],hm.cells,hm.isset,fun x hx=>(mem_set hx).elim (hm.wr x) (fun e=>e▸hn),hm.wc⟩
theorem setC_ok {m:MachD} {i n:Int} (hm:MachOk m) (hp:m.pc+1≤19) (hn:wd n):MachOk (setC m i n) :=
 ⟨⟨by have:=hm.pc.1;show 0≤m.pc+1;omega,hp⟩,hm.regs,by simp [setC,hm.cells],by simp [setC,hm.isset],hm.wr,fun x hx=>(mem_set hx).elim (hm.wc x) (fun e=>e▸hn)⟩
theorem setP_ok {m:MachD} {n:Int} (hm:MachOk m) (hp:0≤n∧n≤19):MachOk (setP m n):=⟨hp,hm.regs,hm.cells,hm.isset,hm.wr,hm.wc⟩
theorem regI_wd {m:MachD} {i:Int} (hm:MachOk m):wd (regI m i):=by
 unfold regI
 rw [List.getD_eq_getElem?_getD]
 cases h:m.regs[i.toNat]? with
 | none=>exact ⟨by decide,by decide⟩
 | some x=>exact hm.wr x (List.mem_of_getElem? h)
theorem getD_mem {α:Type} {P:α→Prop} {l:List α} {i:Nat} {d:α} (hd:P d) (h:∀ x∈l,P x):P (l.getD i d):=by
 rw [List.getD_eq_getElem?_getD]
 cases e:l[i]? with
 | none=>exact hd
 | some x=>exact h x (List.mem_of_getElem? e)
structure StepKeeps (p:List StepD) (r:MachD×Int×Bool):Prop where
 ok:MachOk r.1
 pc:r.1.pc < p.length
theorem step_keeps {p:List StepD} {ctx:List Int} {m:MachD} (hp:ProgOk p) (hc:CtxOk ctx) (hm:MachOk m) (hpc:m.pc < p.length):StepKeeps p (stepAt p ctx m):=by
 have p0:=hm.pc.1
 have hi:m.pc.toNat < p.length:=by omega
 obtain ⟨hv,ht⟩:=hp.all m.pc.toNat hi
 have gs:p[m.pc.toNat]? = some p[m.pc.toNat]:=List.getElem?_eq_getElem hi
 unfold stepAt
 rw [gs]
 dsimp only
 have hlast:p[m.pc.toNat].kind=11∨m.pc+1 < p.length:=by
  by_cases h:m.pc+1 < p.length
  · exact .inr h
  · left
    have e:p.length - 1=m.pc.toNat:=by omega
    have:=hp.last
    unfold lastK at this
    rw [e,gs] at this
    exact this
 have kd:=valid_kind (.inr hv)
 have ok:=step_ok hv
 generalize p[m.pc.toNat]=s at hv ht hlast kd ok
 have hto:=ok.to
 have hj:=ok.jmp
 have hw:∀ i,wd (regI m i):=fun i=>regI_wd hm
 have hl20:=hp.len.2
 have k0:StepKeeps p (m,(1:Int),false):=⟨hm,hpc⟩
 have k1:∀ f e,StepKeeps p (m,f,e):=fun f e=>⟨hm,hpc⟩
 have key:∀ (c:Prop) [Decidable c] (a b:MachD×Int×Bool),(c→StepKeeps p a)→(¬ c→StepKeeps p b)→StepKeeps p (if c then a else b):=by
  intro c _ a b ha hb;split
  · rename_i h;exact ha h
  · rename_i h;exact hb h
 have wi:wd s.imm:=ok.imm
 have z:wd 0:=⟨by decide,by decide⟩
 have kR:∀ n,s.kind≠11→wd n→StepKeeps p (setR m s.dst n,(0:Int),false):=fun n hk hn=>⟨setR_ok hm (by omega) hn,by show m.pc+1 < _;omega⟩
 have kC:∀ n,s.kind≠11→wd n→StepKeeps p (setC m s.imm n,(0:Int),false):=fun n hk hn=>⟨setC_ok hm (by omega) hn,by show m.pc+1 < _;omega⟩
 have kJ:s.to > 0→StepKeeps p (setP m (m.pc+s.to+1),(0:Int),false):=fun h=>⟨setP_ok hm (by have:=ht h;omega),by show m.pc+s.to+1 < _;have:=ht h;omega⟩
 have kN:s.kind≠11→StepKeeps p (setP m (m.pc+1),(0:Int),false):=fun h=>⟨setP_ok hm (by omega),by show m.pc+1 < _;omega⟩
 have bk:∀ j:Int,(s.kind == j)=true→s.kind=j:=fun j h=>by simpa using h
 have nk:∀ j:Int,¬ (s.kind == j)=true→s.kind≠j:=fun j h=>by simpa using h
 unfold stepM
 refine key _ _ _ (fun h=>kR _ (by have:=bk _ h;omega) (doI_wd (hw _) (hw _))) fun h1=>key _ _ _ (fun h=>kR _ (by have:=bk _ h;omega) (doI_wd (hw _) wi)) fun h2=>key _ _ _ (fun h=>kR _ (by have:=bk _ h;omega) wi) fun h3=>key _ _ _ (fun h=>kR _ (by have:=bk _ h;omega) wi) fun h4 =>
  key _ _ _ (fun h=>key _ _ _ (fun _=>k1 _ _) fun _=>kR _ (by have:=bk _ h;omega) (getD_mem (P:=wd) z fun x hx=>⟨(hc.all x hx).1,by have:=(hc.all x hx).2;omega⟩)) fun h5 =>
  key _ _ _ (fun h=>key _ _ _ (fun _=>k1 _ _) fun _=>kC _ (by have:=bk _ h;omega) (hw _)) fun h7 =>
  key _ _ _ (fun h=>key _ _ _ (fun _=>k1 _ _) fun _=>key _ _ _ (fun _=>kR _ (by have:=bk _ h;omega) (getD_mem (P:=wd) z fun x hx=>hm.wc x hx)) fun _=>k1 _ _) fun h6 =>
  key _ _ _ (fun h=>k1 _ _) fun h11=>key _ _ _ (fun h=>kJ (hj.2 (by have:=bk _ h;omega))) fun h8 =>
  key _ _ _ (fun h=>key _ _ _ (fun _=>kJ (hj.2 (by have:=bk _ h;omega))) fun _=>kN (by have:=bk _ h;omega)) fun h9 =>
  key _ _ _ (fun _=>kJ (hj.2 (by have:=nk _ h1;have:=nk _ h2;have:=nk _ h3;have:=nk _ h4;have:=nk _ h5;have:=nk _ h7;have:=nk _ h6;have:=nk _ h11;have:=nk _ h8;have:=nk _ h9;omega))) fun _=>kN (nk _ h11)
def runF (p:List StepD) (ctx:List Int):Nat→MachD→List Int→Int×Int×Int×List Int
 | 0,m,tr=>(0,4,m.pc,tr)
 | n+1,m,tr=>if (stepAt p ctx m).2.1 == 0 then (if (stepAt p ctx m).2.2 then ((stepAt p ctx m).1.regs.getD 0 0,0,0,tr++[m.pc]) else runF p ctx n (stepAt p ctx m).1 (tr++[m.pc])) else (0,(stepAt p ctx m).2.1,m.pc,tr++[m.pc])
def newM:MachD:=⟨0,List.replicate 6 0,List.replicate 16 0,List.replicate 16 false⟩
theorem newM_ok:MachOk newM:=by
 refine ⟨⟨by decide,by decide⟩,by decide,by decide,by decide,?_,?_⟩
 · intro x hx;rw [List.eq_of_mem_replicate hx];decide
 · intro x hx;rw [List.eq_of_mem_replicate hx];decide
def runP (p:List StepD) (ctx:List Int) (fuel:Nat):Int×Int×Int×List Int:=runF p ctx fuel newM []
set_option maxHeartbeats 4000000
theorem mach_good {m:MachD} (h:MachOk m):goodMach m=true:=by
 obtain ⟨h1,h2,h3,h4,h5,h6⟩:=h
 simp only [goodMach,Bool.and_eq_true,List.all_eq_true,beq_iff_eq,inB,decide_eq_true_eq,isW]
 exact ⟨⟨⟨⟨⟨h1,by omega⟩,by omega⟩,by omega⟩,h5⟩,h6⟩
theorem laws_has.fc (l:List Int) (n:Int) (hl:l.length≤4294967296):FCt prog F_laws_has [.ro,.ro] [ints l,Ii n] (Bb (l.any (· == n))) []:=by
 refine fct_run laws_has.ok rfl ?_
 simp only [go_sem]
 refine R_loop (α:=Nat) (fun k s' M'=>k≤l.length∧s' 9=aI k∧(l.take k).all (fun a=>!(a == n))=true) (fun k=>l.length - k) 0 ⟨Nat.zero_le _,by simp only [go_sem];rfl,rfl⟩ ?_
 rintro k s' M' ⟨hk,h8,hr⟩ ho
 unfold laws_has.b0
 have j1:s' 1=aI n:=by rw [ho 1 rfl];simp only [go_sem]
 have j7:s' 7=.dat none (ints l):=by rw [ho 7 rfl];simp only [go_sem]
 have j8:s' 8=aI l.length:=by rw [ho 8 rfl];simp only [go_sem]
 clear ho
 by_cases hlt:k < l.length
 · have hi':(k:Int) < l.length:=by omega
   have ga:l[k]? = some l[k]:=List.getElem?_eq_getElem hlt
   have hw:IntKind.i64.wrap (k+1)=((k+1:Nat):Int):=wrap_k hlt (by omega)
   cases h1:(l[k] == n)
   · simp only [go_sem,hi',ga,h1,hw,j1,j7,j8,h8]
     refine ⟨k+1,by dsimp only;omega,by omega,by simp only [go_sem,j1,j7,j8,h8],all_take hlt hr (by simp [h1])⟩
   · have:l.any (· == n)=true:=List.any_eq_true.2 ⟨l[k],List.getElem_mem hlt,h1⟩
     simp only [go_sem,hi',ga,h1,this,j1,j7,j8,h8];try rfl
 · have hi':¬ (k:Int) < l.length:=by omega
   obtain rfl:k=l.length:=by omega
   rw [List.take_length] at hr
   have:l.any (· == n)=false:=by
    rw [List.any_eq_false]
    intro a ha
    have:=List.all_eq_true.1 hr a ha
    rw [Bool.not_eq_true'] at this
    rw [this];exact Bool.false_ne_true
   simp only [go_sem,Int.lt_irrefl,this,j1,j7,j8,h8];try rfl
theorem laws_sameBools.fc (a b:List Bool) (ha:a.length≤4294967296) (hb:b.length≤4294967296):FCt prog F_laws_sameBools [.ro,.ro] [bools a,bools b] (Bb (decide (a=b))) []:=by
 refine fct_run laws_sameBools.ok rfl ?_
 by_cases hl:a.length=b.length
 · have e1:((a.length:Int) != b.length)=false:=by rw [hl];simp
   simp only [go_sem,e1]
   refine R_loop (α:=Nat) (fun k s' M'=>k≤a.length∧s' 13=aI k∧∀ i,i < k→a[i]? = b[i]?) (fun k=>a.length - k) 0 ⟨Nat.zero_le _,by simp only [go_sem];try rfl,fun i hi=>absurd hi (Nat.not_lt_zero i)⟩ ?_
   rintro k s' M' ⟨hk,h13,hr⟩ ho
   unfold laws_sameBools.b0
   have j0:s' 0=.dat none (bools a):=by rw [ho 0 rfl];simp only [go_sem]
   have j1:s' 1=.dat none (bools b):=by rw [ho 1 rfl];simp only [go_sem]
   have j12:s' 12=aI a.length:=by rw [ho 12 rfl];simp only [go_sem]
   clear ho
   by_cases hlt:k < a.length
   · have hi':(k:Int) < a.length:=by omega
     have ga:a[k]? = some a[k]:=List.getElem?_eq_getElem hlt
     have hw:IntKind.i64.wrap (k+1)=((k+1:Nat):Int):=wrap_k hlt (by omega)
     have gb:b[k]? = some b[k]:=List.getElem?_eq_getElem (by omega)
     have hb':(k:Int) < b.length:=by omega
     by_cases hx:a[k]=b[k]
     · have hx':(a[k] == b[k])=true:=by simp [hx]
       simp only [go_sem,hi',hb',ga,gb,hx',hw,j0,j1,j12,h13]
       refine ⟨k+1,by dsimp only;omega,by omega,by simp only [go_sem,j0,j1,j12,h13],fun i hi=>?_⟩
       by_cases c:i < k
       · exact hr i c
       · obtain rfl:i=k:=by omega
         rw [ga,gb,hx]
     · have hne:=same_not hlt (by omega) hx
       have hd:decide (a=b)=false:=by simp [hne]
       have hx':(a[k] == b[k])=false:=by simp [hx]
       have n7:(false != true)=true:=rfl
       generalize a[k]=x at *
       simp only [go_sem,hi',hb',ga,gb,hx',hd,n7,j0,j1,j12,h13];try rfl
   · have hi':¬ (k:Int) < a.length:=by omega
     obtain rfl:k=a.length:=by omega
     have e:=same_end hl hk hr
     have hd:decide (a=b)=true:=by simp [e]
     simp only [go_sem,Int.lt_irrefl,hd,j0,j1,j12,h13];try rfl
 · have e1:((a.length:Int) != b.length)=true:=by simp;omega
   have hd:decide (a=b)=false:=by simp;intro e;exact hl (by rw [e])
   simp only [go_sem,e1,hd];try rfl
theorem laws_sameMachine.fc (a:MachD) (h1:a.regs.length≤4294967296) (h2:a.cells.length≤4294967296) (h3:a.isset.length≤4294967296):FCt prog F_laws_sameMachine [.ro,.ro] [a.d,a.d] (Bb true) []:=by
 refine fct_run laws_sameMachine.ok rfl ?_
 obtain ⟨pc,r,c,b⟩:=a
 dsimp only at h1 h2 h3
 have c1:=laws_sameInts.fc r r h1 h1
 have c2:=laws_sameInts.fc c c h2 h2
 have c3:=laws_sameBools.fc b b h3 h3
 rw [show decide (r=r)=true by simp] at c1
 rw [show decide (c=c)=true by simp] at c2
 rw [show decide (b=b)=true by simp] at c3
 have e:(pc == pc)=true:=by simp
 simp only [go_sem,e]
 refine fcW_bool c1 ?_
 simp only [go_sem]
 refine fcW_bool c2 ?_
 simp only [go_sem]
 refine fcW_bool c3 ?_
 simp only [go_sem];try rfl
set_option maxHeartbeats 16000000
def nextsL (s:StepD) (i:Int):List Int :=
 if s.kind == 11 then [] else if s.kind == 8 then [i+s.to+1] else if s.kind == 9 then [i+1,i+s.to+1] else if s.kind == 10 then [i+1,i+s.to+1] else [i+1]
theorem impl_nexts.fc (p:List StepD) (i:Int) (s:StepD) (h0:0≤i) (h1:i < p.length) (hl:p.length≤20) (hs:p[i.toNat]? = some s) (hv:stepB s=true):FCt prog F_impl_nexts [.ro,.ro] [steps p,Ii i] (ints (nextsL s i)) []:=by
 refine fct_run impl_nexts.ok rfl ?_
 have ot:=(step_ok hv).to
 have w1:IntKind.i64.wrap (i+1)=i+1:=wrap_in (by omega) (by omega)
 have w2:IntKind.i64.wrap (i+s.to)=i+s.to:=wrap_in (by omega) (by omega)
 have w3:IntKind.i64.wrap (i+s.to+1)=i+s.to+1:=wrap_in (by omega) (by omega)
 unfold nextsL
 repeat' (first|with_reducible rfl|with_reducible refine cdW_dec (fun _=>?_) (fun _=>?_)|refine cdW_not (fun _=>?_) (fun _=>?_)|refine cdW_any (fun _=>?_) (fun _=>?_)|with_reducible refine gdW_decT (fun _=>?_) (fun _=>?_)|with_reducible refine gdW_decF (fun _=>?_) (fun _=>?_)|refine gdW_not (fun _=>?_) (fun _=>?_)|refine gdW_any (fun _=>?_) (fun _=>?_)|simp only [go_sem,bne,iQ,iB,iX,Int.reduceLE,iN,iA,iS,iM, *]|rfl)
theorem impl_NewMachine.fc:FCt prog F_impl_NewMachine [] [] newM.d []:=by
 refine fct_run impl_NewMachine.ok rfl ?_
 have c1:(6:Int) * (8:Nat)≤70368744177664:=by omega
 have c2:(16:Int) * (8:Nat)≤70368744177664:=by omega
 have c3:(16:Int) * (1:Nat)≤70368744177664:=by omega
 simp only [go_sem,c1,c2,c3,Int.le_refl,List.length_replicate,Nat.le_refl]
 rfl
theorem spec_NewMachine.fc:FCt prog F_spec_NewMachine [] [] newM.d []:=by
 refine fct_run spec_NewMachine.ok rfl ?_
 have c1:(6:Int) * (8:Nat)≤70368744177664:=by omega
 have c2:(16:Int) * (8:Nat)≤70368744177664:=by omega
 have c3:(16:Int) * (1:Nat)≤70368744177664:=by omega
 simp only [go_sem,c1,c2,c3,Int.le_refl,List.length_replicate,Nat.le_refl]
 rfl
def runD (r:Int×Int×Int×List Int):D:=.tup [Ii r.1,Ii r.2.1,Ii r.2.2.1,ints r.2.2.2]
theorem stepAt_fc {p:List StepD} {ctx:List Int} {m:MachD} (hp:ProgOk p) (hc:CtxOk ctx) (hm:MachOk m) (hpc:m.pc < p.length) :
 FCt prog F_impl_pMachine_step [.io,.ro,.ro] [.ptr m.d,steps p,ints ctx] (.tup [Ii (stepAt p ctx m).2.1,Bb (stepAt p ctx m).2.2]) [.ptr (stepAt p ctx m).1.d]:=by
 have p0:=hm.pc.1
 have hi:m.pc.toNat < p.length:=by omega
 have gs:p[m.pc.toNat]? = some p[m.pc.toNat]:=List.getElem?_eq_getElem hi
 have:=impl_pMachine_step.fc p ctx m _ hp.len.2 hc hm hpc gs (hp.all _ hi).1
 unfold stepAt
 rw [gs]
 exact this
theorem stepAt_fs {p:List StepD} {ctx:List Int} {m:MachD} (hp:ProgOk p) (hc:CtxOk ctx) (hm:MachOk m) (hpc:m.pc < p.length) :
 FCt prog F_spec_l3Do [.ro,.ro,.co] [steps p,ints ctx,m.d] (.tup [(stepAt p ctx m).1.d,Ii (stepAt p ctx m).2.1,Bb (stepAt p ctx m).2.2]) []:=by
 have p0:=hm.pc.1
 have hi:m.pc.toNat < p.length:=by omega
 have gs:p[m.pc.toNat]? = some p[m.pc.toNat]:=List.getElem?_eq_getElem hi
 have:=spec_l3Do.fc p ctx m _ hp.len.2 hc hm hpc gs (hp.all _ hi).1
 unfold stepAt
 rw [gs]
 exact this
theorem impl_run.fc (p:List StepD) (ctx:List Int) (fuel:Nat) (hf:fuel≤100) (hp:ProgOk p) (hc:CtxOk ctx) :
 FCt prog F_impl_run [.ro,.ro,.ro] [steps p,ints ctx,Ii fuel] (runD (runP p ctx fuel)) []:=by
 refine fct_run impl_run.ok rfl ?_
 simp only [go_sem]
 refine fcW_bd impl_NewMachine.fc noRs_Machine ?_
 have nl:=newM_ok.len
 simp only [go_sem,nl.regs,nl.cells,nl.isset]
 refine R_loop (α:=Nat×MachD×List Int) (fun a s' M'=>a.1≤fuel∧a.2.2.length=a.1∧MachOk a.2.1∧a.2.1.pc < p.length∧(∃ v,s' 11=.sl 1600 v 0 a.1 1∧M'.m 1600=some (.arr v true 1 (a.2.2.map Ii))) ∧
  (∃ n1 n2 n3 v1 v2 v3,M'.m 384=some (.box 320 (.agg [aI a.2.1.pc,.sl n1 v1 0 6 1,.sl n2 v2 0 16 1,.sl n3 v3 0 16 1]))∧M'.m n1=some (.arr v1 true 1 (a.2.1.regs.map Ii))∧M'.m n2=some (.arr v2 true 1 (a.2.1.cells.map Ii))∧M'.m n3=some (.arr v3 true 1 (a.2.1.isset.map Bb)) ∧
   ((n1=320∧n2=321∧n3=322)∨(n1=1856∧n2=1857∧n3=1858))) ∧
  runP p ctx fuel=runF p ctx (fuel - a.1) a.2.1 a.2.2) (fun a=>fuel - a.1) (0,newM,[])
  ⟨by dsimp only;omega,rfl,newM_ok,by show (0:Int) < _;have:=hp.len.1;omega,⟨_,by simp only [go_sem];rfl,by simp only [go_sem];try rfl⟩,⟨320,321,322,_,_,_,by simp only [go_sem,nl.regs,nl.cells,nl.isset];try rfl,by simp only [go_sem],by simp only [go_sem],by simp only [go_sem],.inl ⟨rfl,rfl,rfl⟩⟩,rfl⟩ ?_
 rintro ⟨k,m,tr⟩ s' M' ⟨hk,htr,hm,hpc,⟨v,h11,hmt⟩,⟨n1,n2,n3,v1,v2,v3,hb,a1,a2,a3,hn⟩,hrun⟩ ho
 dsimp only at hk htr hm hpc h11 hmt hb a1 a2 a3 hrun
 unfold impl_run.b0
 have j0:s' 0=.dat none (steps p):=by rw [ho 0 rfl];simp only [go_sem]
 have j1:s' 1=.dat none (ints ctx):=by rw [ho 1 rfl];simp only [go_sem]
 have j2:s' 2=aI fuel:=by rw [ho 2 rfl];simp only [go_sem]
 have j10:s' 10=.ptr 384 320 0 none:=by rw [ho 10 rfl];simp only [go_sem]
 clear ho
 have ml:=hm.len
 have l1:=ml.regs
 have l2:=ml.cells
 have l3:=ml.isset
 have hst:=stepAt_fc hp hc hm hpc
 have hsk:=step_keeps hp hc hm hpc
 by_cases hlt:k < fuel
 · have e1:((k:Int) == (fuel:Int))=false:=by rw [beq_eq_false_iff_ne];omega
   have hb1:(k+1) * 8≤70368744177664:=by omega
   have ap:tr.map Ii++[Ii m.pc]=(tr++[m.pc]).map Ii:=map_snoc
   have tk:(tr.map Ii).take k=tr.map Ii:=List.take_of_length_le (by simp [htr])
   have hf2:fuel - k=(fuel - (k+1))+1:=by omega
   rw [hf2] at hrun
   unfold runF at hrun
   generalize stepAt p ctx m=R at hst hsk hrun
   obtain ⟨R0,R1,R2⟩:=R
   dsimp only at hst hrun
   have rl:=hsk.ok.len
   have r1:=rl.regs
   have r2:=rl.cells
   have r3:=rl.isset
   dsimp only at r1 r2 r3
   have tkr:((tr++[m.pc]).map Ii).take (k+1)=(tr++[m.pc]).map Ii:=List.take_of_length_le (by simp [htr])
   rcases hn with ⟨rfl,rfl,rfl⟩|⟨rfl,rfl,rfl⟩
   · simp only [go_sem,e1,hb1,ap,tk,htr,l1,l2,l3,tk_I,tk_B,j0,j1,j2,j10,h11,hmt,hb,a1,a2,a3]
     refine coW_of hst rfl noRsL_pM ?_
     cases h0:(R1 == 0) with
     | false =>
      have h1:(R1 != 0)=true:=by rw [bne,h0];rfl
      rw [h0] at hrun
      simp only [go_sem,h1,List.length_append,List.length_singleton,htr,tkr,j0,j1,j2,j10,h11,hmt,hb,a1,a2,a3]
      rw [hrun]
      rfl
     | true =>
      have h1:(R1 != 0)=false:=by rw [bne,h0];rfl
      rw [h0] at hrun
      cases R2 with
      | true =>
       have c6:((6:Nat):Int)=6:=rfl
       have hg:R0.regs[0]? = some (R0.regs.getD 0 0):=getD_some (by have:=rl.regs;omega)
       simp only [go_sem,h1,List.length_append,List.length_singleton,htr,tkr,r1,r2,r3,hg,c6,j0,j1,j2,j10,h11,hmt,hb,a1,a2,a3]
       rw [hrun]
       rfl
      | false =>
       simp only [go_sem,h1,j0,j1,j2,j10,h11,hmt,hb,a1,a2,a3]
       exact ⟨(k+1,R0,tr++[m.pc]),by dsimp only;omega,by dsimp only;omega,by simp [htr],hsk.ok,hsk.pc,⟨_,by simp only [go_sem,j0,j1,j2,j10,h11,hmt,hb,a1,a2,a3];rfl,by simp only [go_sem,j0,j1,j2,j10,h11,hmt,hb,a1,a2,a3]⟩,⟨1856,1857,1858,_,_,_,by simp only [go_sem,r1,r2,r3,j0,j1,j2,j10,h11,hmt,hb,a1,a2,a3];try rfl,by simp only [go_sem,j0,j1,j2,j10,h11,hmt,hb,a1,a2,a3],by simp only [go_sem,j0,j1,j2,j10,h11,hmt,hb,a1,a2,a3],by simp only [go_sem,j0,j1,j2,j10,h11,hmt,hb,a1,a2,a3],.inr ⟨rfl,rfl,rfl⟩⟩,hrun⟩
   · simp only [go_sem,e1,hb1,ap,tk,htr,l1,l2,l3,tk_I,tk_B,j0,j1,j2,j10,h11,hmt,hb,a1,a2,a3]
     refine coW_of hst rfl noRsL_pM ?_
     cases h0:(R1 == 0) with
     | false =>
      have h1:(R1 != 0)=true:=by rw [bne,h0];rfl
      rw [h0] at hrun
      simp only [go_sem,h1,List.length_append,List.length_singleton,htr,tkr,j0,j1,j2,j10,h11,hmt,hb,a1,a2,a3]
      rw [hrun]
      rfl
     | true =>
      have h1:(R1 != 0)=false:=by rw [bne,h0];rfl
      rw [h0] at hrun
      cases R2 with
      | true =>
       have c6:((6:Nat):Int)=6:=rfl
       have hg:R0.regs[0]? = some (R0.regs.getD 0 0):=getD_some (by have:=rl.regs;omega)
       simp only [go_sem,h1,List.length_append,List.length_singleton,htr,tkr,r1,r2,r3,hg,c6,j0,j1,j2,j10,h11,hmt,hb,a1,a2,a3]
       rw [hrun]
       rfl
      | false =>
       simp only [go_sem,h1,j0,j1,j2,j10,h11,hmt,hb,a1,a2,a3]
       exact ⟨(k+1,R0,tr++[m.pc]),by dsimp only;omega,by dsimp only;omega,by simp [htr],hsk.ok,hsk.pc,⟨_,by simp only [go_sem,j0,j1,j2,j10,h11,hmt,hb,a1,a2,a3];rfl,by simp only [go_sem,j0,j1,j2,j10,h11,hmt,hb,a1,a2,a3]⟩,⟨1856,1857,1858,_,_,_,by simp only [go_sem,r1,r2,r3,j0,j1,j2,j10,h11,hmt,hb,a1,a2,a3];try rfl,by simp only [go_sem,j0,j1,j2,j10,h11,hmt,hb,a1,a2,a3],by simp only [go_sem,j0,j1,j2,j10,h11,hmt,hb,a1,a2,a3],by simp only [go_sem,j0,j1,j2,j10,h11,hmt,hb,a1,a2,a3],.inr ⟨rfl,rfl,rfl⟩⟩,hrun⟩
 · obtain rfl:k=fuel:=by omega
   have e1:((k:Int) == (k:Int))=true:=beq_self_eq_true _
   have tk:(tr.map Ii).take k=tr.map Ii:=List.take_of_length_le (by simp [htr])
   rw [Nat.sub_self] at hrun
   rcases hn with ⟨rfl,rfl,rfl⟩|⟨rfl,rfl,rfl⟩
   · simp only [go_sem,e1,tk,htr,j0,j1,j2,j10,h11,hmt,hb,a1,a2,a3]
     rw [hrun]
     rfl
   · simp only [go_sem,e1,tk,htr,j0,j1,j2,j10,h11,hmt,hb,a1,a2,a3]
     rw [hrun]
     rfl
theorem stepAt_fault {p:List StepD} {ctx:List Int} {m:MachD}:(stepAt p ctx m).2.1=0∨(stepAt p ctx m).2.1 > 0:=by
 unfold stepAt
 split
 · exact step_fault
 · exact .inl rfl
theorem spec_l3Run.fc (p:List StepD) (ctx:List Int) (fuel:Nat) (hf:fuel≤100) (hp:ProgOk p) (hc:CtxOk ctx) :
 FCt prog F_spec_l3Run [.ro,.ro,.ro] [steps p,ints ctx,Ii fuel] (runD (runP p ctx fuel)) []:=by
 refine fct_run spec_l3Run.ok rfl ?_
 simp only [go_sem]
 refine fcW_bd spec_NewMachine.fc noRs_Machine ?_
 have nl:=newM_ok.len
 simp only [go_sem,nl.regs,nl.cells,nl.isset]
 refine R_loop (α:=Nat×MachD×List Int) (fun a s' M'=>a.1≤fuel∧s' 2=aI ((fuel - a.1:Nat):Int)∧a.2.2.length=a.1∧MachOk a.2.1∧a.2.1.pc < p.length∧(∃ v,s' 11=.sl 960 v 0 a.1 1∧M'.m 960=some (.arr v true 1 (a.2.2.map Ii))) ∧
  (∃ n1 n2 n3 v1 v2 v3,M'.m 384=some (.box 320 (.agg [aI a.2.1.pc,.sl n1 v1 0 6 1,.sl n2 v2 0 16 1,.sl n3 v3 0 16 1]))∧M'.m n1=some (.arr v1 true 1 (a.2.1.regs.map Ii))∧M'.m n2=some (.arr v2 true 1 (a.2.1.cells.map Ii))∧M'.m n3=some (.arr v3 true 1 (a.2.1.isset.map Bb)) ∧
   ((n1=320∧n2=321∧n3=322)∨(n1=1280∧n2=1281∧n3=1282))) ∧
  runP p ctx fuel=runF p ctx (fuel - a.1) a.2.1 a.2.2) (fun a=>fuel - a.1) (0,newM,[])
  ⟨by dsimp only;omega,by simp only [go_sem];rfl,rfl,newM_ok,by show (0:Int) < _;have:=hp.len.1;omega,⟨_,by simp only [go_sem];rfl,by simp only [go_sem];try rfl⟩,⟨320,321,322,_,_,_,by simp only [go_sem,nl.regs,nl.cells,nl.isset];try rfl,by simp only [go_sem],by simp only [go_sem],by simp only [go_sem],.inl ⟨rfl,rfl,rfl⟩⟩,rfl⟩ ?_
 rintro ⟨k,m,tr⟩ s' M' ⟨hk,hq2,htr,hm,hpc,⟨v,h11,hmt⟩,⟨n1,n2,n3,v1,v2,v3,hb,a1,a2,a3,hn⟩,hrun⟩ ho
 dsimp only at hk hq2 htr hm hpc h11 hmt hb a1 a2 a3 hrun
 unfold spec_l3Run.b0
 have j0:s' 0=.dat none (steps p):=by rw [ho 0 rfl];simp only [go_sem]
 have j1:s' 1=.dat none (ints ctx):=by rw [ho 1 rfl];simp only [go_sem]
 have j10:s' 10=.ptr 384 320 0 none:=by rw [ho 10 rfl];simp only [go_sem]
 clear ho
 have ml:=hm.len
 have l1:=ml.regs
 have l2:=ml.cells
 have l3:=ml.isset
 have hst:=stepAt_fs hp hc hm hpc
 have hsk:=step_keeps hp hc hm hpc
 by_cases hlt:k < fuel
 · have e1:((fuel - k:Nat):Int) > 0:=by omega
   have e2:IntKind.i64.wrap (((fuel - k:Nat):Int) - 1)=((fuel - (k+1):Nat):Int):=by rw [wrap_in (by omega) (by omega)];omega
   have hb1:(k+1) * 8≤70368744177664:=by omega
   have ap:tr.map Ii++[Ii m.pc]=(tr++[m.pc]).map Ii:=map_snoc
   have tk:(tr.map Ii).take k=tr.map Ii:=List.take_of_length_le (by simp [htr])
   have hf2:fuel - k=(fuel - (k+1))+1:=by omega
   rw [hf2] at hrun
   unfold runF at hrun
   have hfz:=stepAt_fault (p:=p) (ctx:=ctx) (m:=m)
   generalize stepAt p ctx m=R at hst hsk hrun hfz
   obtain ⟨R0,R1,R2⟩:=R
   dsimp only at hst hrun hfz
   have rl:=hsk.ok.len
   have r1:=rl.regs
   have r2:=rl.cells
   have r3:=rl.isset
   dsimp only at r1 r2 r3
   have tkr:((tr++[m.pc]).map Ii).take (k+1)=(tr++[m.pc]).map Ii:=List.take_of_length_le (by simp [htr])
   rcases hn with ⟨rfl,rfl,rfl⟩|⟨rfl,rfl,rfl⟩
   · simp only [go_sem,e1,e2,hb1,ap,tk,htr,l1,l2,l3,tk_I,tk_B,j0,j1,j10,hq2,h11,hmt,hb,a1,a2,a3]
     refine coW_of hst (noRs_t3 noRs_Machine rfl rfl) rfl ?_
     cases h0:(R1 == 0) with
     | false =>
      have h1:R1 > 0:=by rcases hfz with q|q;rw [q] at h0;cases h0;exact q
      rw [h0] at hrun
      simp only [go_sem,h1,List.length_append,List.length_singleton,htr,tkr,j0,j1,j10,hq2,h11,hmt,hb,a1,a2,a3]
      rw [hrun]
      rfl
     | true =>
      have h1 : ¬ R1 > 0 := by have : R1 = 0 := by simpa using h0
                               omega
      rw [h0] at hrun
      cases R2 with
      | true =>
       have c6:((6:Nat):Int)=6:=rfl
       have hg:R0.regs[0]? = some (R0.regs.getD 0 0):=getD_some (by have:=rl.regs;omega)
       simp only [go_sem,h1,List.length_append,List.length_singleton,htr,tkr,r1,r2,r3,hg,c6,j0,j1,j10,hq2,h11,hmt,hb,a1,a2,a3]
       rw [hrun]
       rfl
      | false =>
       simp only [go_sem,h1,j0,j1,j10,hq2,h11,hmt,hb,a1,a2,a3]
       exact ⟨(k+1,R0,tr++[m.pc]),by dsimp only;omega,by dsimp only;omega,by simp only [go_sem,e2,j0,j1,j10,hq2,h11,hmt,hb,a1,a2,a3],by simp [htr],hsk.ok,hsk.pc,⟨_,by simp only [go_sem,j0,j1,j10,hq2,h11,hmt,hb,a1,a2,a3];rfl,by simp only [go_sem,j0,j1,j10,hq2,h11,hmt,hb,a1,a2,a3]⟩,⟨1280,1281,1282,_,_,_,by simp only [go_sem,r1,r2,r3,j0,j1,j10,hq2,h11,hmt,hb,a1,a2,a3];try rfl,by simp only [go_sem,j0,j1,j10,hq2,h11,hmt,hb,a1,a2,a3],by simp only [go_sem,j0,j1,j10,hq2,h11,hmt,hb,a1,a2,a3],by simp only [go_sem,j0,j1,j10,hq2,h11,hmt,hb,a1,a2,a3],.inr ⟨rfl,rfl,rfl⟩⟩,hrun⟩
   · simp only [go_sem,e1,e2,hb1,ap,tk,htr,l1,l2,l3,tk_I,tk_B,j0,j1,j10,hq2,h11,hmt,hb,a1,a2,a3]
     refine coW_of hst (noRs_t3 noRs_Machine rfl rfl) rfl ?_
     cases h0:(R1 == 0) with
     | false =>
      have h1:R1 > 0:=by rcases hfz with q|q;rw [q] at h0;cases h0;exact q
      rw [h0] at hrun
      simp only [go_sem,h1,List.length_append,List.length_singleton,htr,tkr,j0,j1,j10,hq2,h11,hmt,hb,a1,a2,a3]
      rw [hrun]
      rfl
     | true =>
      have h1 : ¬ R1 > 0 := by have : R1 = 0 := by simpa using h0
                               omega
      rw [h0] at hrun
      cases R2 with
      | true =>
       have c6:((6:Nat):Int)=6:=rfl
       have hg:R0.regs[0]? = some (R0.regs.getD 0 0):=getD_some (by have:=rl.regs;omega)
       simp only [go_sem,h1,List.length_append,List.length_singleton,htr,tkr,r1,r2,r3,hg,c6,j0,j1,j10,hq2,h11,hmt,hb,a1,a2,a3]
       rw [hrun]
       rfl
      | false =>
       simp only [go_sem,h1,j0,j1,j10,hq2,h11,hmt,hb,a1,a2,a3]
       exact ⟨(k+1,R0,tr++[m.pc]),by dsimp only;omega,by dsimp only;omega,by simp only [go_sem,e2,j0,j1,j10,hq2,h11,hmt,hb,a1,a2,a3],by simp [htr],hsk.ok,hsk.pc,⟨_,by simp only [go_sem,j0,j1,j10,hq2,h11,hmt,hb,a1,a2,a3];rfl,by simp only [go_sem,j0,j1,j10,hq2,h11,hmt,hb,a1,a2,a3]⟩,⟨1280,1281,1282,_,_,_,by simp only [go_sem,r1,r2,r3,j0,j1,j10,hq2,h11,hmt,hb,a1,a2,a3];try rfl,by simp only [go_sem,j0,j1,j10,hq2,h11,hmt,hb,a1,a2,a3],by simp only [go_sem,j0,j1,j10,hq2,h11,hmt,hb,a1,a2,a3],by simp only [go_sem,j0,j1,j10,hq2,h11,hmt,hb,a1,a2,a3],.inr ⟨rfl,rfl,rfl⟩⟩,hrun⟩
 · obtain rfl:k=fuel:=by omega
   have e1:¬ ((k - k:Nat):Int) > 0:=by omega
   have tk:(tr.map Ii).take k=tr.map Ii:=List.take_of_length_le (by simp [htr])
   rw [Nat.sub_self] at hrun
   rcases hn with ⟨rfl,rfl,rfl⟩|⟨rfl,rfl,rfl⟩
   · simp only [go_sem,e1,tk,htr,j0,j1,j10,hq2,h11,hmt,hb,a1,a2,a3]
     rw [hrun]
     rfl
   · simp only [go_sem,e1,tk,htr,j0,j1,j10,hq2,h11,hmt,hb,a1,a2,a3]
     rw [hrun]
     rfl
theorem noRs_run {r:Int×Int×Int×List Int}:noRs (runD r)=true:=noRs_t4 rfl rfl rfl noRs_ints
structure WayD where
 steps:List Int
 turns:List Bool
 deriving DecidableEq
abbrev WayD.d (x:WayD):D:=.agg [ints x.steps,bools x.turns]
def traceV (p:List StepD) (ctx:List Int):List Int×Int×Bool:=if goodP p&&ctxB ctx then ((runP p ctx 100).2.2.2,(runP p ctx 100).2.1,true) else ([],0,false)
def traceD (r:List Int×Int×Bool):D:=.tup [ints r.1,Ii r.2.1,Bb r.2.2]
theorem impl_TraceOf.fc (p:List StepD) (ctx:List Int) (hp:p.length≤4194304) (hc:ctx.length≤4194304):FCt prog F_impl_TraceOf [.ro,.ro] [steps p,ints ctx] (traceD (traceV p ctx)) []:=by
 refine fct_run impl_TraceOf.ok rfl ?_
 have c1:=impl_GoodProgram.fc p hp
 have c2:=impl_isContext.fc ctx (by omega)
 unfold traceV traceD
 cases h1:goodP p with
 | false=>repeat' (first|with_reducible rfl|refine fcW_bool (c1) ?_|refine fcW_bool (c2) ?_|with_reducible refine cdW_dec (fun _=>?_) (fun _=>?_)|refine cdW_not (fun _=>?_) (fun _=>?_)|refine cdW_any (fun _=>?_) (fun _=>?_)|with_reducible refine gdW_decT (fun _=>?_) (fun _=>?_)|with_reducible refine gdW_decF (fun _=>?_) (fun _=>?_)|refine gdW_not (fun _=>?_) (fun _=>?_)|refine gdW_any (fun _=>?_) (fun _=>?_)|simp only [go_sem,bne,iQ,iB,iX,Int.reduceLE,iN,iA,iS,iM, *]|rfl)
 | true =>
  cases h2:ctxB ctx with
  | false=>repeat' (first|with_reducible rfl|refine fcW_bool (c1) ?_|refine fcW_bool (c2) ?_|with_reducible refine cdW_dec (fun _=>?_) (fun _=>?_)|refine cdW_not (fun _=>?_) (fun _=>?_)|refine cdW_any (fun _=>?_) (fun _=>?_)|with_reducible refine gdW_decT (fun _=>?_) (fun _=>?_)|with_reducible refine gdW_decF (fun _=>?_) (fun _=>?_)|refine gdW_not (fun _=>?_) (fun _=>?_)|refine gdW_any (fun _=>?_) (fun _=>?_)|simp only [go_sem,bne,iQ,iB,iX,Int.reduceLE,iN,iA,iS,iM, *]|rfl)
  | true =>
   have c3:=impl_run.fc p ctx 100 (by omega) (prog_ok h1) (ctx_ok h2)
   rw [show ((100:Nat):Int)=100 from rfl] at c3
   generalize runP p ctx 100=R at c3 ⊢
   unfold runD at c3
   repeat' (first|with_reducible rfl|refine fcW_bool (c1) ?_|refine fcW_bool (c2) ?_|refine fcW_bd (c3) (noRs_run) ?_|with_reducible refine cdW_dec (fun _=>?_) (fun _=>?_)|refine cdW_not (fun _=>?_) (fun _=>?_)|refine cdW_any (fun _=>?_) (fun _=>?_)|with_reducible refine gdW_decT (fun _=>?_) (fun _=>?_)|with_reducible refine gdW_decF (fun _=>?_) (fun _=>?_)|refine gdW_not (fun _=>?_) (fun _=>?_)|refine gdW_any (fun _=>?_) (fun _=>?_)|simp only [go_sem,bne,iQ,iB,iX,Int.reduceLE,iN,iA,iS,iM,take_map_len, *]|rfl)
abbrev Ub (n:Int):D:=.int .u8 n
theorem getD_sm {α:Type} {l:List α} {i:Nat} {d:α} (h:i < l.length):l[i]? = some (l.getD i d):=by
 rw [List.getD_eq_getElem?_getD,List.getElem?_eq_getElem h];rfl
structure CurD where
 code:List Int
 pos:Int
 seed:Int
abbrev CurD.d (c:CurD):D:=.agg [.rs 1 (c.code.map Ub),Ii c.pos,.int .u64 c.seed]
structure CurOk (c:CurD) (n:Nat):Prop where
 p0:0≤c.pos
 p1:c.pos+n≤4611686018427387904
 len:c.code.length≤9223372036854775807
 by8:∀ b∈c.code,0≤b∧b≤255
def seedV (c:CurD) (b:Int):Int:=IntKind.u64.wrap (IntKind.u64.wrap (IntKind.u64.wrap (c.seed * 6364136223846793005)+IntKind.u64.wrap b)+1442695040888963407)
def byteV (c:CurD):Int:=if c.pos < c.code.length then c.code.getD c.pos.toNat 0 else 0
def foldV (s:Int):Int:=IntKind.i64.wrap (IntKind.u64.wrap (BitVec.ofInt IntKind.u64.bits (Int.fdiv s (2 ^ min (40:Int).toNat IntKind.u64.bits)) &&& BitVec.ofInt IntKind.u64.bits 255).toNat)
def nextV (c:CurD):Int:=if c.pos+1≤c.code.length then byteV c else foldV (seedV c (byteV c))
def nextC (c:CurD):CurD:=⟨c.code,c.pos+1,seedV c (byteV c)⟩
theorem nextC_ok {c:CurD} {n:Nat} (h:CurOk c (n+1)):CurOk (nextC c) n:=by
 obtain ⟨h1,h2,h3,h4⟩:=h
 refine ⟨?_,?_,h3,h4⟩
 · show 0≤c.pos+1;omega
 · show c.pos+1+n≤_;omega
theorem byteV_in {c:CurD} {n:Nat} (h:CurOk c n):0≤byteV c∧byteV c≤255:=by
 unfold byteV
 split
 · rename_i hl
   have h0:=h.p0
   have hl':c.pos.toNat < c.code.length:=by omega
   rw [List.getD_eq_getElem?_getD,List.getElem?_eq_getElem hl']
   exact h.by8 _ (List.getElem_mem hl')
 · omega
theorem foldV_in (s:Int):0≤foldV s∧foldV s≤255:=by
 unfold foldV
 have hn:(BitVec.ofInt IntKind.u64.bits (Int.fdiv s (2 ^ min (40:Int).toNat IntKind.u64.bits)) &&& BitVec.ofInt IntKind.u64.bits 255).toNat≤255:=by
  rw [BitVec.toNat_and]
  have:(BitVec.ofInt IntKind.u64.bits 255).toNat=255:=by decide
  rw [this]
  exact Nat.and_le_right
 generalize (BitVec.ofInt IntKind.u64.bits (Int.fdiv s (2 ^ min (40:Int).toNat IntKind.u64.bits)) &&& BitVec.ofInt IntKind.u64.bits 255).toNat=m at hn
 have e:IntKind.u64.wrap (m:Int)=m:=by simp [IntKind.wrap,IntKind.signed,IntKind.bits];omega
 rw [e,wrap_in (by omega) (by omega)]
 omega
theorem nextV_in {c:CurD} {n:Nat} (h:CurOk c n):0≤nextV c∧nextV c≤255:=by
 unfold nextV
 split
 · exact byteV_in h
 · exact foldV_in _
theorem CurOk.mono {c:CurD} {n m:Nat} (h:CurOk c n) (hm:m≤n):CurOk c m:=⟨h.p0,by have:=h.p1;omega,h.len,h.by8⟩
theorem spec_pl1Cur_next.fc (c:CurD) {n:Nat} (h:CurOk c (n+1)):FCt prog F_spec_pl1Cur_next [.io] [.ptr c.d] (Ii (nextV c)) [.ptr (nextC c).d]:=by
 refine fct_run spec_pl1Cur_next.ok rfl ?_
 have hb:=byteV_in h
 obtain ⟨h1,h2,h3,h4⟩:=h
 obtain ⟨code,pos,seed⟩:=c
 dsimp only at h1 h2 h3
 have w1:IntKind.i64.wrap (pos+1)=pos+1:=wrap_in (by omega) (by omega)
 unfold nextV nextC foldV
 by_cases hp:pos < code.length
 · have hl:pos.toNat < code.length:=by omega
   have g:code[pos.toNat]? = some (code.getD pos.toNat 0):=getD_sm hl
   have e:byteV ⟨code,pos,seed⟩=code.getD pos.toNat 0:=by unfold byteV;rw [if_pos hp]
   have hq:pos+1≤code.length:=by omega
   rw [e] at hb ⊢
   have w2:IntKind.i64.wrap (code.getD pos.toNat 0)=code.getD pos.toNat 0:=wrap_in (by omega) (by omega)
   rw [if_pos hq]
   unfold seedV
   simp only [go_sem,hp,h1,g,w1,w2,hq];try rfl
 · have e:byteV ⟨code,pos,seed⟩=0:=by unfold byteV;rw [if_neg hp]
   have hq:¬ pos+1≤code.length:=by omega
   rw [e,if_neg hq]
   unfold seedV
   simp only [go_sem,hp,w1,hq];try rfl
def pickV (c:CurD) (n:Int):Int:=if n≤1 then 0 else if n > 200 then (nextV c * 256+nextV (nextC c)) % n else nextV c % n
def pickC (c:CurD) (n:Int):CurD:=if n≤1 then c else if n > 200 then nextC (nextC c) else nextC c
theorem pickV_in {c:CurD} {n:Int} (h:1≤n):0≤pickV c n∧pickV c n < n:=by
 unfold pickV
 split
 · omega
 · split
   · exact ⟨Int.emod_nonneg _ (by omega),Int.emod_lt_of_pos _ (by omega)⟩
   · exact ⟨Int.emod_nonneg _ (by omega),Int.emod_lt_of_pos _ (by omega)⟩
theorem pickC_ok {c:CurD} {n:Int} {m:Nat} (h:CurOk c (m+2)):CurOk (pickC c n) m:=by
 unfold pickC
 split
 · exact h.mono (by omega)
 · split
   · exact nextC_ok (nextC_ok h)
   · exact (nextC_ok h).mono (by omega)
theorem spec_pl1Cur_pick.fc (c:CurD) (n:Int) {m:Nat} (h:CurOk c (m+2)):FCt prog F_spec_pl1Cur_pick [.io,.ro] [.ptr c.d,Ii n] (Ii (pickV c n)) [.ptr (pickC c n).d]:=by
 refine fct_run spec_pl1Cur_pick.ok rfl ?_
 have c1:=spec_pl1Cur_next.fc c h
 have h2:=nextC_ok h
 have c2:=spec_pl1Cur_next.fc (nextC c) h2
 have b1:=nextV_in h
 have b2:=nextV_in h2
 unfold pickV pickC
 generalize nextV c=x at c1 b1 ⊢
 generalize nextV (nextC c)=y at c2 b2 ⊢
 generalize nextC (nextC c)=z at c2 ⊢
 generalize nextC c=u at c1 c2 ⊢
 by_cases h1:n≤1
 · simp only [go_sem,h1]
 · by_cases h3:n > 200
   · have w1:IntKind.i64.wrap (x * 256)=x * 256:=wrap_in (by omega) (by omega)
     have w2:IntKind.i64.wrap (x * 256+y)=x * 256+y:=wrap_in (by omega) (by omega)
     have w3:Int.tmod (x * 256+y) n=(x * 256+y) % n:=Int.tmod_eq_emod_of_nonneg (by omega)
     have n0:¬ n=0:=by omega
     simp only [go_sem,h1,h3]
     refine coW_c c1 ?_
     simp only [go_sem,h1,h3,w1]
     refine coW_c c2 ?_
     simp only [go_sem,w1,w2,w3,n0,h1,h3]
   · have w3:Int.tmod x n=x % n:=Int.tmod_eq_emod_of_nonneg (by omega)
     have n0:¬ n=0:=by omega
     simp only [go_sem,h1,h3]
     refine coW_c c1 ?_
     simp only [go_sem,h1,h3,w3,n0]
theorem spec_pl1Cur_one.fc (c:CurD) (n:Int) {m:Nat} (h:CurOk c (m+2)):FCt prog F_spec_pl1Cur_one [.io,.ro] [.ptr c.d,Ii n] (Bb (pickV c n == 0)) [.ptr (pickC c n).d]:=by
 refine fct_run spec_pl1Cur_one.ok rfl ?_
 have c1:=spec_pl1Cur_pick.fc c n h
 generalize pickV c n=x at c1 ⊢
 generalize pickC c n=u at c1 ⊢
 simp only [go_sem]
 refine coW_c c1 ?_
 simp only [go_sem]
def amongV (c:CurD) (l:List Int):Int:=l.getD (pickV c l.length).toNat 0
theorem spec_pl1Cur_among.fc (c:CurD) (l:List Int) (hl:1≤l.length) (hl2:l.length≤1000) {m:Nat} (h:CurOk c (m+2)):FCt prog F_spec_pl1Cur_among [.io,.co] [.ptr c.d,ints l] (Ii (amongV c l)) [.ptr (pickC c l.length).d]:=by
 refine fct_run spec_pl1Cur_among.ok rfl ?_
 have c1:=spec_pl1Cur_pick.fc c l.length h
 have hp:=pickV_in (c:=c) (n:=l.length) (by omega)
 unfold amongV
 generalize pickV c l.length=x at c1 hp ⊢
 generalize pickC c l.length=u at c1 ⊢
 have g:l[x.toNat]? = some (l.getD x.toNat 0):=getD_sm (by omega)
 simp only [go_sem]
 refine coW_c c1 ?_
 simp only [go_sem,hp.1,hp.2,g]
theorem amongV_mem (c:CurD) (l:List Int) (hl:1≤l.length):amongV c l∈l:=by
 have hp:=pickV_in (c:=c) (n:=l.length) (by omega)
 unfold amongV
 rw [List.getD_eq_getElem?_getD,List.getElem?_eq_getElem (by omega)]
 exact List.getElem_mem (by omega)
def curS (code:List Int):CurD:=⟨code,0,0⟩
theorem curS_ok {code:List Int} (hl:code.length≤9223372036854775807) (h8:∀ b∈code,0≤b∧b≤255) {n:Nat} (hn:n≤1000000):CurOk (curS code) n :=
 ⟨Int.le_refl 0,by show (0:Int)+n≤_;omega,hl,h8⟩
set_option maxHeartbeats 4000000
set_option maxHeartbeats 16000000
theorem among_kind (c:CurD):∃ k,amongV c [1,1,2,2,2,3,3,4,5,5,6,7,7,8,9,10,10]=k∧1≤k∧k≤10:=by
 have h:=amongV_mem c [1,1,2,2,2,3,3,4,5,5,6,7,7,8,9,10,10] (by simp)
 refine ⟨_,rfl,?_⟩
 simp only [List.mem_cons,List.not_mem_nil,or_false] at h
 omega
theorem step_in {c:CurD} {room:Int} {a b d e f g:Int} {v:CurD} (fc:FCt prog F_spec_pl1Cur_step [.io,.ro] [.ptr c.d,Ii room] (StepD.d ⟨a,b,d,e,f,g⟩) [.ptr (CurD.d v)]) (ok:∀ m,CurOk c (m+14)→CurOk v m) :
 ∃ s c',(∀ m,CurOk c (m+14)→CurOk c' m)∧FCt prog F_spec_pl1Cur_step [.io,.ro] [.ptr c.d,Ii room] (StepD.d s) [.ptr (CurD.d c')]:=⟨_,_,ok,fc⟩
theorem step_ex (c:CurD) (room:Int) (hr:0≤room∧room≤1000) (h:CurOk c 14):∃ s c',(∀ m,CurOk c (m+14)→CurOk c' m)∧FCt prog F_spec_pl1Cur_step [.io,.ro] [.ptr c.d,Ii room] (StepD.d s) [.ptr (CurD.d c')]:=by
 obtain ⟨k,hk,k1,k2⟩:=among_kind c
 have ca:=spec_pl1Cur_among.fc c [1,1,2,2,2,3,3,4,5,5,6,7,7,8,9,10,10] (by simp) (by simp) (m:=12) h
 rw [hk] at ca
 have h2:∀ m,CurOk c (m+14)→CurOk (pickC c 17) (m+12):=fun m hm=>pickC_ok hm
 have h1:=h2 0 h
 have l17:(([1,1,2,2,2,3,3,4,5,5,6,7,7,8,9,10,10]:List Int).length:Int)=17:=rfl
 rw [l17] at ca
 generalize pickC c 17=u at ca h1 h2
 have hc:k=1∨k=2∨k=3∨k=4∨k=5∨k=6∨k=7∨k=8∨k=9∨k=10:=by omega
 by_cases h3:room < 2<;>rcases hc with rfl|rfl|rfl|rfl|rfl|rfl|rfl|rfl|rfl|rfl <;>
 · apply step_in
   · refine fct_run spec_pl1Cur_step.ok rfl ?_
     simp only [go_sem]
     refine coW_c ca ?_
     simp only [go_sem,h3,iB,Int.reduceLE,iX,bne,ge_iff_le]
     repeat' (first|with_reducible rfl|refine coW_c (spec_pl1Cur_pick.fc _ _ (m:=0) (by first|exact h1.mono (by omega)|exact pickC_ok (h1.mono (by omega))|exact pickC_ok (pickC_ok (h1.mono (by omega)))|exact pickC_ok (pickC_ok (pickC_ok (h1.mono (by omega))))|exact pickC_ok (pickC_ok (pickC_ok (pickC_ok (h1.mono (by omega)))))|exact pickC_ok (pickC_ok (pickC_ok (pickC_ok (pickC_ok (h1.mono (by omega))))))|exact pickC_ok (pickC_ok (pickC_ok (pickC_ok (pickC_ok (pickC_ok (h1.mono (by omega))))))))) ?_|refine coW_c (spec_pl1Cur_among.fc _ [0,1,3,7,255,_] (by simp) (by simp) (m:=0) (by first|exact h1.mono (by omega)|exact pickC_ok (h1.mono (by omega))|exact pickC_ok (pickC_ok (h1.mono (by omega)))|exact pickC_ok (pickC_ok (pickC_ok (h1.mono (by omega))))|exact pickC_ok (pickC_ok (pickC_ok (pickC_ok (h1.mono (by omega)))))|exact pickC_ok (pickC_ok (pickC_ok (pickC_ok (pickC_ok (h1.mono (by omega))))))|exact pickC_ok (pickC_ok (pickC_ok (pickC_ok (pickC_ok (pickC_ok (h1.mono (by omega))))))))) ?_|refine coW_c (spec_pl1Cur_among.fc _ [256,65535,_] (by simp) (by simp) (m:=0) (by first|exact h1.mono (by omega)|exact pickC_ok (h1.mono (by omega))|exact pickC_ok (pickC_ok (h1.mono (by omega)))|exact pickC_ok (pickC_ok (pickC_ok (h1.mono (by omega))))|exact pickC_ok (pickC_ok (pickC_ok (pickC_ok (h1.mono (by omega)))))|exact pickC_ok (pickC_ok (pickC_ok (pickC_ok (pickC_ok (h1.mono (by omega))))))|exact pickC_ok (pickC_ok (pickC_ok (pickC_ok (pickC_ok (pickC_ok (h1.mono (by omega))))))))) ?_|refine fcW_int (spec_l1Least.fc ..) ?_|with_reducible refine cdW_dec (fun _=>?_) (fun _=>?_)|refine cdW_not (fun _=>?_) (fun _=>?_)|refine cdW_any (fun _=>?_) (fun _=>?_)|with_reducible refine gdW_decT (fun _=>?_) (fun _=>?_)|with_reducible refine gdW_decF (fun _=>?_) (fun _=>?_)|refine gdW_not (fun _=>?_) (fun _=>?_)|refine gdW_any (fun _=>?_) (fun _=>?_)|simp only [go_sem,bne,iQ,iB,iX,Int.reduceLE,iN,iA,iS,iM,h3,ge_iff_le, *]|rfl)
     all_goals exact ⟨rfl,rfl⟩
   · intro m hm
     have h1:=h2 m hm
     exact (by first|exact h1.mono (by omega)|exact pickC_ok (h1.mono (by omega))|exact pickC_ok (pickC_ok (h1.mono (by omega)))|exact pickC_ok (pickC_ok (pickC_ok (h1.mono (by omega))))|exact pickC_ok (pickC_ok (pickC_ok (pickC_ok (h1.mono (by omega)))))|exact pickC_ok (pickC_ok (pickC_ok (pickC_ok (pickC_ok (h1.mono (by omega))))))|exact pickC_ok (pickC_ok (pickC_ok (pickC_ok (pickC_ok (pickC_ok (h1.mono (by omega))))))))
open Classical in
noncomputable def stepX (c:CurD) (room:Int):StepD×CurD :=
 if h:(0≤room∧room≤1000)∧CurOk c 14 then ((step_ex c room h.1 h.2).choose,(step_ex c room h.1 h.2).choose_spec.choose) else (⟨0,0,0,0,0,0⟩,c)
theorem stepX_ok {c:CurD} {room:Int} (hr:0≤room∧room≤1000) {m:Nat} (h:CurOk c (m+14)):CurOk (stepX c room).2 m:=by
 have h0:(0≤room∧room≤1000)∧CurOk c 14:=⟨hr,h.mono (by omega)⟩
 unfold stepX
 rw [dif_pos h0]
 exact (step_ex c room h0.1 h0.2).choose_spec.choose_spec.1 m h
theorem stepX_fc {c:CurD} {room:Int} (hr:0≤room∧room≤1000) (h:CurOk c 14):FCt prog F_spec_pl1Cur_step [.io,.ro] [.ptr c.d,Ii room] (StepD.d (stepX c room).1) [.ptr (CurD.d (stepX c room).2)]:=by
 have h0:(0≤room∧room≤1000)∧CurOk c 14:=⟨hr,h⟩
 unfold stepX
 rw [dif_pos h0]
 exact (step_ex c room h0.1 h0.2).choose_spec.choose_spec.2
noncomputable def stepsX (n:Nat) (c:CurD):Nat→List StepD×CurD
 | 0=>([],c)
 | k+1=>((stepsX n c k).1++[(stepX (stepsX n c k).2 ((n:Int) - k)).1],(stepX (stepsX n c k).2 ((n:Int) - k)).2)
theorem stepsX_succ (n:Nat) (c:CurD) (k:Nat):stepsX n c (k+1)=((stepsX n c k).1++[(stepX (stepsX n c k).2 ((n:Int) - k)).1],(stepX (stepsX n c k).2 ((n:Int) - k)).2):=rfl
theorem stepsX_len (n:Nat) (c:CurD):∀ k,(stepsX n c k).1.length=k
 | 0=>rfl
 | k+1=>by rw [stepsX_succ];simp [stepsX_len n c k]
theorem stepsX_ok {n:Nat} (hn:n≤1000) {c:CurD} {m:Nat} (h:CurOk c (m+14 * n)):∀ k,k≤n→CurOk (stepsX n c k).2 (m+14 * (n - k))
 | 0,_=>h
 | k+1,hk=>by
  have ih:=stepsX_ok hn h k (by omega)
  rw [stepsX_succ]
  exact stepX_ok (m:=m+14 * (n - (k+1))) ⟨by omega,by omega⟩ (ih.mono (by omega))
abbrev curA (c:CurD):AV:=.agg [.dat none (.sl 1 (c.code.map Ub)),.dat none (Ii c.pos),.dat none (.int .u64 c.seed)]
theorem prog_in {c:CurD} {p:List StepD} {v:CurD} (fc:FCt prog F_spec_pl1Cur_program [.io] [.ptr c.d] (steps p) [.ptr (CurD.d v)]) (hl:p.length≤20) (ok:∀ m,CurOk c (m+320)→CurOk v m) :
 ∃ p c',p.length≤20∧(∀ m,CurOk c (m+320)→CurOk c' m)∧FCt prog F_spec_pl1Cur_program [.io] [.ptr c.d] (steps p) [.ptr (CurD.d c')]:=⟨_,_,hl,ok,fc⟩
theorem prog_ex (c:CurD) (h:CurOk c 320):∃ p c',p.length≤20∧(∀ m,CurOk c (m+320)→CurOk c' m)∧FCt prog F_spec_pl1Cur_program [.io] [.ptr c.d] (steps p) [.ptr (CurD.d c')]:=by
 have f1:=spec_pl1Cur_pick.fc c 12 (m:=318) h
 have h1:∀ m,CurOk c (m+320)→CurOk (pickC c 12) (m+318):=fun m hm=>pickC_ok hm
 have p1:=pickV_in (c:=c) (n:=12) (by omega)
 generalize pickV c 12=n0 at f1 p1
 generalize pickC c 12=c1 at f1 h1
 have f2:=spec_pl1Cur_one.fc c1 30 (m:=316) (h1 0 h)
 have h2:∀ m,CurOk c (m+320)→CurOk (pickC c1 30) (m+316):=fun m hm=>pickC_ok (h1 m hm)
 generalize (pickV c1 30 == 0)=b1 at f2
 generalize pickC c1 30=c2 at f2 h2
 obtain ⟨n,hn,hn2⟩:∃ n:Nat,(if b1 then 19 else n0)=(n:Int)∧n≤19:=by
  cases b1
  · exact ⟨n0.toNat,by simp only [Bool.false_eq_true,if_false];omega,by omega⟩
  · exact ⟨19,rfl,Nat.le_refl _⟩
 have h3:∀ m,CurOk c (m+320)→∀ k,k≤n→CurOk (stepsX n c2 k).2 (m+30+14 * (n - k)):=fun m hm k hk=>stepsX_ok (by omega) ((h2 m hm).mono (by omega)) k hk
 have hsl:=stepsX_len n c2
 have f4:=spec_pl1Cur_one.fc (stepsX n c2 n).2 30 (m:=28) ((h3 0 h n (Nat.le_refl _)).mono (by omega))
 have h4:∀ m,CurOk c (m+320)→CurOk (pickC (stepsX n c2 n).2 30) (m+28):=fun m hm=>pickC_ok ((h3 m hm n (Nat.le_refl _)).mono (by omega))
 cases h5:(pickV (stepsX n c2 n).2 30 == 0) with
 | false =>
  rw [h5] at f4
  refine prog_in (p:=(stepsX n c2 n).1++[(⟨11,0,0,0,0,0⟩:StepD)]) (v:=pickC (stepsX n c2 n).2 30) ?_ (by simp [hsl];omega) (fun m hm=>(h4 m hm).mono (by omega))
  refine fct_run spec_pl1Cur_program.ok rfl ?_
  simp only [go_sem]
  refine coW_c f1 ?_
  simp only [go_sem]
  refine coW_c f2 ?_
  cases b1<;>simp only [Bool.false_eq_true,if_false,if_true] at hn <;>
  · simp only [go_sem]
    refine R_loop (α:=Nat) (fun k s' M'=>k≤n∧s' 5=aI k∧M'.m 0=some (.box 0 (curA (stepsX n c2 k).2))∧∃ v,s' 3=.sl 1280 v 0 k 6∧M'.m 1280=some (.arr v true 6 ((stepsX n c2 k).1.map StepD.d))) (fun k=>n - k) 0
     ⟨Nat.zero_le _,by simp only [go_sem];try rfl,by simp only [go_sem];try rfl,_,by simp only [go_sem];try rfl,by simp only [go_sem];try rfl⟩ ?_
    rintro k s' M' ⟨hk,g5,gm,v,g3,gr⟩ ho
    unfold spec_pl1Cur_program.b0
    have j4:s' 4=aI n:=by rw [ho 4 rfl,← hn];simp only [go_sem]
    have j0:s' 0=.ptr 0 0 0 none:=by rw [ho 0 rfl];simp only [go_sem]
    clear ho
    by_cases hlt:k < n
    · have hi':(k:Int) < n:=by omega
      have hw:IntKind.i64.wrap (k+1)=((k+1:Nat):Int):=wrap_k hlt (by omega)
      have hs:IntKind.i64.wrap ((n:Int) - k)=(n:Int) - k:=wrap_in (by omega) (by omega)
      have fs:=stepX_fc (c:=(stepsX n c2 k).2) (room:=(n:Int) - k) ⟨by omega,by omega⟩ ((h3 0 h k hk).mono (by omega))
      have hsu:=stepsX_succ n c2 k
      have lk:=hsl k
      have lk1:=hsl (k+1)
      have hbb:(k+1) * 48≤70368744177664:=by omega
      generalize stepX (stepsX n c2 k).2 ((n:Int) - k)=S at fs hsu
      have sn:(stepsX n c2 k).1.map StepD.d++[S.1.d]=(stepsX n c2 (k+1)).1.map StepD.d:=by rw [hsu];simp
      have s2:S.2=(stepsX n c2 (k+1)).2:=by rw [hsu]
      have tk:((stepsX n c2 k).1.map StepD.d).take k=(stepsX n c2 k).1.map StepD.d:=List.take_of_length_le (by simp [lk])
      simp only [go_sem,hi',hs,j0,g5,gm,g3,gr,j4]
      refine coW_c fs ?_
      simp only [go_sem,hw,hbb,tk,lk,j0,g5,gm,g3,gr,j4]
      exact ⟨k+1,by dsimp only;omega,by omega,by simp only [go_sem,j0,g5,gm,g3,gr,j4],by simp only [go_sem,j0,g5,gm,g3,gr,j4];rw [← s2],_,by simp only [go_sem,j0,g5,gm,g3,gr,j4];try rfl,by simp only [go_sem,j0,g5,gm,g3,gr,j4];rw [← sn]⟩
    · obtain rfl:k=n:=by omega
      have lk:=hsl k
      have hbb:(k+1) * 48≤70368744177664:=by omega
      have tk:((stepsX k c2 k).1.map StepD.d).take k=(stepsX k c2 k).1.map StepD.d:=List.take_of_length_le (by simp [lk])
      have sn:(stepsX k c2 k).1.map StepD.d++[StepD.d ⟨11,0,0,0,0,0⟩]=((stepsX k c2 k).1++[(⟨11,0,0,0,0,0⟩:StepD)]).map StepD.d:=by simp
      have l1:((stepsX k c2 k).1++[(⟨11,0,0,0,0,0⟩:StepD)]).length=k+1:=by simp [lk]
      have tk1:(((stepsX k c2 k).1++[(⟨11,0,0,0,0,0⟩:StepD)]).map StepD.d).take (k+1)=((stepsX k c2 k).1++[(⟨11,0,0,0,0,0⟩:StepD)]).map StepD.d:=List.take_of_length_le (by simp [lk])
      simp only [go_sem,Int.lt_irrefl,hbb,tk,lk,j0,g5,gm,g3,gr,j4]
      refine coW_c f4 ?_
      simp only [go_sem,sn,tk1,l1,j0,g5,gm,g3,gr,j4];try rfl
 | true =>
  rw [h5] at f4
  have a4:=h4 0 h
  generalize pickC (stepsX n c2 n).2 30=v0 at f4 h4 a4
  have e0:=spec_pl1Cur_pick.fc v0 ((n+1:Nat):Int) (m:=26) a4
  have q0:∀ m,CurOk c (m+320)→CurOk (pickC v0 ((n+1:Nat):Int)) (m+26):=fun m hm=>pickC_ok (h4 m hm)
  have b0:=pickV_in (c:=v0) (n:=((n+1:Nat):Int)) (by omega)
  generalize pickV v0 ((n+1:Nat):Int)=i0 at e0 b0
  generalize pickC v0 ((n+1:Nat):Int)=v1 at e0 q0
  have e1:=spec_pl1Cur_pick.fc v1 13 (m:=24) (q0 0 h)
  have q1:∀ m,CurOk c (m+320)→CurOk (pickC v1 13) (m+24):=fun m hm=>pickC_ok (q0 m hm)
  generalize pickV v1 13=i1 at e1
  generalize pickC v1 13=v2 at e1 q1
  have e2:=spec_pl1Cur_pick.fc v2 3 (m:=22) (q1 0 h)
  have q2:∀ m,CurOk c (m+320)→CurOk (pickC v2 3) (m+22):=fun m hm=>pickC_ok (q1 m hm)
  generalize pickV v2 3=i2 at e2
  generalize pickC v2 3=v3 at e2 q2
  have e3:=spec_pl1Cur_pick.fc v3 8 (m:=20) (q2 0 h)
  have q3:∀ m,CurOk c (m+320)→CurOk (pickC v3 8) (m+20):=fun m hm=>pickC_ok (q2 m hm)
  generalize pickV v3 8=i3 at e3
  generalize pickC v3 8=v4 at e3 q3
  have e4:=spec_pl1Cur_among.fc v4 [0,255,256,65536] (by simp) (by simp) (m:=18) (q3 0 h)
  have q4:∀ m,CurOk c (m+320)→CurOk (pickC v4 (([0,255,256,65536]:List Int).length:Int)) (m+18):=fun m hm=>pickC_ok (q3 m hm)
  generalize amongV v4 [0,255,256,65536]=i4 at e4
  generalize pickC v4 (([0,255,256,65536]:List Int).length:Int)=v5 at e4 q4
  have e5:=spec_pl1Cur_pick.fc v5 4 (m:=16) (q4 0 h)
  have q5:∀ m,CurOk c (m+320)→CurOk (pickC v5 4) (m+16):=fun m hm=>pickC_ok (q4 m hm)
  generalize pickV v5 4=i5 at e5
  generalize pickC v5 4=v6 at e5 q5
  have e00:=b0.1
  refine prog_in (p:=((stepsX n c2 n).1++[(⟨11,0,0,0,0,0⟩:StepD)]).set i0.toNat ⟨i1,i2,IntKind.i64.wrap (i3 - 1),0,i4,i5⟩) (v:=v6) ?_ (by simp [hsl];omega) (fun m hm=>(q5 m hm).mono (by omega))
  refine fct_run spec_pl1Cur_program.ok rfl ?_
  simp only [go_sem]
  refine coW_c f1 ?_
  simp only [go_sem]
  refine coW_c f2 ?_
  cases b1<;>simp only [Bool.false_eq_true,if_false,if_true] at hn <;>
  · simp only [go_sem]
    refine R_loop (α:=Nat) (fun k s' M'=>k≤n∧s' 5=aI k∧M'.m 0=some (.box 0 (curA (stepsX n c2 k).2))∧∃ v,s' 3=.sl 1280 v 0 k 6∧M'.m 1280=some (.arr v true 6 ((stepsX n c2 k).1.map StepD.d))) (fun k=>n - k) 0
     ⟨Nat.zero_le _,by simp only [go_sem];try rfl,by simp only [go_sem];try rfl,_,by simp only [go_sem];try rfl,by simp only [go_sem];try rfl⟩ ?_
    rintro k s' M' ⟨hk,g5,gm,v,g3,gr⟩ ho
    unfold spec_pl1Cur_program.b0
    have j4:s' 4=aI n:=by rw [ho 4 rfl,← hn];simp only [go_sem]
    have j0:s' 0=.ptr 0 0 0 none:=by rw [ho 0 rfl];simp only [go_sem]
    clear ho
    by_cases hlt:k < n
    · have hi':(k:Int) < n:=by omega
      have hw:IntKind.i64.wrap (k+1)=((k+1:Nat):Int):=wrap_k hlt (by omega)
      have hs:IntKind.i64.wrap ((n:Int) - k)=(n:Int) - k:=wrap_in (by omega) (by omega)
      have fs:=stepX_fc (c:=(stepsX n c2 k).2) (room:=(n:Int) - k) ⟨by omega,by omega⟩ ((h3 0 h k hk).mono (by omega))
      have hsu:=stepsX_succ n c2 k
      have lk:=hsl k
      have lk1:=hsl (k+1)
      have hbb:(k+1) * 48≤70368744177664:=by omega
      generalize stepX (stepsX n c2 k).2 ((n:Int) - k)=S at fs hsu
      have sn:(stepsX n c2 k).1.map StepD.d++[S.1.d]=(stepsX n c2 (k+1)).1.map StepD.d:=by rw [hsu];simp
      have s2:S.2=(stepsX n c2 (k+1)).2:=by rw [hsu]
      have tk:((stepsX n c2 k).1.map StepD.d).take k=(stepsX n c2 k).1.map StepD.d:=List.take_of_length_le (by simp [lk])
      simp only [go_sem,hi',hs,j0,g5,gm,g3,gr,j4]
      refine coW_c fs ?_
      simp only [go_sem,hw,hbb,tk,lk,j0,g5,gm,g3,gr,j4]
      exact ⟨k+1,by dsimp only;omega,by omega,by simp only [go_sem,j0,g5,gm,g3,gr,j4],by simp only [go_sem,j0,g5,gm,g3,gr,j4];rw [← s2],_,by simp only [go_sem,j0,g5,gm,g3,gr,j4];try rfl,by simp only [go_sem,j0,g5,gm,g3,gr,j4];rw [← sn]⟩
    · obtain rfl:k=n:=by omega
      have lk:=hsl k
      have hbb:(k+1) * 48≤70368744177664:=by omega
      have tk:((stepsX k c2 k).1.map StepD.d).take k=(stepsX k c2 k).1.map StepD.d:=List.take_of_length_le (by simp [lk])
      have sn:(stepsX k c2 k).1.map StepD.d++[StepD.d ⟨11,0,0,0,0,0⟩]=((stepsX k c2 k).1++[(⟨11,0,0,0,0,0⟩:StepD)]).map StepD.d:=by simp
      have l1:((stepsX k c2 k).1++[(⟨11,0,0,0,0,0⟩:StepD)]).length=k+1:=by simp [lk]
      have tk1:(((stepsX k c2 k).1++[(⟨11,0,0,0,0,0⟩:StepD)]).map StepD.d).take (k+1)=((stepsX k c2 k).1++[(⟨11,0,0,0,0,0⟩:StepD)]).map StepD.d:=List.take_of_length_le (by simp [lk])
      simp only [go_sem,Int.lt_irrefl,hbb,tk,lk,j0,g5,gm,g3,gr,j4]
      refine coW_c f4 ?_
      have hx:((stepsX k c2 k).1++[(⟨11,0,0,0,0,0⟩:StepD)])[i0.toNat]? = some (((stepsX k c2 k).1++[(⟨11,0,0,0,0,0⟩:StepD)]).getD i0.toNat ⟨0,0,0,0,0,0⟩):=getD_some (by rw [l1];omega)
      have i0k:i0 < ((k+1:Nat):Int):=by omega
      have ss:(((stepsX k c2 k).1++[(⟨11,0,0,0,0,0⟩:StepD)]).map StepD.d).set i0.toNat (.agg [.int .i64 i1,.int .i64 i2,.int .i64 (IntKind.i64.wrap (i3 - 1)),.int .i64 0,.int .i64 i4,.int .i64 i5])=(((stepsX k c2 k).1++[(⟨11,0,0,0,0,0⟩:StepD)]).set i0.toNat ⟨i1,i2,IntKind.i64.wrap (i3 - 1),0,i4,i5⟩).map StepD.d:=by rw [List.map_set]
      have tk2:(((((stepsX k c2 k).1++[(⟨11,0,0,0,0,0⟩:StepD)]).set i0.toNat ⟨i1,i2,IntKind.i64.wrap (i3 - 1),0,i4,i5⟩).map StepD.d)).take (k+1)=(((stepsX k c2 k).1++[(⟨11,0,0,0,0,0⟩:StepD)]).set i0.toNat ⟨i1,i2,IntKind.i64.wrap (i3 - 1),0,i4,i5⟩).map StepD.d:=List.take_of_length_le (by simp [lk])
      have l2:(((stepsX k c2 k).1++[(⟨11,0,0,0,0,0⟩:StepD)]).set i0.toNat ⟨i1,i2,IntKind.i64.wrap (i3 - 1),0,i4,i5⟩).length=k+1:=by simp [lk]
      simp only [go_sem,sn,l1,j0,g5,gm,g3,gr,j4]
      refine coW_c e0 ?_
      simp only [go_sem,j0,g5,gm,g3,gr,j4]
      refine coW_c e1 ?_
      simp only [go_sem,j0,g5,gm,g3,gr,j4]
      refine coW_c e2 ?_
      simp only [go_sem,j0,g5,gm,g3,gr,j4]
      refine coW_c e3 ?_
      simp only [go_sem,j0,g5,gm,g3,gr,j4]
      refine coW_c e4 ?_
      simp only [go_sem,j0,g5,gm,g3,gr,j4]
      refine coW_c e5 ?_
      simp only [go_sem,e00,i0k,hx,l1,ss,tk2,l2,Nat.le_refl,j0,g5,gm,g3,gr,j4];try rfl
end Go.Vm.Ytmicgdfekpoajaa
