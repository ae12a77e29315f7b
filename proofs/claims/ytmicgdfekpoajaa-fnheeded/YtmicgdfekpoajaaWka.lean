/- What the functions that the law reaches return: part 1 (the conditions stand at each). -/
import Derived.Test.YtmicgdfekpoajaaIrb
import Derived.Tactics
import Derived.Tactics2
import Derived.StillTactics
import Derived.Laws.Pointers
open Int renaming reduceEq → iQ, reduceBEq → iB, reduceBNe → iX, reduceNeg → iN, reduceAdd → iA, reduceSub → iS, reduceMul → iM
attribute [go_sem_proc] Nat.reduceEqDiff Nat.reduceAdd Nat.reduceMul Nat.reduceBEq Int.reduceToNat Nat.reduceSub Nat.reduceLT Nat.reduceLeDiff Int.reduceLE Int.reduceLT reduceCtorEq
attribute [go_sem_proc ↓] reduceIte
attribute [go_sem] Option.getD_none
namespace Go.Vm
open Go
set_option linter.unusedSimpArgs false
set_option linter.unusedVariables false
abbrev Ii (n:Int):D:=.int .i64 n
abbrev Bb (b:Bool):D:=.bool b
abbrev ints (l:List Int):D:=.sl 1 (l.map Ii)
abbrev aI (n:Int):AV:=.dat none (.int .i64 n)
def i64 (n:Int):Prop:=-9223372036854775808≤n∧n≤9223372036854775807
theorem wrap_k {k m:Nat} (h:k < m) (hm:m≤9223372036854775807):IntKind.i64.wrap ((k:Int)+1)=((k+1:Nat):Int):=by
 rw [wrap_in (by omega) (by omega)];rfl
theorem take_succ' {α:Type} {l:List α} {k:Nat} (h:k < l.length):l.take (k+1)=l.take k++[l[k]]:=by
 rw [List.take_succ_eq_append_getElem h]
theorem all_take {α:Type} {p:α→Bool} {l:List α} {k:Nat} (h:k < l.length) (h1:(l.take k).all p=true) (h2:p l[k]=true):(l.take (k+1)).all p=true:=by
 rw [take_succ' h,List.all_append,h1];simpa using h2
theorem not_all {α:Type} {p:α→Bool} {l:List α} {k:Nat} (h:k < l.length) (h2:p l[k]=false):l.all p=false:=by
 rw [← Bool.not_eq_true,List.all_eq_true]
 intro hh
 have:=hh _ (List.getElem_mem h)
 rw [h2] at this;cases this
section
variable {α:Type} {f:α→D} {z:D} {l:List α} {k:Nat}
theorem take_map_len:(l.map f).take l.length=l.map f:=by rw [List.take_of_length_le (by simp)]
end
section
variable {α:Type} {A B:List α} {k:Nat}
end
def RowAt (x:AV) (M:Mem) (nm sz:Nat) (ds:List D):Prop:=(ds=[]∧x=.nil sz)∨∃ v,x=.sl nm v 0 ds.length sz∧M.m nm=some (.arr v true sz ds)
theorem RowAt.nil {M:Mem} {nm sz:Nat}:RowAt (.nil sz) M nm sz []:=.inl ⟨rfl,rfl⟩
theorem RowAt.sl {x:AV} {M:Mem} {nm sz v n:Nat} {ds:List D} (hx:x=.sl nm v 0 n sz) (hn:n=ds.length) (hm:M.m nm=some (.arr v true sz ds)):RowAt x M nm sz ds:=.inr ⟨v,by rw [hx,hn],hm⟩
section
variable {α:Type} {f:Int→α→α} {c:α→Nat}
end
theorem noRsL_all:∀ {ds:List D},(∀ d∈ds,noRs d=true)→noRsL ds=true
 | [],_=>rfl
 | d::ds,h=>by simp only [noRsL,Bool.and_eq_true];exact ⟨h d List.mem_cons_self,noRsL_all fun x hx=>h x (List.mem_cons_of_mem _ hx)⟩
theorem noRs_sl {sz:Nat} {ds:List D} (h:∀ d∈ds,noRs d=true):noRs (.sl sz ds)=true:=by simp only [noRs];exact noRsL_all h
section
variable {P:Program} {s:Nat→AV} {M:Mem} {nb ib:Nat}
theorem frzR_caps:∀ (caps:List D),frzR s M ((caps.map bindC).map X.k)=some caps
 | []=>rfl
 | c::caps=>by simp only [List.map_cons,frzR,ev_k,frz_bindC,frzR_caps caps]
theorem frzR_app:∀ (xs ys:List X),frzR s M (xs++ys)=match frzR s M xs,frzR s M ys with|some a,some b=>some (a++b)|_,_=>none
 | [],ys=>by simp only [List.nil_append,frzR];cases frzR s M ys<;>rfl
 | x::xs,ys=>by
  simp only [List.cons_append,frzR,frzR_app xs ys]
  cases frz M 8 (x.ev s)<;>cases frzR s M xs<;>cases frzR s M ys<;>rfl
theorem ccl_ro {f:FuncId} {caps:List D} {args:List X} {ds:List D} {K:AV→Mem→(Nat→Bool)→Prop} (ha:frzR s M args=some ds)
 (h:@fcW P f (args.map (fun _=>Md.ro)++caps.map fun _=>Md.ro) (ds++caps) false ((args++(caps.map bindC).map X.k).all fun x=>coldA (x.ev s)) nb ib M ⟨K⟩):@cW P (.clo f (caps.map bindC)) s M nb ib false args ⟨K⟩:=by
 rw [cW_clo,CR_ro,frzR_app,ha,frzR_caps]
 have e:((args++(caps.map bindC).map X.k).map fun _=>Md.ro)=(args.map (fun _=>Md.ro)++caps.map fun _=>Md.ro):=by simp [List.map_map,Function.comp_def]
 rw [e]
 exact h
end
def idxB {α:Type} (p:α→Bool) (l:List α):Int:=match l.findIdx? p with
 | some i=>i
 | none=>-1
theorem idxB_none {α:Type} {p:α→Bool} {l:List α} (h:l.all (fun x=>!p x)=true):idxB p l = -1:=by
 unfold idxB
 rw [List.findIdx?_eq_none_iff.2 (fun x hx=>by simpa using List.all_eq_true.1 h x hx)]
theorem idxB_some {α:Type} {p:α→Bool} {l:List α} {k:Nat} (hk:k < l.length) (h:(l.take k).all (fun x=>!p x)=true) (hp:p l[k]=true):idxB p l=k:=by
 unfold idxB
 rw [List.findIdx?_eq_some_iff_getElem.2 ⟨hk,hp,fun j hj=>by
  have:=List.all_eq_true.1 h l[j] (by rw [List.mem_take_iff_getElem];exact ⟨j,by omega,rfl⟩)
  simpa using this⟩]
theorem idxB_any {α:Type} {p:α→Bool} {l:List α}:decide (0≤idxB p l)=l.any p:=by
 unfold idxB
 cases h:l.findIdx? p with
 | none =>
  rw [List.findIdx?_eq_none_iff] at h
  rw [List.any_eq_false.2 (fun x hx=>by simp [h x hx])];rfl
 | some i =>
  rw [List.findIdx?_eq_some_iff_getElem] at h
  obtain ⟨hi,hp,_⟩:=h
  rw [List.any_eq_true.2 ⟨l[i],List.getElem_mem hi,hp⟩]
  simp
end Go.Vm
namespace Go.Vm.Ytmicgdfekpoajaa
open Go Go.Vm
set_option maxRecDepth 10000
set_option maxHeartbeats 4000000
set_option linter.unusedSimpArgs false
set_option linter.unusedVariables false
def inB (n lo hi:Int):Bool:=decide (lo≤n)&&decide (n≤hi)
theorem impl_in.fc (n lo hi:Int):FCt prog F_impl_in [.ro,.ro,.ro] [Ii n,Ii lo,Ii hi] (Bb (inB n lo hi)) []:=by
 refine fct_run impl_in.ok rfl ?_
 unfold inB
 by_cases h:lo≤n
 · simp only [go_sem,ge_iff_le,h]
 · simp only [go_sem,ge_iff_le,h]
theorem spec_l1In.fc (n lo hi:Int):FCt prog F_spec_l1In [.ro,.ro,.ro] [Ii n,Ii lo,Ii hi] (Bb (inB n lo hi)) []:=by
 refine fct_run spec_l1In.ok rfl ?_
 unfold inB
 by_cases h:lo≤n
 · simp only [go_sem,ge_iff_le,h]
 · simp only [go_sem,ge_iff_le,h]
structure RuleD where
 ifs:List Int
 thn:Int
 deriving DecidableEq
abbrev RuleD.d (r:RuleD):D:=.agg [ints r.ifs,Ii r.thn]
abbrev rules (l:List RuleD):D:=.sl 2 (l.map RuleD.d)
abbrev pr (a b:Int):D:=.agg [Ii a,Ii b]
theorem spec_l1Word.fc (n:Int):FCt prog F_spec_l1Word [.ro] [Ii n] (Bb (inB n 0 65535)) []:=by
 refine fct_run spec_l1Word.ok rfl ?_
 simp only [go_sem]
 refine fcW_bool (spec_l1In.fc ..) ?_
 simp only [go_sem]
theorem impl_isWord.fc (n:Int):FCt prog F_impl_isWord [.ro] [Ii n] (Bb (inB n 0 65535)) []:=by
 refine fct_run impl_isWord.ok rfl ?_
 simp only [go_sem]
 refine fcW_bool (impl_in.fc ..) ?_
 simp only [go_sem]
def goodS (a b:Int):Bool:=inB a 0 65535&&inB b 0 65535&&decide (a≤b)
def andI (a b:Int):Int:=IntKind.i64.wrap (BitVec.ofInt IntKind.i64.bits a &&& BitVec.ofInt IntKind.i64.bits b).toNat
def andNotI (a b:Int):Int:=IntKind.i64.wrap (BitVec.ofInt IntKind.i64.bits a &&& ~~~BitVec.ofInt IntKind.i64.bits b).toNat
def goodK (a b:Int):Bool:=inB a 0 65535&&inB b 0 65535&&(andI a b == 0)
theorem spec_GoodStretch.fc (a b:Int):FCt prog F_spec_GoodStretch [.ro] [pr a b] (Bb (goodS a b)) []:=by
 refine fct_run spec_GoodStretch.ok rfl ?_
 unfold goodS
 simp only [go_sem]
 refine fcW_bool (spec_l1Word.fc ..) ?_
 cases h1:inB a 0 65535
 · simp only [go_sem]
 · simp only [go_sem]
   refine fcW_bool (spec_l1Word.fc ..) ?_
   cases h2:inB b 0 65535
   · simp only [go_sem]
   · simp only [go_sem]
theorem impl_GoodStretch.fc (a b:Int):FCt prog F_impl_GoodStretch [.ro] [pr a b] (Bb (goodS a b)) []:=by
 refine fct_run impl_GoodStretch.ok rfl ?_
 unfold goodS
 simp only [go_sem]
 refine fcW_bool (impl_isWord.fc ..) ?_
 cases h1:inB a 0 65535
 · simp only [go_sem]
 · simp only [go_sem]
   refine fcW_bool (impl_isWord.fc ..) ?_
   cases h2:inB b 0 65535
   · simp only [go_sem]
   · simp only [go_sem]
theorem spec_GoodKnown.fc (a b:Int):FCt prog F_spec_GoodKnown [.ro] [pr a b] (Bb (goodK a b)) []:=by
 refine fct_run spec_GoodKnown.ok rfl ?_
 unfold goodK andI
 simp only [go_sem]
 refine fcW_bool (spec_l1Word.fc ..) ?_
 cases h1:inB a 0 65535
 · simp only [go_sem]
 · simp only [go_sem]
   refine fcW_bool (spec_l1Word.fc ..) ?_
   cases h2:inB b 0 65535
   · simp only [go_sem]
   · simp only [go_sem]
theorem impl_GoodKnown.fc (a b:Int):FCt prog F_impl_GoodKnown [.ro] [pr a b] (Bb (goodK a b)) []:=by
 refine fct_run impl_GoodKnown.ok rfl ?_
 unfold goodK andI
 simp only [go_sem]
 refine fcW_bool (impl_isWord.fc ..) ?_
 cases h1:inB a 0 65535
 · simp only [go_sem]
 · simp only [go_sem]
   refine fcW_bool (impl_isWord.fc ..) ?_
   cases h2:inB b 0 65535
   · simp only [go_sem]
   · simp only [go_sem]
theorem spec_l10May.fc (a b n:Int):FCt prog F_spec_l10May [.ro,.ro] [pr a b,Ii n] (Bb (andNotI n b == a)) []:=by
 refine fct_run spec_l10May.ok rfl ?_
 unfold andNotI
 simp only [go_sem]
theorem impl_Known_matches.fc (a b n:Int):FCt prog F_impl_Known_matches [.ro,.ro] [pr a b,Ii n] (Bb (andNotI n b == a)) []:=by
 refine fct_run impl_Known_matches.ok rfl ?_
 unfold andNotI
 simp only [go_sem]
theorem impl_exact.fc (n:Int):FCt prog F_impl_exact [.ro] [Ii n] (pr n 0) []:=by
 refine fct_run impl_exact.ok rfl ?_
 simp only [go_sem]
theorem spec_l1Most.fc (a b:Int):FCt prog F_spec_l1Most [.ro,.ro] [Ii a,Ii b] (Ii (if b > a then b else a)) []:=by
 refine fct_run spec_l1Most.ok rfl ?_
 by_cases h:a > b
 · have e:(if b > a then b else a)=a:=by split<;>omega
   simp only [go_sem,h,e]
 · have e:(if b > a then b else a)=b:=by split<;>omega
   simp only [go_sem,h,e]
theorem spec_l1Least.fc (a b:Int):FCt prog F_spec_l1Least [.ro,.ro] [Ii a,Ii b] (Ii (if b < a then b else a)) []:=by
 refine fct_run spec_l1Least.ok rfl ?_
 by_cases h:a < b
 · have e:(if b < a then b else a)=a:=by split<;>omega
   simp only [go_sem,h,e]
 · have e:(if b < a then b else a)=b:=by split<;>omega
   simp only [go_sem,h,e]
def redu (a b v m:Int):D :=
 let lo:=if v > a then v else a
 let hi:=if IntKind.i64.wrap (v+m) < b then IntKind.i64.wrap (v+m) else b
 if lo > hi then .tup [pr 0 0,pr 0 0,Bb false] else
 if lo < hi then .tup [pr lo hi,pr v m,Bb true] else
 if andNotI lo m == v then .tup [pr lo hi,pr lo 0,Bb true] else .tup [pr 0 0,pr 0 0,Bb false]
theorem impl_reduceBoth.fc (a b v m:Int):FCt prog F_impl_reduceBoth [.ro,.ro] [pr a b,pr v m] (redu a b v m) []:=by
 refine fct_run impl_reduceBoth.ok rfl ?_
 unfold redu
 generalize hlo:(if v > a then v else a)=lo
 generalize hhi:(if IntKind.i64.wrap (v+m) < b then IntKind.i64.wrap (v+m) else b)=hi
 dsimp only
 simp only [go_sem,hlo,hhi]
 by_cases h1:lo > hi
 · simp only [go_sem,h1]
 · by_cases h2:lo < hi
   · simp only [go_sem,h1,h2]
   · simp only [go_sem,h1,h2]
     refine fcW_bool (impl_Known_matches.fc ..) ?_
     cases h3:(andNotI lo m == v)
     · simp only [go_sem,h1,h2]
     · simp only [go_sem]
       refine fcW_of (impl_exact.fc _) rfl rfl (by omega) rfl ?_
       simp only [go_sem,h1,h2]
theorem spec_l13Reduce.fc (a b v m:Int):FCt prog F_spec_l13Reduce [.ro,.ro] [pr a b,pr v m] (redu a b v m) []:=by
 refine fct_run spec_l13Reduce.ok rfl ?_
 unfold redu
 generalize hlo:(if v > a then v else a)=lo
 generalize hhi:(if IntKind.i64.wrap (v+m) < b then IntKind.i64.wrap (v+m) else b)=hi
 dsimp only
 simp only [go_sem]
 refine fcW_int (spec_l1Most.fc ..) ?_
 simp only [go_sem]
 refine fcW_int (spec_l1Least.fc ..) ?_
 simp only [go_sem,hlo,hhi]
 by_cases h1:lo > hi
 · simp only [go_sem,h1]
 · by_cases h2:lo < hi
   · have h3:(lo == hi)=false:=by simp;omega
     simp only [go_sem,h1,h2,h3]
   · obtain rfl:lo=hi:=by omega
     simp only [go_sem,h1,h2]
     refine fcW_bool (spec_l10May.fc ..) ?_
     cases h3:(andNotI lo m == v)
     · simp only [go_sem,h1,h2]
     · simp only [go_sem,h1,h2]
theorem redu_tup (a b v m:Int):∃ x y z u c,redu a b v m=.tup [pr x y,pr z u,Bb c]:=by
 unfold redu
 generalize (if v > a then v else a)=lo
 generalize (if IntKind.i64.wrap (v+m) < b then IntKind.i64.wrap (v+m) else b)=hi
 dsimp only
 split
 · exact ⟨_,_,_,_,_,rfl⟩
 · split
   · exact ⟨_,_,_,_,_,rfl⟩
   · split
     · exact ⟨_,_,_,_,_,rfl⟩
     · exact ⟨_,_,_,_,_,rfl⟩
theorem spec_ReduceBoth.fc (a b v m:Int):FCt prog F_spec_ReduceBoth [.ro,.ro] [pr a b,pr v m] (if goodS a b&&goodK v m then redu a b v m else .tup [pr 0 0,pr 0 0,Bb false]) []:=by
 refine fct_run spec_ReduceBoth.ok rfl ?_
 simp only [go_sem]
 refine fcW_bool (spec_GoodStretch.fc ..) ?_
 cases h1:goodS a b
 · simp only [go_sem]
 · simp only [go_sem]
   refine fcW_bool (spec_GoodKnown.fc ..) ?_
   cases h2:goodK v m
   · simp only [go_sem]
   · simp only [go_sem]
     obtain ⟨x,y,z,u,c,hr⟩:=redu_tup a b v m
     rw [hr]
     refine fcW_bd (hr▸spec_l13Reduce.fc a b v m) rfl ?_
     simp only [go_sem]
theorem impl_ReduceBoth.fc (a b v m:Int):FCt prog F_impl_ReduceBoth [.ro,.ro] [pr a b,pr v m] (if goodS a b&&goodK v m then redu a b v m else .tup [pr 0 0,pr 0 0,Bb false]) []:=by
 refine fct_run impl_ReduceBoth.ok rfl ?_
 simp only [go_sem]
 refine fcW_bool (impl_GoodStretch.fc ..) ?_
 cases h1:goodS a b
 · simp only [go_sem]
 · simp only [go_sem]
   refine fcW_bool (impl_GoodKnown.fc ..) ?_
   cases h2:goodK v m
   · simp only [go_sem]
   · simp only [go_sem]
     obtain ⟨x,y,z,u,c,hr⟩:=redu_tup a b v m
     rw [hr]
     refine fcW_bd (hr▸impl_reduceBoth.fc a b v m) rfl ?_
     simp only [go_sem]
abbrev arcD (a:Int×Int):D:=pr a.1 a.2
abbrev arcs (l:List (Int×Int)):D:=.sl 2 (l.map arcD)
def putK (l:List Int) (x:Int):Nat:=l.findIdx (fun y=>!decide (y < x))
def putI (l:List Int) (x:Int):List Int:=if l[putK l x]? = some x then l else l.take (putK l x)++x::l.drop (putK l x)
theorem putI_len (l:List Int) (x:Int):(putI l x).length≤l.length+1:=by
 unfold putI
 split
 · omega
 · simp;omega
abbrev bools (l:List Bool):D:=.sl 1 (l.map Bb)
def hasI (so:List Int) (x:Int):Bool:=so.any (· == x)
def listI (n:Nat) (p:Nat→Bool):List Int:=((List.range n).filter p).map fun (i:Nat)=>(i:Int)
theorem noRs_bools {l:List Bool}:noRs (bools l)=true:=noRs_sl (by
 intro d hd;obtain ⟨x,_,rfl⟩:=List.mem_map.1 hd;rfl)
theorem allScB {l:List Bool}:(l.map Bb).all isSc=true:=by
 rw [List.all_eq_true];intro d hd;obtain ⟨x,_,rfl⟩:=List.mem_map.1 hd;rfl
theorem slices_Clone__sbool_bool.fc (b:Bool) (l:List Bool) (hl:l.length≤4294967296):FCt prog F_slices_Clone__sbool_bool [.ro] [bools (b::l)] (bools (b::l)) []:=by
 refine fct_run slices_Clone__sbool_bool.ok rfl ?_
 have hb:(l.length+1) * 1≤70368744177664:=by omega
 have htk:(l.map Bb).take l.length=l.map Bb:=List.take_of_length_le (by simp)
 simp only [go_sem,allScB,hb,Nat.zero_le,htk]
 rfl
theorem slices_Clone__sbool_bool.fc1 (l:List Bool) (h:0 < l.length) (hl:l.length≤4294967296):FCt prog F_slices_Clone__sbool_bool [.ro] [bools l] (bools l) []:=by
 cases l with
 | nil=>simp at h
 | cons b l=>exact slices_Clone__sbool_bool.fc b l (by simpa using Nat.le_of_succ_le hl)
def segI (a b:Nat) (p:Nat→Bool):List Int:=((List.range' a b).filter p).map fun (i:Nat)=>(i:Int)
theorem listI_seg (n:Nat) (p:Nat→Bool):listI n p=segI 0 n p:=by simp only [listI,segI,List.range_eq_range']
theorem segI_split {a b c:Nat} {p:Nat→Bool}:segI a (b+c) p=segI a b p++segI (a+b) c p:=by
 simp only [segI]
 rw [← List.range'_append_1,List.filter_append,List.map_append]
theorem segI_mem {a b:Nat} {p:Nat→Bool} {x:Int} (h:x∈segI a b p):∃ i:Nat,x=i∧a≤i∧i < a+b∧p i=true:=by
 simp only [segI,List.mem_map,List.mem_filter,List.mem_range'_1] at h
 obtain ⟨i,⟨hi,hp⟩,rfl⟩:=h
 exact ⟨i,rfl,hi.1,hi.2,hp⟩
theorem segI_congr {a b:Nat} {p q:Nat→Bool} (h:∀ i,a≤i→i < a+b→p i=q i):segI a b p=segI a b q:=by
 simp only [segI]
 congr 1
 exact List.filter_congr fun i hi=>by rw [List.mem_range'_1] at hi;exact h i hi.1 hi.2
theorem putK_app {A C:List Int} {x:Int} (hA:∀ y∈A,y < x) (hC:∀ y∈C,¬ y < x):putK (A++C) x=A.length:=by
 unfold putK
 have h1:A.findIdx (fun y=>!decide (y < x))=A.length:=by
  rw [List.findIdx_eq_length];intro y hy;simp [hA y hy]
 rw [List.findIdx_append,h1,if_neg (by omega)]
 cases C with
 | nil=>simp
 | cons c C =>
  have:=hC c List.mem_cons_self
  simp only [List.findIdx_cons,this,decide_false,Bool.not_false,cond_true,Nat.zero_add]
theorem putI_app {A C:List Int} {x:Int} (hA:∀ y∈A,y < x) (hC:∀ y∈C,x < y):putI (A++C) x=A++x::C∧putI (A++x::C) x=A++x::C:=by
 constructor
 · unfold putI
   rw [putK_app hA (fun y hy=>by have:=hC y hy;omega)]
   have:(A++C)[A.length]?≠some x:=by
    rw [List.getElem?_append_right (Nat.le_refl _),Nat.sub_self]
    cases C with
    | nil=>simp
    | cons c C=>have:=hC c List.mem_cons_self;simp;omega
   rw [if_neg this]
   simp
 · unfold putI
   rw [putK_app hA (fun y hy=>by
    rcases List.mem_cons.1 hy with rfl|hy
    · omega
    · have:=hC y hy;omega)]
   simp
theorem putI_list {n:Nat} {p:Nat→Bool} {x:Nat} (hx:x < n):putI (listI n p) x=listI n (fun i=>if i=x then true else p i):=by
 obtain ⟨m,rfl⟩:∃ m,n=x+(1+m):=⟨n - x - 1,by omega⟩
 rw [listI_seg,listI_seg,segI_split (p:=p),segI_split (p:=p) (b:=1),segI_split (p:=fun i=>if i=x then true else p i),segI_split (p:=fun i=>if i=x then true else p i) (b:=1)]
 simp only [Nat.zero_add]
 have hA:∀ q,∀ y∈segI 0 x q,y < (x:Int):=fun q y hy=>by obtain ⟨i,rfl,_,h,_⟩:=segI_mem hy;omega
 have hC:∀ q,∀ y∈segI (x+1) m q,(x:Int) < y:=fun q y hy=>by obtain ⟨i,rfl,h,_,_⟩:=segI_mem hy;omega
 have e1:segI 0 x (fun i=>if i=x then true else p i)=segI 0 x p:=segI_congr fun i _ h=>by rw [if_neg (by omega)]
 have e2:segI (x+1) m (fun i=>if i=x then true else p i)=segI (x+1) m p:=segI_congr fun i h _=>by rw [if_neg (by omega)]
 have e3:segI x 1 (fun i=>if i=x then true else p i)=[(x:Int)]:=by simp [segI]
 rw [e1,e2,e3]
 cases hp:p x with
 | true =>
  have e4:segI x 1 p=[(x:Int)]:=by simp [segI,hp]
  rw [e4]
  exact (putI_app (hA p) (hC p)).2
 | false =>
  have e4:segI x 1 p=[]:=by simp [segI,hp]
  rw [e4,List.nil_append]
  exact (putI_app (hA p) (hC p)).1
theorem listI_congr {n:Nat} {p q:Nat→Bool} (h:∀ i,i < n→p i=q i):listI n p=listI n q:=by
 rw [listI_seg,listI_seg];exact segI_congr fun i _ hi=>h i (by omega)
theorem noRs_agg {fs:List D} (h:∀ d∈fs,noRs d=true):noRs (.agg fs)=true:=by simp only [noRs];exact noRsL_all h
theorem hasSl {α:Type} {f:α→D} {p:α→Prop} {T:Ty} (one:∀ x,HasTy T x→∃ a,x=f a∧p a) {d:D} (h:HasTy (.sl T) d):∃ l:List α,d=.sl T.cells (l.map f)∧l.length≤9223372036854775807∧∀ a∈l,p a:=by
 simp only [HasTy] at h
 obtain ⟨xs,rfl,hl,h⟩:=h
 have:∀ xs:List D,(∀ x∈xs,HasTy T x)→∃ l:List α,xs=l.map f∧∀ a∈l,p a:=by
  intro xs
  induction xs with
  | nil=>intro _;exact ⟨[],rfl,by simp⟩
  | cons x xs ih =>
   intro h
   obtain ⟨a,rfl,hp⟩:=one x (h x List.mem_cons_self)
   obtain ⟨l,rfl,hl⟩:=ih fun y hy=>h y (List.mem_cons_of_mem _ hy)
   exact ⟨a::l,rfl,fun b hb=>by
    rcases List.mem_cons.1 hb with rfl|hb
    · exact hp
    · exact hl b hb⟩
 obtain ⟨l,rfl,hp⟩:=this xs h
 exact ⟨l,rfl,by simpa [maxLen] using hl,hp⟩
theorem noRs_t2 {a b:D} (h1:noRs a=true) (h2:noRs b=true):noRs (.tup [a,b])=true:=by simp only [noRs,noRsL,h1,h2,Bool.and_self]
theorem noRs_t3 {a b c:D} (h1:noRs a=true) (h2:noRs b=true) (h3:noRs c=true):noRs (.tup [a,b,c])=true:=by simp only [noRs,noRsL,h1,h2,h3,Bool.and_self]
theorem mem_putI {l:List Int} {x y:Int}:y∈putI l x↔y=x∨y∈l:=by
 unfold putI
 split
 · rename_i h
   have:=List.mem_of_getElem? h
   constructor
   · exact .inr
   · rintro (rfl|h)
     · exact this
     · exact h
 · rw [List.mem_append,List.mem_cons]
   have:y∈l↔y∈l.take (putK l x)∨y∈l.drop (putK l x):=by rw [← List.mem_append,List.take_append_drop]
   rw [this]
   constructor
   · rintro (h|rfl|h)
     · exact .inr (.inl h)
     · exact .inl rfl
     · exact .inr (.inr h)
   · rintro (rfl|h|h)
     · exact .inr (.inl rfl)
     · exact .inl h
     · exact .inr (.inr h)
theorem hasI_iff {l:List Int} {x:Int}:hasI l x=true↔x∈l:=by
 unfold hasI
 rw [List.any_eq_true]
 exact ⟨fun ⟨y,h,e⟩=>by rw [← (by simpa using e:y=x)];exact h,fun h=>⟨x,h,by simp⟩⟩
theorem hasI_put {l:List Int} {x y:Int}:hasI (putI l x) y=(decide (y=x)||hasI l y):=by
 rw [Bool.eq_iff_iff,hasI_iff,mem_putI,Bool.or_eq_true,decide_eq_true_eq,hasI_iff]
def lackN (n:Nat) (so:List Int):Nat:=((List.range (n+1)).filter fun (i:Nat)=>!hasI so (i:Int)).length
theorem filter_lt {α:Type} {p q:α→Bool} {l:List α} {z:α} (hz:z∈l) (hp:p z=true) (hq:q z=false) (h:∀ y,q y=true→p y=true):(l.filter q).length < (l.filter p).length:=by
 have e:l.filter q=(l.filter p).filter q:=by
  rw [List.filter_filter]
  refine List.filter_congr fun y _=>?_
  cases hh:q y with
  | false=>simp
  | true=>simp [h y hh]
 rw [e]
 exact List.length_filter_lt_length_iff_exists.2 ⟨z,List.mem_filter.2 ⟨hz,hp⟩,by simp [hq]⟩
theorem lack_put {n:Nat} {so:List Int} {x:Int} (hx:0≤x∧x≤n) (h:hasI so x=false):lackN n (putI so x)+1≤lackN n so:=by
 unfold lackN
 have e:((x.toNat:Nat):Int)=x:=by omega
 refine Nat.succ_le_of_lt (filter_lt (z:=x.toNat) (by simp;omega) ?_ ?_ fun y hy=>?_)
 · rw [e,h];rfl
 · rw [e,hasI_put];simp
 · rw [hasI_put] at hy;simp at hy;simp [hy.2]
theorem lack_le {n:Nat} {so:List Int}:lackN n so≤n+1:=by
 unfold lackN
 exact Nat.le_trans (List.length_filter_le _ _) (by simp)
def readyR (so:List Int) (r:RuleD):Bool:=decide (r.thn > 0)&&!hasI so r.thn&&r.ifs.all (hasI so)
def ruleAt (l:List RuleD) (i:Nat):RuleD:=l.getD i ⟨[],0⟩
def leastI (l:List RuleD):Nat→List Int→List Int→List Int×List Int
 | 0,so,ap=>(so,ap)
 | f+1,so,ap=>match l.findIdx? (readyR so) with
  | none=>(so,ap)
  | some i=>leastI l f (putI so (ruleAt l i).thn) (ap++[(i:Int)])
theorem ruleAt_get {l:List RuleD} {i:Nat} (h:i < l.length):ruleAt l i=l[i]:=by
 unfold ruleAt;rw [List.getD_eq_getElem?_getD,List.getElem?_eq_getElem h];rfl
theorem ready_at {l:List RuleD} {so:List Int} {i:Nat} (h:l.findIdx? (readyR so)=some i):i < l.length∧readyR so (ruleAt l i)=true:=by
 rw [List.findIdx?_eq_some_iff_getElem] at h
 obtain ⟨hi,h,_⟩:=h
 exact ⟨hi,by rw [ruleAt_get hi];exact h⟩
theorem ready_thn {so:List Int} {r:RuleD} (h:readyR so r=true):0 < r.thn∧hasI so r.thn=false:=by
 simp only [readyR,Bool.and_eq_true,decide_eq_true_eq,Bool.not_eq_true'] at h
 exact ⟨h.1.1,h.1.2⟩
theorem ready_lack {n:Nat} {l:List RuleD} {so:List Int} {i:Nat} (hr:∀ r∈l,r.thn≤n) (h:l.findIdx? (readyR so)=some i):lackN n (putI so (ruleAt l i).thn)+1≤lackN n so:=by
 obtain ⟨hi,h⟩:=ready_at h
 have:=ready_thn h
 exact lack_put ⟨by omega,hr _ (by rw [ruleAt_get hi];exact List.getElem_mem hi)⟩ this.2
theorem least_fuel {n:Nat} {l:List RuleD} (hr:∀ r∈l,r.thn≤n):∀ (f g:Nat) (so ap:List Int),lackN n so≤f→lackN n so≤g→leastI l f so ap=leastI l g so ap:=by
 intro f
 induction f with
 | zero =>
  intro g so ap hf hg
  cases g with
  | zero=>rfl
  | succ g =>
   simp only [leastI]
   cases h:l.findIdx? (readyR so) with
   | none=>rfl
   | some i=>have:=ready_lack hr h;omega
 | succ f ih =>
  intro g so ap hf hg
  cases g with
  | zero =>
   simp only [leastI]
   cases h:l.findIdx? (readyR so) with
   | none=>rfl
   | some i=>have:=ready_lack hr h;omega
  | succ g =>
   simp only [leastI]
   cases h:l.findIdx? (readyR so) with
   | none=>rfl
   | some i =>
    have:=ready_lack hr h
    exact ih g _ _ (by omega) (by omega)
def leastP (l:List RuleD):List Int×List Int:=leastI l 14 [] []
theorem least_step {n:Nat} {l:List RuleD} (hn:n≤12) (hr:∀ r∈l,r.thn≤n) {so ap:List Int} {i:Nat} (h:l.findIdx? (readyR so)=some i):leastI l 14 (putI so (ruleAt l i).thn) (ap++[(i:Int)])=leastI l 14 so ap:=by
 have h1:leastI l 15 so ap=leastI l 14 (putI so (ruleAt l i).thn) (ap++[(i:Int)]):=by simp only [leastI,h]
 have hl:=lack_le (n:=n) (so:=so)
 rw [← h1]
 exact least_fuel hr _ _ _ _ (by omega) (by omega)
structure LeastOk (n:Nat) (l:List RuleD) (so ap:List Int):Prop where
 same:leastI l 14 so ap=leastP l
 sort:so=listI (n+1) fun i=>hasI so (i:Int)
 few:so.length≤ap.length
 left:ap.length+lackN n so≤n+1
 apl:∀ i∈ap,0≤i∧i < l.length∧0 < (ruleAt l i.toNat).thn
theorem LeastOk.start {n:Nat} {l:List RuleD}:LeastOk n l [] [] where
 same:=rfl
 sort:=by
  have:listI (n+1) (fun i=>hasI [] (i:Int))=[]:=by
   unfold listI;rw [List.filter_eq_nil_iff.2 (by intro i _;simp [hasI])];rfl
  rw [this]
 few:=by simp
 left:=by have:=lack_le (n:=n) (so:=[]);simpa using this
 apl:=by simp
theorem LeastOk.next {n:Nat} {l:List RuleD} {so ap:List Int} (hn:n≤12) (hr:∀ r∈l,r.thn≤n) (h:LeastOk n l so ap) {i:Nat} (hi:l.findIdx? (readyR so)=some i):LeastOk n l (putI so (ruleAt l i).thn) (ap++[(i:Int)]) where
 same:=by rw [least_step hn hr hi];exact h.same
 sort:=by
  obtain ⟨h1,h2⟩:=ready_at hi
  have h3:=ready_thn h2
  have h4:(ruleAt l i).thn≤n:=hr _ (by rw [ruleAt_get h1];exact List.getElem_mem h1)
  have hp:=putI_list (n:=n+1) (p:=fun i=>hasI so (i:Int)) (x:=(ruleAt l i).thn.toNat) (by omega)
  rw [← h.sort,show (((ruleAt l i).thn.toNat:Nat):Int)=(ruleAt l i).thn by omega] at hp
  rw [hp]
  refine listI_congr fun j hj=>?_
  rw [← hp,hasI_put]
  by_cases e:j=(ruleAt l i).thn.toNat
  · rw [if_pos e];simp;omega
  · rw [if_neg e]
    have:¬ ((j:Int)=(ruleAt l i).thn):=by omega
    simp [this]
 few:=by have:=putI_len so (ruleAt l i).thn;have:=h.few;simp;omega
 left:=by have:=ready_lack hr hi;have:=h.left;simp;omega
 apl:=fun j hj=>by
  rcases List.mem_append.1 hj with hj|hj
  · exact h.apl j hj
  · obtain ⟨h1,h2⟩:=ready_at hi
    have:j=i:=by simpa using hj
    subst this
    exact ⟨by omega,by omega,by rw [Int.toNat_natCast];exact (ready_thn h2).1⟩
theorem LeastOk.len {n:Nat} {l:List RuleD} {so ap:List Int} (h:LeastOk n l so ap) (hn:n≤12):so.length≤13∧ap.length≤13:=by
 have:=h.few;have:=h.left;omega
abbrev strD (x:(Int×Int)):D:=.agg [Ii x.1,Ii x.2]
abbrev knownD (x:(Int×Int)):D:=.agg [Ii x.1,Ii x.2]
abbrev strs (l:List (Int×Int)):D:=.sl 2 (l.map strD)
theorem noRs_strs {l:List (Int×Int)}:noRs (strs l)=true:=noRs_sl (by
 intro d hd
 obtain ⟨x,_,rfl⟩:=List.mem_map.1 hd
 exact rfl)
abbrev knowns (l:List (Int×Int)):D:=.sl 2 (l.map knownD)
theorem noRs_knowns {l:List (Int×Int)}:noRs (knowns l)=true:=noRs_sl (by
 intro d hd
 obtain ⟨x,_,rfl⟩:=List.mem_map.1 hd
 exact rfl)
structure MayD where
 reg:List (Int×Int)
 bits:List (Int×Int)
 cell:List (Int×Int)
 isset:List Bool
 deriving DecidableEq
abbrev MayD.d (x:MayD):D:=.agg [strs x.reg,knowns x.bits,strs x.cell,bools x.isset]
theorem noRs_May {x:MayD}:noRs (MayD.d x)=true:=noRs_agg fun d hd=>by
 rcases List.mem_cons.1 hd with rfl|hd
 · exact noRs_strs
 rcases List.mem_cons.1 hd with rfl|hd
 · exact noRs_knowns
 rcases List.mem_cons.1 hd with rfl|hd
 · exact noRs_strs
 rcases List.mem_cons.1 hd with rfl|hd
 · exact noRs_bools
 cases hd
def wMay (x:MayD):Nat:=x.reg.length+x.bits.length+x.cell.length+x.isset.length
theorem slices_IndexFunc__sStretch_Stretch.fc (l:List (Int×Int)) (f:FuncId) (caps:List D) (p:(Int×Int)→Bool) (hl:l.length≤4294967296)
 (h:∀ x∈l,FCt prog f (.ro::caps.map fun _=>.ro) (strD x::caps) (Bb (p x)) []):FCt prog F_slices_IndexFunc__sStretch_Stretch [.ro,.ro] [strs l,.clo f caps] (Ii (idxB p l)) []:=by
 refine fct_run slices_IndexFunc__sStretch_Stretch.ok rfl ?_
 simp only [go_sem]
 refine R_loop (α:=Nat) (fun k s' M'=>k≤l.length∧s' 8=aI k∧(l.take k).all (fun x=>!p x)=true) (fun k=>l.length - k) 0 ⟨by omega,by simp only [go_sem];rfl,by simp⟩ ?_
 rintro k s' M' ⟨hk,h8,hr⟩ ho
 have h0:s' 0=.dat none (strs l):=by rw [ho 0 rfl];simp only [go_sem]
 have h1:s' 1=.clo f (caps.map bindC):=by rw [ho 1 rfl];simp only [go_sem]
 have h7:s' 7=aI l.length:=by rw [ho 7 rfl];simp only [go_sem]
 clear ho
 unfold slices_IndexFunc__sStretch_Stretch.b0
 by_cases hlt:k < l.length
 · have hi':(k:Int) < l.length:=by omega
   have ga:l[k]? = some l[k]:=List.getElem?_eq_getElem hlt
   have hw:IntKind.i64.wrap (k+1)=((k+1:Nat):Int):=wrap_k hlt (by omega)
   simp only [go_sem,h0,h1,h7,h8,hi',ga]
   refine ccl_ro (ds:=[strD l[k]]) (by simp only [go_sem]) ?_
   refine fcW_bool (h _ (List.getElem_mem hlt)) ?_
   cases hp:p l[k] with
   | true=>simp only [go_sem,idxB_some hlt hr hp]
   | false =>
    simp only [go_sem,h8,hw]
    exact ⟨k+1,by dsimp only;omega,by omega,by simp only [go_sem],all_take hlt hr (by simp [hp])⟩
 · have hi':¬ (k:Int) < l.length:=by omega
   rw [List.take_of_length_le (by omega)] at hr
   simp only [go_sem,h0,h1,h7,h8,hi',idxB_none hr]
theorem slices_ContainsFunc__sStretch_Stretch.fc (l:List (Int×Int)) (f:FuncId) (caps:List D) (p:(Int×Int)→Bool) (hl:l.length≤4294967296)
 (h:∀ x∈l,FCt prog f (.ro::caps.map fun _=>.ro) (strD x::caps) (Bb (p x)) []):FCt prog F_slices_ContainsFunc__sStretch_Stretch [.ro,.ro] [strs l,.clo f caps] (Bb (l.any p)) []:=by
 refine fct_run slices_ContainsFunc__sStretch_Stretch.ok rfl ?_
 simp only [go_sem]
 refine fcW_int (slices_IndexFunc__sStretch_Stretch.fc l f caps p hl h) ?_
 simp only [go_sem,ge_iff_le,idxB_any]
theorem slices_IndexFunc__sKnown_Known.fc (l:List (Int×Int)) (f:FuncId) (caps:List D) (p:(Int×Int)→Bool) (hl:l.length≤4294967296)
 (h:∀ x∈l,FCt prog f (.ro::caps.map fun _=>.ro) (knownD x::caps) (Bb (p x)) []):FCt prog F_slices_IndexFunc__sKnown_Known [.ro,.ro] [knowns l,.clo f caps] (Ii (idxB p l)) []:=by
 refine fct_run slices_IndexFunc__sKnown_Known.ok rfl ?_
 simp only [go_sem]
 refine R_loop (α:=Nat) (fun k s' M'=>k≤l.length∧s' 8=aI k∧(l.take k).all (fun x=>!p x)=true) (fun k=>l.length - k) 0 ⟨by omega,by simp only [go_sem];rfl,by simp⟩ ?_
 rintro k s' M' ⟨hk,h8,hr⟩ ho
 have h0:s' 0=.dat none (knowns l):=by rw [ho 0 rfl];simp only [go_sem]
 have h1:s' 1=.clo f (caps.map bindC):=by rw [ho 1 rfl];simp only [go_sem]
 have h7:s' 7=aI l.length:=by rw [ho 7 rfl];simp only [go_sem]
 clear ho
 unfold slices_IndexFunc__sKnown_Known.b0
 by_cases hlt:k < l.length
 · have hi':(k:Int) < l.length:=by omega
   have ga:l[k]? = some l[k]:=List.getElem?_eq_getElem hlt
   have hw:IntKind.i64.wrap (k+1)=((k+1:Nat):Int):=wrap_k hlt (by omega)
   simp only [go_sem,h0,h1,h7,h8,hi',ga]
   refine ccl_ro (ds:=[knownD l[k]]) (by simp only [go_sem]) ?_
   refine fcW_bool (h _ (List.getElem_mem hlt)) ?_
   cases hp:p l[k] with
   | true=>simp only [go_sem,idxB_some hlt hr hp]
   | false =>
    simp only [go_sem,h8,hw]
    exact ⟨k+1,by dsimp only;omega,by omega,by simp only [go_sem],all_take hlt hr (by simp [hp])⟩
 · have hi':¬ (k:Int) < l.length:=by omega
   rw [List.take_of_length_le (by omega)] at hr
   simp only [go_sem,h0,h1,h7,h8,hi',idxB_none hr]
theorem slices_ContainsFunc__sKnown_Known.fc (l:List (Int×Int)) (f:FuncId) (caps:List D) (p:(Int×Int)→Bool) (hl:l.length≤4294967296)
 (h:∀ x∈l,FCt prog f (.ro::caps.map fun _=>.ro) (knownD x::caps) (Bb (p x)) []):FCt prog F_slices_ContainsFunc__sKnown_Known [.ro,.ro] [knowns l,.clo f caps] (Bb (l.any p)) []:=by
 refine fct_run slices_ContainsFunc__sKnown_Known.ok rfl ?_
 simp only [go_sem]
 refine fcW_int (slices_IndexFunc__sKnown_Known.fc l f caps p hl h) ?_
 simp only [go_sem,ge_iff_le,idxB_any]
def gS (x:Int×Int):Bool:=goodS x.1 x.2
def gK (x:Int×Int):Bool:=goodK x.1 x.2
theorem impl_GoodMay_c1.fc (x:Int×Int):FCt prog F_impl_GoodMay_c1 [.ro] [strD x] (Bb (!gS x)) []:=by
 refine fct_run impl_GoodMay_c1.ok rfl ?_
 simp only [go_sem]
 refine fcW_bool (impl_GoodStretch.fc x.1 x.2) ?_
 simp only [go_sem]
 rfl
theorem impl_GoodMay_c2.fc (x:Int×Int):FCt prog F_impl_GoodMay_c2 [.ro] [knownD x] (Bb (!gK x)) []:=by
 refine fct_run impl_GoodMay_c2.ok rfl ?_
 simp only [go_sem]
 refine fcW_bool (impl_GoodKnown.fc x.1 x.2) ?_
 simp only [go_sem]
 rfl
structure MayOk (m:MayD):Prop where
 reg:m.reg.length=6
 bits:m.bits.length=6
 cell:m.cell.length=16
 isset:m.isset.length=16
 gr:∀ x∈m.reg,gS x=true
 gb:∀ x∈m.bits,gK x=true
 gc:∀ x∈m.cell,gS x=true
def goodMay (m:MayD):Bool:=decide (m.reg.length=6)&&decide (m.bits.length=6)&&decide (m.cell.length=16)&&decide (m.isset.length=16)&&m.reg.all gS&&m.cell.all gS&&m.bits.all gK
theorem goodMay_ok {m:MayD} (h:goodMay m=true):MayOk m:=by
 simp only [goodMay,Bool.and_eq_true,decide_eq_true_eq,List.all_eq_true] at h
 exact ⟨h.1.1.1.1.1.1,h.1.1.1.1.1.2,h.1.1.1.1.2,h.1.1.1.2,h.1.1.2,h.2,h.1.2⟩
theorem neq_dec {a b:Nat}:((a:Int) != (b:Int)) = !decide (a=b):=by
 by_cases h:a=b
 · subst h;simp
 · have:((a:Int) != (b:Int))=true:=by simp;omega
   rw [this];simp [h]
theorem eq_dec {a b:Nat}:((a:Int) == (b:Int))=decide (a=b):=by
 by_cases h:a=b
 · subst h;simp
 · have:((a:Int) == (b:Int))=false:=by rw [beq_eq_false_iff_ne];omega
   rw [this];simp [h]
theorem impl_GoodMay.fc (m:MayD) (h:wMay m≤4194304):FCt prog F_impl_GoodMay [.ro] [m.d] (Bb (goodMay m)) []:=by
 refine fct_run impl_GoodMay.ok rfl ?_
 have h:=h
 unfold wMay at h
 have e1:((m.reg.length:Int) != 6) = !decide (m.reg.length=6):=neq_dec (b:=6)
 have e2:((m.bits.length:Int) != 6) = !decide (m.bits.length=6):=neq_dec (b:=6)
 have e3:((m.cell.length:Int) != 16) = !decide (m.cell.length=16):=neq_dec (b:=16)
 have e4:((m.isset.length:Int) != 16) = !decide (m.isset.length=16):=neq_dec (b:=16)
 unfold goodMay
 by_cases h1:m.reg.length=6
 case neg=>rw [decide_eq_false h1] at e1 ⊢;simp only [go_sem,e1]
 rw [decide_eq_true h1] at e1 ⊢
 by_cases h2:m.bits.length=6
 case neg=>rw [decide_eq_false h2] at e2 ⊢;simp only [go_sem,e1,e2]
 rw [decide_eq_true h2] at e2 ⊢
 by_cases h3:m.cell.length=16
 case neg=>rw [decide_eq_false h3] at e3 ⊢;simp only [go_sem,e1,e2,e3]
 rw [decide_eq_true h3] at e3 ⊢
 by_cases h4:m.isset.length=16
 case neg=>rw [decide_eq_false h4] at e4 ⊢;simp only [go_sem,e1,e2,e3,e4]
 rw [decide_eq_true h4] at e4 ⊢
 have a1:m.reg.any (fun x=>!gS x) = !m.reg.all gS:=by rw [List.not_all_eq_any_not]
 have a2:m.cell.any (fun x=>!gS x) = !m.cell.all gS:=by rw [List.not_all_eq_any_not]
 have a3:m.bits.any (fun x=>!gK x) = !m.bits.all gK:=by rw [List.not_all_eq_any_not]
 simp only [go_sem,e1,e2,e3,e4]
 refine fcW_bool (slices_ContainsFunc__sStretch_Stretch.fc m.reg F_impl_GoodMay_c1 [] (fun x=>!gS x) (by omega) (fun x _=>impl_GoodMay_c1.fc x)) ?_
 rw [a1]
 cases m.reg.all gS with
 | false=>simp only [go_sem,e1,e2,e3,e4]
 | true =>
  simp only [go_sem,e1,e2,e3,e4]
  refine fcW_bool (slices_ContainsFunc__sStretch_Stretch.fc m.cell F_impl_GoodMay_c1 [] (fun x=>!gS x) (by omega) (fun x _=>impl_GoodMay_c1.fc x)) ?_
  rw [a2]
  cases m.cell.all gS with
  | false=>simp only [go_sem,e1,e2,e3,e4]
  | true =>
   simp only [go_sem,e1,e2,e3,e4]
   refine fcW_bool (slices_ContainsFunc__sKnown_Known.fc m.bits F_impl_GoodMay_c2 [] (fun x=>!gK x) (by omega) (fun x _=>impl_GoodMay_c2.fc x)) ?_
   rw [a3]
   cases m.bits.all gK<;>simp only [go_sem,e1,e2,e3,e4]
theorem spec_GoodMay.fc (m:MayD) (h:wMay m≤4194304):FCt prog F_spec_GoodMay [.ro] [m.d] (Bb (goodMay m)) []:=by
 refine fct_run spec_GoodMay.ok rfl ?_
 have h:=h
 unfold wMay at h
 have f1:m.reg.all gS=false→goodMay m=false:=fun e=>by simp only [goodMay,e,Bool.and_false,Bool.false_and]
 have f2:m.bits.all gK=false→goodMay m=false:=fun e=>by simp only [goodMay,e,Bool.and_false]
 have f3:m.cell.all gS=false→goodMay m=false:=fun e=>by simp only [goodMay,e,Bool.and_false,Bool.false_and]
 simp only [go_sem]
 refine R_loop (α:=Nat) (fun k s' M'=>k≤m.reg.length∧s' 12=aI k∧(m.reg.take k).all gS=true∧M'.m 64=some (.box 0 (.dat none m.d))) (fun k=>m.reg.length - k) 0 ⟨by omega,by simp only [go_sem];rfl,by simp,by simp only [go_sem]⟩ ?_
 rintro k s' M' ⟨hk,h12,hr0,hm⟩ ho
 unfold spec_GoodMay.b0
 have j1:s' 1=.ptr 64 0 0 none:=by rw [ho 1 rfl];simp only [go_sem]
 have j10:s' 10=.dat none (strs m.reg):=by rw [ho 10 rfl];simp only [go_sem]
 have j11:s' 11=aI m.reg.length:=by rw [ho 11 rfl];simp only [go_sem]
 clear ho
 by_cases hlt:k < m.reg.length
 · have hi':(k:Int) < m.reg.length:=by omega
   have ga:m.reg[k]? = some m.reg[k]:=List.getElem?_eq_getElem hlt
   have hw:IntKind.i64.wrap (k+1)=((k+1:Nat):Int):=wrap_k hlt (by omega)
   simp only [go_sem,hi',ga,j1,j10,j11,h12,hm]
   refine fcW_bool (spec_GoodStretch.fc m.reg[k].1 m.reg[k].2) ?_
   cases hc:goodS m.reg[k].1 m.reg[k].2 with
   | false=>simp only [go_sem,f1 (not_all hlt hc),j1,j10,j11,h12,hm]
   | true =>
    simp only [go_sem,hw,j1,j10,j11,h12,hm]
    exact ⟨k+1,by dsimp only;omega,by omega,by simp only [go_sem,j1,j10,j11,h12,hm],all_take hlt hr0 hc,by simp only [go_sem,j1,j10,j11,h12,hm]⟩
 have hi':¬ (k:Int) < m.reg.length:=by omega
 obtain rfl:k=m.reg.length:=by omega
 rw [List.take_length] at hr0
 simp only [go_sem,hi',j1,j10,j11,h12,hm]
 refine R_loop (α:=Nat) (fun k s' M'=>k≤m.bits.length∧s' 23=aI k∧(m.bits.take k).all gK=true∧M'.m 64=some (.box 0 (.dat none m.d))) (fun k=>m.bits.length - k) 0 ⟨by omega,by simp only [go_sem,j1,j10,j11,h12,hm];rfl,by simp,by simp only [go_sem,j1,j10,j11,h12,hm]⟩ ?_
 rintro k s2 M' ⟨hk,h12,hr1,hm⟩ ho
 unfold spec_GoodMay.b1
 have g1:s2 1=.ptr 64 0 0 none:=by rw [ho 1 rfl];simp only [go_sem,j1,j10,j11,h12,hm]
 have g21:s2 21=.dat none (knowns m.bits):=by rw [ho 21 rfl];simp only [go_sem,j1,j10,j11,h12,hm]
 have g22:s2 22=aI m.bits.length:=by rw [ho 22 rfl];simp only [go_sem,j1,j10,j11,h12,hm]
 clear ho
 by_cases hlt:k < m.bits.length
 · have hi':(k:Int) < m.bits.length:=by omega
   have ga:m.bits[k]? = some m.bits[k]:=List.getElem?_eq_getElem hlt
   have hw:IntKind.i64.wrap (k+1)=((k+1:Nat):Int):=wrap_k hlt (by omega)
   simp only [go_sem,hi',ga,j1,j10,j11,h12,hm,g1,g21,g22,h12,hm]
   refine fcW_bool (spec_GoodKnown.fc m.bits[k].1 m.bits[k].2) ?_
   cases hc:goodK m.bits[k].1 m.bits[k].2 with
   | false=>simp only [go_sem,f2 (not_all hlt hc),j1,j10,j11,h12,hm,g1,g21,g22,h12,hm]
   | true =>
    simp only [go_sem,hw,j1,j10,j11,h12,hm,g1,g21,g22,h12,hm]
    exact ⟨k+1,by dsimp only;omega,by omega,by simp only [go_sem,j1,j10,j11,h12,hm,g1,g21,g22,h12,hm],all_take hlt hr1 hc,by simp only [go_sem,j1,j10,j11,h12,hm,g1,g21,g22,h12,hm]⟩
 have hi':¬ (k:Int) < m.bits.length:=by omega
 obtain rfl:k=m.bits.length:=by omega
 rw [List.take_length] at hr1
 simp only [go_sem,hi',j1,j10,j11,h12,hm,g1,g21,g22,h12,hm]
 refine R_loop (α:=Nat) (fun k s' M'=>k≤m.cell.length∧s' 34=aI k∧(m.cell.take k).all gS=true∧M'.m 64=some (.box 0 (.dat none m.d))) (fun k=>m.cell.length - k) 0 ⟨by omega,by simp only [go_sem,j1,j10,j11,h12,hm,g1,g21,g22,h12,hm];rfl,by simp,by simp only [go_sem,j1,j10,j11,h12,hm,g1,g21,g22,h12,hm]⟩ ?_
 rintro k s3 M' ⟨hk,h12,hr2,hm⟩ ho
 unfold spec_GoodMay.b2
 have k1:s3 1=.ptr 64 0 0 none:=by rw [ho 1 rfl];simp only [go_sem,j1,j10,j11,h12,hm,g1,g21,g22,h12,hm]
 have k32:s3 32=.dat none (strs m.cell):=by rw [ho 32 rfl];simp only [go_sem,j1,j10,j11,h12,hm,g1,g21,g22,h12,hm]
 have k33:s3 33=aI m.cell.length:=by rw [ho 33 rfl];simp only [go_sem,j1,j10,j11,h12,hm,g1,g21,g22,h12,hm]
 clear ho
 by_cases hlt:k < m.cell.length
 · have hi':(k:Int) < m.cell.length:=by omega
   have ga:m.cell[k]? = some m.cell[k]:=List.getElem?_eq_getElem hlt
   have hw:IntKind.i64.wrap (k+1)=((k+1:Nat):Int):=wrap_k hlt (by omega)
   simp only [go_sem,hi',ga,j1,j10,j11,h12,hm,g1,g21,g22,h12,hm,k1,k32,k33,h12,hm]
   refine fcW_bool (spec_GoodStretch.fc m.cell[k].1 m.cell[k].2) ?_
   cases hc:goodS m.cell[k].1 m.cell[k].2 with
   | false=>simp only [go_sem,f3 (not_all hlt hc),j1,j10,j11,h12,hm,g1,g21,g22,h12,hm,k1,k32,k33,h12,hm]
   | true =>
    simp only [go_sem,hw,j1,j10,j11,h12,hm,g1,g21,g22,h12,hm,k1,k32,k33,h12,hm]
    exact ⟨k+1,by dsimp only;omega,by omega,by simp only [go_sem,j1,j10,j11,h12,hm,g1,g21,g22,h12,hm,k1,k32,k33,h12,hm],all_take hlt hr2 hc,by simp only [go_sem,j1,j10,j11,h12,hm,g1,g21,g22,h12,hm,k1,k32,k33,h12,hm]⟩
 have hi':¬ (k:Int) < m.cell.length:=by omega
 obtain rfl:k=m.cell.length:=by omega
 rw [List.take_length] at hr2
 simp only [go_sem,hi',j1,j10,j11,h12,hm,g1,g21,g22,h12,hm,k1,k32,k33,h12,hm]
 have e1:((m.reg.length:Int) == 6)=decide (m.reg.length=6):=eq_dec (b:=6)
 have e2:((m.bits.length:Int) == 6)=decide (m.bits.length=6):=eq_dec (b:=6)
 have e3:((m.cell.length:Int) == 16)=decide (m.cell.length=16):=eq_dec (b:=16)
 have e4:((m.isset.length:Int) == 16)=decide (m.isset.length=16):=eq_dec (b:=16)
 unfold goodMay
 rw [hr0,hr1,hr2,← e1,← e2,← e3,← e4]
 cases b1:((m.reg.length:Int) == 6) with
 | false=>simp only [go_sem,b1,j1,j10,j11,h12,hm,g1,g21,g22,h12,hm,k1,k32,k33,h12,hm]
 | true =>
  cases b2:((m.bits.length:Int) == 6) with
  | false=>simp only [go_sem,b1,b2,j1,j10,j11,h12,hm,g1,g21,g22,h12,hm,k1,k32,k33,h12,hm]
  | true =>
   cases b3:((m.cell.length:Int) == 16) with
   | false=>simp only [go_sem,b1,b2,b3,j1,j10,j11,h12,hm,g1,g21,g22,h12,hm,k1,k32,k33,h12,hm]
   | true=>simp only [go_sem,b1,b2,b3,j1,j10,j11,h12,hm,g1,g21,g22,h12,hm,k1,k32,k33,h12,hm]
theorem impl_allWords.fc:FCt prog F_impl_allWords [] [] (pr 0 65535) []:=by
 refine fct_run impl_allWords.ok rfl ?_
 simp only [go_sem]
theorem spec_l9All.fc:FCt prog F_spec_l9All [] [] (pr 0 65535) []:=by
 refine fct_run spec_l9All.ok rfl ?_
 simp only [go_sem]
theorem spec_l13Const.fc (n:Int):FCt prog F_spec_l13Const [.ro] [Ii n] (.tup [pr n n,pr n 0]) []:=by
 refine fct_run spec_l13Const.ok rfl ?_
 simp only [go_sem]
def startM:MayD:={ reg:=List.replicate 6 (0,0),bits:=List.replicate 6 (0,0),cell:=List.replicate 16 (0,65535),isset:=List.replicate 16 false }
theorem rep_succ {α:Type} {k:Nat} {z:α}:List.replicate k z++[z]=List.replicate (k+1) z:=List.replicate_succ'.symm
theorem rep_take {α:Type} {k:Nat} {z:α}:(List.replicate k z).take k=List.replicate k z:=List.take_of_length_le (by simp)
theorem spec_StartMay.fc:FCt prog F_spec_StartMay [] [] startM.d []:=by
 refine fct_run spec_StartMay.ok rfl ?_
 have c6:((6:Nat):Int)=6:=rfl
 have c16:((16:Nat):Int)=16:=rfl
 simp only [go_sem]
 refine R_loop (α:=Nat) (fun k s' M'=>k≤6∧s' 2=aI k∧∃ w v0 v1 w0,M'.m 128=some (.box w (.agg [if k=0 then .nil 2 else .sl 1152 v0 0 k 2,if k=0 then .nil 2 else .sl 1600 v1 0 k 2,.nil 2,.nil 1]))∧s' 1=.ptr 128 w 0 none∧M'.m 64=some (.box w0 (.agg [.nil 2,.nil 2,.nil 2,.nil 1]))∧s' 0=.ptr 64 w0 0 none ∧
  (k≠0→M'.m 1152=some (.arr v0 true 2 (List.replicate k (strD (0,0))))∧M'.m 1600=some (.arr v1 true 2 (List.replicate k (strD (0,0)))))) (fun k=>6 - k) 0
  ⟨by omega,by simp only [go_sem];rfl,_,0,0,_,by rw [if_pos rfl,if_pos rfl];simp only [go_sem];rfl,by simp only [go_sem],by simp only [go_sem];rfl,by simp only [go_sem],fun h=>absurd rfl h⟩ ?_
 rintro k s' M' ⟨hk,h2,w,v0,v1,w0,hm,h1,hm0,h0,hq⟩ ho
 clear ho
 unfold spec_StartMay.b0
 by_cases hlt:k < 6
 · have hi':(k:Int) < 6:=by omega
   have hw:IntKind.i64.wrap (k+1)=((k+1:Nat):Int):=by rw [wrap_in (by omega) (by omega)];omega
   have hb:(k+1) * 16≤70368744177664:=by omega
   simp only [go_sem,hi',h2,hm,h1,hm0,h0]
   refine fcW_bd (spec_l13Const.fc 0) rfl ?_
   by_cases hk0:k=0
   · subst hk0
     rw [if_pos rfl,if_pos rfl] at hm
     simp only [go_sem,hw,h2,hm,h1,hm0,h0]
     refine ⟨1,by dsimp only;omega,by omega,by simp only [go_sem,h2,hm,h1,hm0,h0];try rfl,w,_,_,w0,by rw [if_neg (Nat.succ_ne_zero 0),if_neg (Nat.succ_ne_zero 0)];simp only [go_sem,h2,hm,h1,hm0,h0];rfl,by simp only [go_sem,h2,hm,h1,hm0,h0],by simp only [go_sem,h2,hm,h1,hm0,h0],by simp only [go_sem,h2,hm,h1,hm0,h0],fun _=>⟨by simp only [go_sem,h2,hm,h1,hm0,h0];rfl,by simp only [go_sem,h2,hm,h1,hm0,h0];rfl⟩⟩
   · rw [if_neg hk0,if_neg hk0] at hm
     obtain ⟨q0,q1⟩:=hq hk0
     simp only [go_sem,hw,q0,q1,List.length_replicate,Nat.le_refl,hb,rep_take,rep_succ,h2,hm,h1,hm0,h0]
     refine ⟨k+1,by dsimp only;omega,by omega,by simp only [go_sem,h2,hm,h1,hm0,h0],w,_,_,w0,by rw [if_neg (Nat.succ_ne_zero k),if_neg (Nat.succ_ne_zero k)];simp only [go_sem,h2,hm,h1,hm0,h0];rfl,by simp only [go_sem,h2,hm,h1,hm0,h0],by simp only [go_sem,h2,hm,h1,hm0,h0],by simp only [go_sem,h2,hm,h1,hm0,h0],fun _=>⟨by simp only [go_sem,h2,hm,h1,hm0,h0];try exact congrArg (fun z=>some (Obj.arr _ true 2 z)) rep_succ,by simp only [go_sem,h2,hm,h1,hm0,h0];try exact congrArg (fun z=>some (Obj.arr _ true 2 z)) rep_succ⟩⟩
 obtain rfl:k=6:=by omega
 obtain ⟨q0,q1⟩:=hq (by omega)
 rw [if_neg (by omega),if_neg (by omega)] at hm
 simp only [go_sem,c6,h2,hm,h1,hm0,h0]
 refine R_loop (α:=Nat) (fun k s' M'=>k≤16∧s' 5=aI k∧(∃ w v2 v3 w0,M'.m 128=some (.box w (.agg [.sl 1152 v0 0 6 2,.sl 1600 v1 0 6 2,if k=0 then .nil 2 else .sl 2432 v2 0 k 2,if k=0 then .nil 1 else .sl 2816 v3 0 k 1]))∧s' 1=.ptr 128 w 0 none∧M'.m 64=some (.box w0 (.agg [.nil 2,.nil 2,.nil 2,.nil 1]))∧s' 0=.ptr 64 w0 0 none ∧
  (k≠0→M'.m 2432=some (.arr v2 true 2 (List.replicate k (strD (0,65535))))∧M'.m 2816=some (.arr v3 true 1 (List.replicate k (Bb false)))))∧M'.m 1152=some (.arr v0 true 2 (List.replicate 6 (strD (0,0))))∧M'.m 1600=some (.arr v1 true 2 (List.replicate 6 (strD (0,0))))) (fun k=>16 - k) 0
  ⟨by omega,by simp only [go_sem,h2,hm,h1,hm0,h0];rfl,⟨_,0,0,_,by rw [if_pos rfl,if_pos rfl];simp only [go_sem,h2,hm,h1,hm0,h0];rfl,by simp only [go_sem,h2,hm,h1,hm0,h0],by simp only [go_sem,h2,hm,h1,hm0,h0];rfl,by simp only [go_sem,h2,hm,h1,hm0,h0],fun h=>absurd rfl h⟩,by simp only [go_sem,q0,h2,hm,h1,hm0,h0],by simp only [go_sem,q1,h2,hm,h1,hm0,h0]⟩ ?_
 clear hm h1 hm0 h0 hq q0 q1
 rintro k s2 M2 ⟨hk,h5,⟨w,v2,v3,w0,hm,h1,hm0,h0,hq⟩,p0,p1⟩ ho
 clear ho
 unfold spec_StartMay.b1
 by_cases hlt:k < 16
 · have hi':(k:Int) < 16:=by omega
   have hw:IntKind.i64.wrap (k+1)=((k+1:Nat):Int):=by rw [wrap_in (by omega) (by omega)];omega
   have hb:(k+1) * 16≤70368744177664:=by omega
   have hb1:(k+1) * 1≤70368744177664:=by omega
   by_cases hk0:k=0
   · subst hk0
     rw [if_pos rfl,if_pos rfl] at hm
     simp only [go_sem,hi',h2,hm,h1,hm0,h0,h5,hm,h1,hm0,h0,p0,p1]
     refine fcW_bd spec_l9All.fc rfl ?_
     simp only [go_sem,hw,h2,hm,h1,hm0,h0,h5,hm,h1,hm0,h0,p0,p1]
     refine ⟨1,by dsimp only;omega,by omega,by simp only [go_sem,h2,hm,h1,hm0,h0,h5,hm,h1,hm0,h0,p0,p1];try rfl,⟨w,_,_,w0,by rw [if_neg (Nat.succ_ne_zero 0),if_neg (Nat.succ_ne_zero 0)];simp only [go_sem,h2,hm,h1,hm0,h0,h5,hm,h1,hm0,h0,p0,p1];rfl,by simp only [go_sem,h2,hm,h1,hm0,h0,h5,hm,h1,hm0,h0,p0,p1],by simp only [go_sem,h2,hm,h1,hm0,h0,h5,hm,h1,hm0,h0,p0,p1],by simp only [go_sem,h2,hm,h1,hm0,h0,h5,hm,h1,hm0,h0,p0,p1],fun _=>⟨by simp only [go_sem,h2,hm,h1,hm0,h0,h5,hm,h1,hm0,h0,p0,p1];rfl,by simp only [go_sem,h2,hm,h1,hm0,h0,h5,hm,h1,hm0,h0,p0,p1];rfl⟩⟩,by simp only [go_sem,h2,hm,h1,hm0,h0,h5,hm,h1,hm0,h0,p0,p1],by simp only [go_sem,h2,hm,h1,hm0,h0,h5,hm,h1,hm0,h0,p0,p1]⟩
   · rw [if_neg hk0,if_neg hk0] at hm
     obtain ⟨q2,q3⟩:=hq hk0
     simp only [go_sem,hi',q2,q3,h2,hm,h1,hm0,h0,h5,hm,h1,hm0,h0,p0,p1]
     refine fcW_bd spec_l9All.fc rfl ?_
     simp only [go_sem,hw,q2,q3,List.length_replicate,Nat.le_refl,hb,hb1,rep_take,rep_succ,h2,hm,h1,hm0,h0,h5,hm,h1,hm0,h0,p0,p1]
     refine ⟨k+1,by dsimp only;omega,by omega,by simp only [go_sem,h2,hm,h1,hm0,h0,h5,hm,h1,hm0,h0,p0,p1],⟨w,_,_,w0,by rw [if_neg (Nat.succ_ne_zero k),if_neg (Nat.succ_ne_zero k)];simp only [go_sem,h2,hm,h1,hm0,h0,h5,hm,h1,hm0,h0,p0,p1];rfl,by simp only [go_sem,h2,hm,h1,hm0,h0,h5,hm,h1,hm0,h0,p0,p1],by simp only [go_sem,h2,hm,h1,hm0,h0,h5,hm,h1,hm0,h0,p0,p1],by simp only [go_sem,h2,hm,h1,hm0,h0,h5,hm,h1,hm0,h0,p0,p1],fun _=>⟨by simp only [go_sem,h2,hm,h1,hm0,h0,h5,hm,h1,hm0,h0,p0,p1];try exact congrArg (fun z=>some (Obj.arr _ true 2 z)) rep_succ,by simp only [go_sem,h2,hm,h1,hm0,h0,h5,hm,h1,hm0,h0,p0,p1];try exact congrArg (fun z=>some (Obj.arr _ true 1 z)) rep_succ⟩⟩,by simp only [go_sem,h2,hm,h1,hm0,h0,h5,hm,h1,hm0,h0,p0,p1],by simp only [go_sem,h2,hm,h1,hm0,h0,h5,hm,h1,hm0,h0,p0,p1]⟩
 obtain rfl:k=16:=by omega
 obtain ⟨q2,q3⟩:=hq (by omega)
 rw [if_neg (by omega),if_neg (by omega)] at hm
 simp only [go_sem,c16,q2,q3,List.length_replicate,Nat.le_refl,h2,hm,h1,hm0,h0,h5,hm,h1,hm0,h0,p0,p1]
 rfl
structure MachD where
 pc:Int
 regs:List Int
 cells:List Int
 isset:List Bool
 deriving DecidableEq
abbrev MachD.d (x:MachD):D:=.agg [Ii x.pc,ints x.regs,ints x.cells,bools x.isset]
structure MachOk (m:MachD):Prop where
 pc:0≤m.pc∧m.pc≤19
 regs:m.regs.length=6
 cells:m.cells.length=16
 isset:m.isset.length=16
 wr:∀ x∈m.regs,0≤x∧x≤65535
 wc:∀ x∈m.cells,0≤x∧x≤65535
theorem getD_get {α:Type} {l:List α} {i:Nat} {d:α} (h:i < l.length):l.getD i d=l[i]:=by rw [List.getD_eq_getElem?_getD,List.getElem?_eq_getElem h];rfl
def orI (a b:Int):Int:=IntKind.i64.wrap (BitVec.ofInt IntKind.i64.bits a ||| BitVec.ofInt IntKind.i64.bits b).toNat
def xorI (a b:Int):Int:=IntKind.i64.wrap (BitVec.ofInt IntKind.i64.bits a ^^^ BitVec.ofInt IntKind.i64.bits b).toNat
def nn (a:Int):Prop:=0≤a∧a < 9223372036854775808
theorem bv_nn {a:Int} (h:nn a):(BitVec.ofInt IntKind.i64.bits a).toNat=a.toNat:=by
 obtain ⟨h1,h2⟩:=h
 show (BitVec.ofInt 64 a).toNat=a.toNat
 rw [BitVec.toNat_ofInt]
 omega
theorem wrap_nat {n:Nat} (h:n < 9223372036854775808):IntKind.i64.wrap (n:Int)=n:=wrap_in (by omega) (by omega)
theorem toN_lt {a:Int} (h:nn a):a.toNat < 2 ^ 63:=by obtain ⟨h1,h2⟩:=h;omega
theorem andI_nat {a b:Int} (ha:nn a) (hb:nn b):andI a b=((a.toNat &&& b.toNat:Nat):Int):=by
 unfold andI
 rw [BitVec.toNat_and,bv_nn ha,bv_nn hb]
 exact wrap_nat (Nat.lt_of_le_of_lt Nat.and_le_left (toN_lt ha))
theorem andNot_n {a b:Nat} (ha:a < 2 ^ 64):(BitVec.ofNat 64 a &&& ~~~BitVec.ofNat 64 b).toNat=a ^^^ (a &&& b):=by
 apply Nat.eq_of_testBit_eq
 intro i
 rw [BitVec.testBit_toNat,BitVec.getLsbD_and,BitVec.getLsbD_not,BitVec.getLsbD_ofNat,BitVec.getLsbD_ofNat,Nat.testBit_xor,Nat.testBit_and]
 by_cases h:i < 64
 · simp only [h,decide_true,Bool.true_and]
   cases a.testBit i<;>cases b.testBit i<;>rfl
 · have:a.testBit i=false:=Nat.testBit_lt_two_pow (Nat.lt_of_lt_of_le ha (Nat.pow_le_pow_right (by omega) (by omega)))
   simp [h,this]
theorem bvI_nn {a:Int} (h:nn a):BitVec.ofInt IntKind.i64.bits a=BitVec.ofNat 64 a.toNat:=by
 apply BitVec.eq_of_toNat_eq
 rw [bv_nn h]
 show _=(BitVec.ofNat 64 a.toNat).toNat
 rw [BitVec.toNat_ofNat]
 obtain ⟨h1,h2⟩:=h
 omega
theorem andNotI_nat {a b:Int} (ha:nn a) (hb:nn b):andNotI a b=((a.toNat ^^^ (a.toNat &&& b.toNat):Nat):Int):=by
 unfold andNotI
 rw [bvI_nn ha,bvI_nn hb]
 have:=andNot_n (a:=a.toNat) (b:=b.toNat) (by have:=toN_lt ha;omega)
 refine (congrArg (fun z:Nat=>IntKind.i64.wrap (z:Int)) this).trans ?_
 exact wrap_nat (Nat.xor_lt_two_pow (toN_lt ha) (Nat.lt_of_le_of_lt Nat.and_le_left (toN_lt ha)))
def wd (a:Int):Prop:=0≤a∧a≤65535
theorem wd.nn {a:Int} (h:wd a):nn a:=⟨h.1,by have:=h.2;omega⟩
theorem wd.lt {a:Int} (h:wd a):a.toNat < 2 ^ 16:=by obtain ⟨h1,h2⟩:=h;omega
theorem wd_iff {a:Int}:inB a 0 65535=true↔wd a:=by simp only [inB,wd,Bool.and_eq_true,decide_eq_true_eq]
theorem andI_mask (n:Int):andI n 65535=n % 65536:=by
 unfold andI
 have e:(BitVec.ofInt IntKind.i64.bits n &&& BitVec.ofInt IntKind.i64.bits 65535).toNat=(n % 65536).toNat:=by
  rw [BitVec.toNat_and,bv_nn (a:=65535) ⟨by decide,by decide⟩]
  show (BitVec.ofInt 64 n).toNat &&& 65535=_
  rw [show (65535:Nat)=2 ^ 16 - 1 from rfl,Nat.and_two_pow_sub_one_eq_mod,BitVec.toNat_ofInt]
  omega
 rw [e,wrap_in (by omega) (by omega)]
 omega
theorem emod_wd (n:Int):wd (n % 65536):=⟨by omega,by omega⟩
theorem tmod_cases (n:Int):Int.tmod n 65536=n % 65536∨Int.tmod n 65536=n % 65536 - 65536:=by
 rcases Int.le_total 0 n with h|h
 · exact .inl (Int.tmod_eq_emod_of_nonneg h)
 · obtain ⟨m,rfl⟩:∃ m:Int,n = -m:=⟨-n,by omega⟩
   have:Int.tmod m 65536=m % 65536:=Int.tmod_eq_emod_of_nonneg (by omega)
   rw [Int.neg_tmod,this]
   omega
theorem wrap_ref {n:Int}:Int.tmod (IntKind.i64.wrap (Int.tmod n 65536+65536)) 65536=n % 65536:=by
 have h0:=tmod_cases n
 rw [wrap_in (x:=Int.tmod n 65536+65536) (by omega) (by omega),Int.tmod_eq_emod_of_nonneg (by omega)]
 omega
abbrev bI (a:Int):BitVec 64:=BitVec.ofInt 64 a
theorem wrap_bv (x:BitVec 64):IntKind.i64.wrap (x.toNat:Int)=x.toInt:=by
 rw [BitVec.toInt_eq_toNat_bmod]
 simp [IntKind.wrap,IntKind.signed,IntKind.bits,Int.bmod]
 have:=x.isLt
 split<;>split<;>omega
theorem andI_bv (a b:Int):andI a b=(bI a &&& bI b).toInt:=wrap_bv _
theorem orI_bv (a b:Int):orI a b=(bI a ||| bI b).toInt:=wrap_bv _
theorem xorI_bv (a b:Int):xorI a b=(bI a ^^^ bI b).toInt:=wrap_bv _
theorem andNotI_bv (a b:Int):andNotI a b=(bI a &&& ~~~bI b).toInt:=wrap_bv _
theorem bI_toInt (x:BitVec 64):bI x.toInt=x:=BitVec.ofInt_toInt
theorem bI_mask {i:Nat}:(bI 65535).getLsbD i=decide (i < 16):=by
 rw [show bI 65535=BitVec.ofNat 64 (2 ^ 16 - 1) from rfl,BitVec.getLsbD_ofNat,Nat.testBit_two_pow_sub_one]
 by_cases h:i < 16
 · have:i < 64:=by omega
   simp [h,this]
 · simp [h]
theorem bI_zero {i:Nat}:(bI 0).getLsbD i=false:=by rw [show bI 0=0#64 from rfl];simp
theorem bI_wd {a:Int} (h:wd a) {i:Nat} (hi:16≤i):(bI a).getLsbD i=false:=by
 rw [show bI a=BitVec.ofNat 64 a.toNat from bvI_nn h.nn,BitVec.getLsbD_ofNat]
 have:a.toNat.testBit i=false:=Nat.testBit_lt_two_pow (Nat.lt_of_lt_of_le h.lt (Nat.pow_le_pow_right (by omega) hi))
 simp [this]
theorem bI_inj {a b:Int} (ha:wd a) (hb:wd b) (h:bI a=bI b):a=b:=by
 have:(bI a).toNat=(bI b).toNat:=by rw [h]
 rw [show (bI a).toNat=a.toNat from bv_nn ha.nn,show (bI b).toNat=b.toNat from bv_nn hb.nn] at this
 have:=ha.1;have:=hb.1
 omega
theorem andI_zero {a b:Int} (h:andI a b=0):bI a &&& bI b=0#64:=by
 rw [andI_bv] at h
 have:bI (bI a &&& bI b).toInt=bI 0:=by rw [h]
 rw [bI_toInt] at this;exact this
theorem disj {a b:Int} (h:andI a b=0) (i:Nat):((bI a).getLsbD i&&(bI b).getLsbD i)=false:=by
 rw [← BitVec.getLsbD_and,andI_zero h];simp
theorem wd_of_bits {x:BitVec 64} (h:∀ i,16≤i→x.getLsbD i=false):wd x.toInt:=by
 have hl:x.toNat < 2 ^ 16:=by
  refine Nat.lt_pow_two_of_testBit _ fun i hi=>?_
  rw [← BitVec.getLsbD];exact h i hi
 rw [BitVec.toInt_eq_toNat_of_lt (by omega)]
 exact ⟨by omega,by omega⟩
theorem andI_wd {a b:Int} (h:wd a):wd (andI a b):=by
 rw [andI_bv];exact wd_of_bits fun i hi=>by rw [BitVec.getLsbD_and,bI_wd h hi,Bool.false_and]
theorem andNotI_wd {a b:Int} (h:wd a):wd (andNotI a b):=by
 rw [andNotI_bv];exact wd_of_bits fun i hi=>by rw [BitVec.getLsbD_and,bI_wd h hi,Bool.false_and]
theorem orI_wd {a b:Int} (h:wd a) (h2:wd b):wd (orI a b):=by
 rw [orI_bv];exact wd_of_bits fun i hi=>by rw [BitVec.getLsbD_or,bI_wd h hi,bI_wd h2 hi,Bool.false_or]
theorem xorI_wd {a b:Int} (h:wd a) (h2:wd b):wd (xorI a b):=by
 rw [xorI_bv];exact wd_of_bits fun i hi=>by rw [BitVec.getLsbD_xor,bI_wd h hi,bI_wd h2 hi];rfl
theorem cdW_not {A B:Prop} {t:Bool} (h1:t=false→A) (h2:t=true→B):@cdW (some (!t)) ⟨A⟩ ⟨B⟩:=by
 cases t
 · exact h1 rfl
 · exact h2 rfl
theorem gdW_not {A B:Prop} {t b:Bool} (h1:t = !b→A) (h2:t=b→B):@gdW (some (some (!t))) b ⟨A⟩ ⟨B⟩:=by
 cases t<;>cases b
 · exact h2 rfl
 · exact h1 rfl
 · exact h1 rfl
 · exact h2 rfl
theorem impl_WordOf.fc (n:Int):FCt prog F_impl_WordOf [.ro] [Ii n] (Ii (n % 65536)) []:=by
 refine fct_run impl_WordOf.ok rfl ?_
 rw [← andI_mask]
 unfold andI
 simp only [go_sem]
theorem spec_l1Wrap.fc (n:Int):FCt prog F_spec_l1Wrap [.ro] [Ii n] (Ii (n % 65536)) []:=by
 refine fct_run spec_l1Wrap.ok rfl ?_
 simp only [go_sem,Int.reduceEq]
 rw [wrap_ref]
def doI (op a b:Int):Int :=
 if op == 1 then IntKind.i64.wrap (a+b) % 65536 else if op == 2 then IntKind.i64.wrap (a - b) % 65536 else if op == 3 then IntKind.i64.wrap (a * b) % 65536
 else if op == 4 then (if b == 0 then 0 else IntKind.i64.wrap (Int.tdiv a b)) else if op == 5 then (if b == 0 then a else Int.tmod a b)
 else if op == 6 then andI a b else if op == 7 then orI a b else if op == 8 then xorI a b
 else if op == 9 then IntKind.i64.wrap (a * 2 ^ min (Int.tmod b 16).toNat IntKind.i64.bits) % 65536 else Int.fdiv a (2 ^ min (Int.tmod b 16).toNat IntKind.i64.bits)
theorem tmod16 {b:Int} (hb:0≤b):0≤Int.tmod b 16∧Int.tmod b 16 < 16:=by
 rw [Int.tmod_eq_emod_of_nonneg hb];omega
theorem wrap_u64 {n:Int} (h:0≤n) (h2:n < 18446744073709551616):IntKind.u64.wrap n=n:=by
 simp [IntKind.wrap,IntKind.signed,IntKind.bits];omega
theorem impl_do.fc (op a b:Int) (hb:0≤b):FCt prog F_impl_do [.ro,.ro,.ro] [Ii op,Ii a,Ii b] (Ii (doI op a b)) []:=by
 refine fct_run impl_do.ok rfl ?_
 have h1:¬ Int.tmod b 16 < 0:=by have:=(tmod16 hb).1;omega
 unfold doI andI orI xorI
 have h2:b=0∨b≠0:=by omega
 have h3:(b == 0)=decide (b=0):=by by_cases h:b=0<;>simp [h]
 rcases h2 with h2|h2
 · subst h2
   repeat' (first|with_reducible rfl|refine fcW_int (impl_WordOf.fc ..) ?_|with_reducible refine cdW_dec (fun _=>?_) (fun _=>?_)|refine cdW_not (fun _=>?_) (fun _=>?_)|refine cdW_any (fun _=>?_) (fun _=>?_)|with_reducible refine gdW_decT (fun _=>?_) (fun _=>?_)|with_reducible refine gdW_decF (fun _=>?_) (fun _=>?_)|refine gdW_not (fun _=>?_) (fun _=>?_)|refine gdW_any (fun _=>?_) (fun _=>?_)|simp only [go_sem,bne,iQ,iB,iX,Int.reduceLE,iN,iA,iS,iM,iQ, *]|rfl)
 · repeat' (first|with_reducible rfl|refine fcW_int (impl_WordOf.fc ..) ?_|with_reducible refine cdW_dec (fun _=>?_) (fun _=>?_)|refine cdW_not (fun _=>?_) (fun _=>?_)|refine cdW_any (fun _=>?_) (fun _=>?_)|with_reducible refine gdW_decT (fun _=>?_) (fun _=>?_)|with_reducible refine gdW_decF (fun _=>?_) (fun _=>?_)|refine gdW_not (fun _=>?_) (fun _=>?_)|refine gdW_any (fun _=>?_) (fun _=>?_)|simp only [go_sem,bne,iQ,iB,iX,Int.reduceLE,iN,iA,iS,iM,iQ,decide_false, *]|rfl)
theorem spec_l1Do.fc (op a b:Int) (hb:0≤b):FCt prog F_spec_l1Do [.ro,.ro,.ro] [Ii op,Ii a,Ii b] (Ii (doI op a b)) []:=by
 refine fct_run spec_l1Do.ok rfl ?_
 have h1:¬ Int.tmod b 16 < 0:=by have:=(tmod16 hb).1;omega
 have h4:IntKind.u64.wrap (Int.tmod b 16)=Int.tmod b 16:=wrap_u64 (tmod16 hb).1 (by have:=(tmod16 hb).2;omega)
 unfold doI andI orI xorI
 have h2:b=0∨b≠0:=by omega
 have h3:(b == 0)=decide (b=0):=by by_cases h:b=0<;>simp [h]
 rcases h2 with h2|h2
 · subst h2
   repeat' (first|with_reducible rfl|refine fcW_int (spec_l1Wrap.fc ..) ?_|with_reducible refine cdW_dec (fun _=>?_) (fun _=>?_)|refine cdW_not (fun _=>?_) (fun _=>?_)|refine cdW_any (fun _=>?_) (fun _=>?_)|with_reducible refine gdW_decT (fun _=>?_) (fun _=>?_)|with_reducible refine gdW_decF (fun _=>?_) (fun _=>?_)|refine gdW_not (fun _=>?_) (fun _=>?_)|refine gdW_any (fun _=>?_) (fun _=>?_)|simp only [go_sem,bne,iQ,iB,iX,Int.reduceLE,iN,iA,iS,iM,iQ, *]|rfl)
 · repeat' (first|with_reducible rfl|refine fcW_int (spec_l1Wrap.fc ..) ?_|with_reducible refine cdW_dec (fun _=>?_) (fun _=>?_)|refine cdW_not (fun _=>?_) (fun _=>?_)|refine cdW_any (fun _=>?_) (fun _=>?_)|with_reducible refine gdW_decT (fun _=>?_) (fun _=>?_)|with_reducible refine gdW_decF (fun _=>?_) (fun _=>?_)|refine gdW_not (fun _=>?_) (fun _=>?_)|refine gdW_any (fun _=>?_) (fun _=>?_)|simp only [go_sem,bne,iQ,iB,iX,Int.reduceLE,iN,iA,iS,iM,iQ,decide_false, *]|rfl)
def mnI (a b:Int):Int:=if b < a then b else a
def mxI (a b:Int):Int:=if b > a then b else a
def endsI (lo hi:Int):Int×Int:=if lo / 65536 != hi / 65536 then (0,65535) else (lo % 65536,hi % 65536)
theorem shr16 (n:Int):Int.fdiv n (2 ^ min 16 64)=n / 65536:=by
 rw [show (2:Int) ^ min 16 64=65536 by decide,Int.fdiv_eq_ediv_of_nonneg _ (by decide)]
theorem impl_wrap.fc (a b:Int):FCt prog F_impl_wrap [.ro,.ro] [Ii a,Ii b] (strD (endsI a b)) []:=by
 refine fct_run impl_wrap.ok rfl ?_
 unfold endsI
 rw [← shr16,← shr16]
 repeat' (first|with_reducible rfl|refine fcW_int (impl_WordOf.fc ..) ?_|refine fcW_bd (impl_allWords.fc) rfl ?_|with_reducible refine cdW_dec (fun _=>?_) (fun _=>?_)|refine cdW_not (fun _=>?_) (fun _=>?_)|refine cdW_any (fun _=>?_) (fun _=>?_)|with_reducible refine gdW_decT (fun _=>?_) (fun _=>?_)|with_reducible refine gdW_decF (fun _=>?_) (fun _=>?_)|refine gdW_not (fun _=>?_) (fun _=>?_)|refine gdW_any (fun _=>?_) (fun _=>?_)|simp only [go_sem,bne,iQ,iB,iX,Int.reduceLE,iN,iA,iS,iM, *]|rfl)
theorem spec_l9Floor.fc (n:Int) (h:-4611686018427387904≤n∧n≤4611686018427387904):FCt prog F_spec_l9Floor [.ro] [Ii n] (Ii (n / 65536)) []:=by
 refine fct_run spec_l9Floor.ok rfl ?_
 have h1:IntKind.i64.wrap (n - n % 65536)=n - n % 65536:=wrap_in (by omega) (by omega)
 have h2:IntKind.i64.wrap (Int.tdiv (n - n % 65536) 65536)=n / 65536:=by
  have:n - n % 65536=65536 * (n / 65536):=by omega
  rw [this,Int.mul_tdiv_cancel_left _ (by decide),wrap_in (by omega) (by omega)]
 repeat' (first|with_reducible rfl|refine fcW_int (spec_l1Wrap.fc ..) ?_|with_reducible refine cdW_dec (fun _=>?_) (fun _=>?_)|refine cdW_not (fun _=>?_) (fun _=>?_)|refine cdW_any (fun _=>?_) (fun _=>?_)|with_reducible refine gdW_decT (fun _=>?_) (fun _=>?_)|with_reducible refine gdW_decF (fun _=>?_) (fun _=>?_)|refine gdW_not (fun _=>?_) (fun _=>?_)|refine gdW_any (fun _=>?_) (fun _=>?_)|simp only [go_sem,bne,iQ,iB,iX,Int.reduceLE,iN,iA,iS,iM, *]|rfl)
theorem spec_l9Ends.fc (a b:Int) (h:-4611686018427387904≤a∧a≤4611686018427387904) (h2:-4611686018427387904≤b∧b≤4611686018427387904):FCt prog F_spec_l9Ends [.ro,.ro] [Ii a,Ii b] (strD (endsI a b)) []:=by
 refine fct_run spec_l9Ends.ok rfl ?_
 unfold endsI
 repeat' (first|with_reducible rfl|refine fcW_int (spec_l9Floor.fc a h) ?_|refine fcW_int (spec_l9Floor.fc b h2) ?_|refine fcW_int (spec_l1Wrap.fc ..) ?_|refine fcW_bd (spec_l9All.fc) rfl ?_|with_reducible refine cdW_dec (fun _=>?_) (fun _=>?_)|refine cdW_not (fun _=>?_) (fun _=>?_)|refine cdW_any (fun _=>?_) (fun _=>?_)|with_reducible refine gdW_decT (fun _=>?_) (fun _=>?_)|with_reducible refine gdW_decF (fun _=>?_) (fun _=>?_)|refine gdW_not (fun _=>?_) (fun _=>?_)|refine gdW_any (fun _=>?_) (fun _=>?_)|simp only [go_sem,bne,iQ,iB,iX,Int.reduceLE,iN,iA,iS,iM, *]|rfl)
def onesW (n k:Int):Int:=if h:0≤k∧k < n then onesW n (2 * k+1) else k
 termination_by (n - k).toNat
 decreasing_by omega
theorem onesW_go {n k:Int} (h0:0≤k) (h:k < n):onesW n k=onesW n (2 * k+1):=by rw [onesW,dif_pos ⟨h0,h⟩]
theorem onesW_end {n k:Int} (h:¬ k < n):onesW n k=k:=by rw [onesW,dif_neg (fun c=>h c.2)]
theorem impl_ones.fc (n:Int) (hn:n≤65535):FCt prog F_impl_ones [.ro] [Ii n] (Ii (onesW n 0)) []:=by
 refine fct_run impl_ones.ok rfl ?_
 simp only [go_sem]
 refine R_loop (α:=Int) (fun k s' M'=>0≤k∧k≤131071∧s' 3=aI k∧onesW n 0=onesW n k) (fun k=>(n - k).toNat) 0 ⟨by omega,by omega,by simp only [go_sem],rfl⟩ ?_
 rintro k s' M' ⟨h0,h1,h3,hr⟩ ho
 unfold impl_ones.b0
 have j0:s' 0=aI n:=by rw [ho 0 rfl];simp only [go_sem]
 clear ho
 by_cases hlt:k < n
 · have w1:IntKind.i64.wrap (2 * k)=2 * k:=wrap_in (by omega) (by omega)
   have w2:IntKind.i64.wrap (2 * k+1)=2 * k+1:=wrap_in (by omega) (by omega)
   simp only [go_sem,hlt,w1,w2,j0,h3]
   exact ⟨2 * k+1,by dsimp only;omega,by omega,by omega,by simp only [go_sem,j0,h3],by rw [hr,onesW_go h0 hlt]⟩
 · rw [hr,onesW_end hlt]
   simp only [go_sem,hlt,j0,h3]
theorem spec_l9Ones.fc (n:Int) (hn:n≤65535):FCt prog F_spec_l9Ones [.ro] [Ii n] (Ii (onesW n 0)) []:=by
 refine fct_run spec_l9Ones.ok rfl ?_
 simp only [go_sem]
 refine R_loop (α:=Int) (fun k s' M'=>0≤k∧k≤131071∧s' 3=aI k∧onesW n 0=onesW n k) (fun k=>(n - k).toNat) 0 ⟨by omega,by omega,by simp only [go_sem],rfl⟩ ?_
 rintro k s' M' ⟨h0,h1,h3,hr⟩ ho
 unfold spec_l9Ones.b0
 have j0:s' 0=aI n:=by rw [ho 0 rfl];simp only [go_sem]
 clear ho
 by_cases hlt:k < n
 · have w1:IntKind.i64.wrap (2 * k)=2 * k:=wrap_in (by omega) (by omega)
   have w2:IntKind.i64.wrap (2 * k+1)=2 * k+1:=wrap_in (by omega) (by omega)
   simp only [go_sem,hlt,w1,w2,j0,h3]
   exact ⟨2 * k+1,by dsimp only;omega,by omega,by omega,by simp only [go_sem,j0,h3],by rw [hr,onesW_go h0 hlt]⟩
 · rw [hr,onesW_end hlt]
   simp only [go_sem,hlt,j0,h3]
set_option maxHeartbeats 8000000
structure SOk (a:Int×Int):Prop where
 lo:0≤a.1
 le:a.1≤a.2
 hi:a.2≤65535
theorem gS_ok {a:Int×Int} (h:gS a=true):SOk a:=by
 simp only [gS,goodS,inB,Bool.and_eq_true,decide_eq_true_eq] at h
 exact ⟨by omega,by omega,by omega⟩
theorem ok_gS {a:Int×Int} (h:SOk a):gS a=true:=by
 obtain ⟨h1,h2,h3⟩:=h
 simp only [gS,goodS,inB,Bool.and_eq_true,decide_eq_true_eq]
 omega
def shP (b:Int):Int:=2 ^ min (Int.tmod b 16).toNat 64
theorem shP_in {b:Int} (hb:0≤b):1≤shP b∧shP b≤32768:=by
 have h:=tmod16 hb
 unfold shP
 generalize hr:(Int.tmod b 16).toNat=r
 have:r < 16:=by omega
 clear hr h hb
 have:r=0∨r=1∨r=2∨r=3∨r=4∨r=5∨r=6∨r=7∨r=8∨r=9∨r=10∨r=11∨r=12∨r=13∨r=14∨r=15:=by omega
 rcases this with rfl|rfl|rfl|rfl|rfl|rfl|rfl|rfl|rfl|rfl|rfl|rfl|rfl|rfl|rfl|rfl<;>decide
theorem mul_in {a b A B:Int} (h0:0≤a) (h1:a≤A) (h2:0≤b) (h3:b≤B):0≤a * b∧a * b≤A * B :=
 ⟨Int.mul_nonneg h0 h2,Int.mul_le_mul h1 h3 h2 (by omega)⟩
theorem tdiv_in {a b:Int} (h0:0≤a) (h:0≤b):0≤Int.tdiv a b∧Int.tdiv a b≤a:=by
 rw [Int.tdiv_eq_ediv_of_nonneg h0]
 exact ⟨Int.ediv_nonneg h0 h,Int.ediv_le_self b h0⟩
def modS (a b:Int×Int):Int×Int:=if a.2 < b.1 then a else if b.1 == 0 then (0,a.2) else (0,mnI a.2 (b.2 - 1))
def shS (op:Int) (a b:Int×Int):Int×Int :=
 if op == 9 then (if b.1 == b.2 then endsI (a.1 * shP b.1) (a.2 * shP b.1) else (0,65535)) else
 (if b.1 == b.2 then (Int.tdiv a.1 (shP b.1),Int.tdiv a.2 (shP b.1)) else (0,a.2))
def stI (op:Int) (a b:Int×Int):Int×Int :=
 if op == 1 then endsI (a.1+b.1) (a.2+b.2) else
 if op == 2 then endsI (a.1 - b.2) (a.2 - b.1) else
 if op == 3 then endsI (a.1 * b.1) (a.2 * b.2) else
 if op == 4 then (if b.1 == 0 then (0,a.2) else (Int.tdiv a.1 b.2,Int.tdiv a.2 b.1)) else
 if op == 5 then modS a b else
 if op == 6 then (0,mnI a.2 b.2) else
 if op == 7 then (mxI a.1 b.1,onesW (mxI a.2 b.2) 0) else
 if op == 8 then (0,onesW (mxI a.2 b.2) 0) else shS op a b
theorem mxI_le {a b:Int} (h:a≤65535) (h2:b≤65535):mxI a b≤65535:=by unfold mxI;split<;>omega
theorem impl_stretched.fc (op:Int) (a b:Int×Int) (ha:SOk a) (hb:SOk b):FCt prog F_impl_stretched [.ro,.ro,.ro] [Ii op,strD a,strD b] (strD (stI op a b)) []:=by
 refine fct_run impl_stretched.ok rfl ?_
 obtain ⟨a1,a2⟩:=a
 obtain ⟨b1,b2⟩:=b
 obtain ⟨p1,p2,p3⟩:=ha
 obtain ⟨q1,q2,q3⟩:=hb
 dsimp only at p1 p2 p3 q1 q2 q3
 have sp:=shP_in q1
 have h1:¬ Int.tmod b1 16 < 0:=by have:=(tmod16 q1).1;omega
 have m1:IntKind.i64.wrap (1 * 2 ^ min (Int.tmod b1 16).toNat 64)=shP b1:=by
  rw [show (1:Int) * 2 ^ min (Int.tmod b1 16).toNat 64=shP b1 by rw [Int.one_mul];rfl]
  exact wrap_in (by omega) (by omega)
 have w1:IntKind.i64.wrap (a1+b1)=a1+b1:=wrap_in (by omega) (by omega)
 have w2:IntKind.i64.wrap (a2+b2)=a2+b2:=wrap_in (by omega) (by omega)
 have w3:IntKind.i64.wrap (a1 - b2)=a1 - b2:=wrap_in (by omega) (by omega)
 have w4:IntKind.i64.wrap (a2 - b1)=a2 - b1:=wrap_in (by omega) (by omega)
 have w5:IntKind.i64.wrap (a1 * b1)=a1 * b1:=by have:=mul_in (A:=65535) (B:=65535) p1 (by omega) q1 (by omega);exact wrap_in (by omega) (by omega)
 have w6:IntKind.i64.wrap (a2 * b2)=a2 * b2:=by have:=mul_in (a:=a2) (b:=b2) (A:=65535) (B:=65535) (by omega) (by omega) (by omega) (by omega);exact wrap_in (by omega) (by omega)
 have w7:IntKind.i64.wrap (a1 * shP b1)=a1 * shP b1:=by have:=mul_in (a:=a1) (b:=shP b1) (A:=65535) (B:=65535) p1 (by omega) (by omega) (by omega);exact wrap_in (by omega) (by omega)
 have w8:IntKind.i64.wrap (a2 * shP b1)=a2 * shP b1:=by have:=mul_in (a:=a2) (b:=shP b1) (A:=65535) (B:=65535) (by omega) (by omega) (by omega) (by omega);exact wrap_in (by omega) (by omega)
 have w9:IntKind.i64.wrap (Int.tdiv a1 b2)=Int.tdiv a1 b2:=by have:=tdiv_in (a:=a1) (b:=b2) (by omega) (by omega);exact wrap_in (by omega) (by omega)
 have w10:IntKind.i64.wrap (Int.tdiv a2 b1)=Int.tdiv a2 b1:=by have:=tdiv_in (a:=a2) (b:=b1) (by omega) (by omega);exact wrap_in (by omega) (by omega)
 have w11:IntKind.i64.wrap (Int.tdiv a1 (shP b1))=Int.tdiv a1 (shP b1):=by have:=tdiv_in (a:=a1) (b:=shP b1) (by omega) (by omega);exact wrap_in (by omega) (by omega)
 have w12:IntKind.i64.wrap (Int.tdiv a2 (shP b1))=Int.tdiv a2 (shP b1):=by have:=tdiv_in (a:=a2) (b:=shP b1) (by omega) (by omega);exact wrap_in (by omega) (by omega)
 have w13:IntKind.i64.wrap (b2 - 1)=b2 - 1:=wrap_in (by omega) (by omega)
 have n1:¬ shP b1=0:=by omega
 have o:=mxI_le (a:=a2) (b:=b2) (by omega) (by omega)
 have o2:(if b2 > a2 then b2 else a2)=mxI a2 b2:=rfl
 have o3:(if b1 > a1 then b1 else a1)=mxI a1 b1:=rfl
 clear sp
 unfold stI modS shS
 rcases (show b1=0∨(¬ b1=0∧¬ b2=0) by omega) with h2|⟨h2,h3⟩
 · have h4:(b1 == 0)=true:=by simpa using h2
   clear h2
   repeat' (first|with_reducible rfl|refine fcW_bd (impl_wrap.fc ..) rfl ?_|refine fcW_bd (impl_allWords.fc) rfl ?_|refine fcW_int (impl_ones.fc _ o) ?_|with_reducible refine cdW_dec (fun _=>?_) (fun _=>?_)|refine cdW_not (fun _=>?_) (fun _=>?_)|refine cdW_any (fun _=>?_) (fun _=>?_)|with_reducible refine gdW_decT (fun _=>?_) (fun _=>?_)|with_reducible refine gdW_decF (fun _=>?_) (fun _=>?_)|refine gdW_not (fun _=>?_) (fun _=>?_)|refine gdW_any (fun _=>?_) (fun _=>?_)|simp only [go_sem,bne,iQ,iB,iX,Int.reduceLE,iN,iA,iS,iM,mnI,o2, *]|rfl)
 · have h4:(b1 == 0)=false:=by simpa using h2
   repeat' (first|with_reducible rfl|refine fcW_bd (impl_wrap.fc ..) rfl ?_|refine fcW_bd (impl_allWords.fc) rfl ?_|refine fcW_int (impl_ones.fc _ o) ?_|with_reducible refine cdW_dec (fun _=>?_) (fun _=>?_)|refine cdW_not (fun _=>?_) (fun _=>?_)|refine cdW_any (fun _=>?_) (fun _=>?_)|with_reducible refine gdW_decT (fun _=>?_) (fun _=>?_)|with_reducible refine gdW_decF (fun _=>?_) (fun _=>?_)|refine gdW_not (fun _=>?_) (fun _=>?_)|refine gdW_any (fun _=>?_) (fun _=>?_)|simp only [go_sem,bne,iQ,iB,iX,Int.reduceLE,iN,iA,iS,iM,mnI,o2, *]|rfl)
theorem spec_l9Mod.fc (a b:Int×Int) (ha:SOk a) (hb:SOk b):FCt prog F_spec_l9Mod [.ro,.ro] [strD a,strD b] (strD (modS a b)) []:=by
 refine fct_run spec_l9Mod.ok rfl ?_
 obtain ⟨a1,a2⟩:=a
 obtain ⟨b1,b2⟩:=b
 obtain ⟨p1,p2,p3⟩:=ha
 obtain ⟨q1,q2,q3⟩:=hb
 dsimp only at p1 p2 p3 q1 q2 q3
 have w13:IntKind.i64.wrap (b2 - 1)=b2 - 1:=wrap_in (by omega) (by omega)
 unfold modS
 rcases (show b1=0∨b1 > 0 by omega) with h2|h2
 · have h4:(b1 == 0)=true:=by simpa using h2
   have h5:¬ b1 > 0:=by omega
   clear h2
   repeat' (first|with_reducible rfl|refine fcW_int (spec_l1Least.fc ..) ?_|with_reducible refine cdW_dec (fun _=>?_) (fun _=>?_)|refine cdW_not (fun _=>?_) (fun _=>?_)|refine cdW_any (fun _=>?_) (fun _=>?_)|with_reducible refine gdW_decT (fun _=>?_) (fun _=>?_)|with_reducible refine gdW_decF (fun _=>?_) (fun _=>?_)|refine gdW_not (fun _=>?_) (fun _=>?_)|refine gdW_any (fun _=>?_) (fun _=>?_)|simp only [go_sem,bne,iQ,iB,iX,Int.reduceLE,iN,iA,iS,iM,mnI, *]|rfl)
 · have h4:(b1 == 0)=false:=by simp;omega
   repeat' (first|with_reducible rfl|refine fcW_int (spec_l1Least.fc ..) ?_|with_reducible refine cdW_dec (fun _=>?_) (fun _=>?_)|refine cdW_not (fun _=>?_) (fun _=>?_)|refine cdW_any (fun _=>?_) (fun _=>?_)|with_reducible refine gdW_decT (fun _=>?_) (fun _=>?_)|with_reducible refine gdW_decF (fun _=>?_) (fun _=>?_)|refine gdW_not (fun _=>?_) (fun _=>?_)|refine gdW_any (fun _=>?_) (fun _=>?_)|simp only [go_sem,bne,iQ,iB,iX,Int.reduceLE,iN,iA,iS,iM,mnI, *]|rfl)
theorem fdivP {a:Int} {b:Int} (ha:0≤a) (hb:0≤b):Int.fdiv a b=Int.tdiv a b:=by
 rw [Int.fdiv_eq_ediv_of_nonneg _ hb,Int.tdiv_eq_ediv_of_nonneg ha]
theorem spec_l9Shift.fc (op:Int) (a b:Int×Int) (ha:SOk a) (hb:SOk b):FCt prog F_spec_l9Shift [.ro,.ro,.ro] [Ii op,strD a,strD b] (strD (shS op a b)) []:=by
 refine fct_run spec_l9Shift.ok rfl ?_
 obtain ⟨a1,a2⟩:=a
 obtain ⟨b1,b2⟩:=b
 obtain ⟨p1,p2,p3⟩:=ha
 obtain ⟨q1,q2,q3⟩:=hb
 dsimp only at p1 p2 p3 q1 q2 q3
 have sp:=shP_in q1
 have h1:¬ Int.tmod b1 16 < 0:=by have:=(tmod16 q1).1;omega
 have hu:IntKind.u64.wrap (Int.tmod b1 16)=Int.tmod b1 16:=wrap_u64 (tmod16 q1).1 (by have:=(tmod16 q1).2;omega)
 have sa:=mul_in (a:=a1) (b:=shP b1) (A:=65535) (B:=65535) p1 (by omega) (by omega) (by omega)
 have sb:=mul_in (a:=a2) (b:=shP b1) (A:=65535) (B:=65535) (by omega) (by omega) (by omega) (by omega)
 have w7:IntKind.i64.wrap (a1 * 2 ^ min (Int.tmod b1 16).toNat 64)=a1 * shP b1:=wrap_in (x:=a1 * shP b1) (by omega) (by omega)
 have w8:IntKind.i64.wrap (a2 * 2 ^ min (Int.tmod b1 16).toNat 64)=a2 * shP b1:=wrap_in (x:=a2 * shP b1) (by omega) (by omega)
 have w9:Int.fdiv a1 (2 ^ min (Int.tmod b1 16).toNat 64)=Int.tdiv a1 (shP b1):=fdivP p1 (by show 0≤shP b1;omega)
 have w10:Int.fdiv a2 (2 ^ min (Int.tmod b1 16).toNat 64)=Int.tdiv a2 (shP b1):=fdivP (by omega) (by show 0≤shP b1;omega)
 have c:=spec_l9Ends.fc (a1 * shP b1) (a2 * shP b1) (by omega) (by omega)
 clear sp sa sb
 unfold shS
 repeat' (first|with_reducible rfl|refine fcW_bd (c) rfl ?_|refine fcW_bd (spec_l9All.fc) rfl ?_|with_reducible refine cdW_dec (fun _=>?_) (fun _=>?_)|refine cdW_not (fun _=>?_) (fun _=>?_)|refine cdW_any (fun _=>?_) (fun _=>?_)|with_reducible refine gdW_decT (fun _=>?_) (fun _=>?_)|with_reducible refine gdW_decF (fun _=>?_) (fun _=>?_)|refine gdW_not (fun _=>?_) (fun _=>?_)|refine gdW_any (fun _=>?_) (fun _=>?_)|simp only [go_sem,bne,iQ,iB,iX,Int.reduceLE,iN,iA,iS,iM, *]|rfl)
theorem spec_l9Do.fc (op:Int) (a b:Int×Int) (ha:SOk a) (hb:SOk b):FCt prog F_spec_l9Do [.ro,.ro,.ro] [Ii op,strD a,strD b] (strD (stI op a b)) []:=by
 refine fct_run spec_l9Do.ok rfl ?_
 have cm:=spec_l9Mod.fc a b ha hb
 have cs:=spec_l9Shift.fc op a b ha hb
 obtain ⟨a1,a2⟩:=a
 obtain ⟨b1,b2⟩:=b
 obtain ⟨p1,p2,p3⟩:=ha
 obtain ⟨q1,q2,q3⟩:=hb
 dsimp only at p1 p2 p3 q1 q2 q3
 have w1:IntKind.i64.wrap (a1+b1)=a1+b1:=wrap_in (by omega) (by omega)
 have w2:IntKind.i64.wrap (a2+b2)=a2+b2:=wrap_in (by omega) (by omega)
 have w3:IntKind.i64.wrap (a1 - b2)=a1 - b2:=wrap_in (by omega) (by omega)
 have w4:IntKind.i64.wrap (a2 - b1)=a2 - b1:=wrap_in (by omega) (by omega)
 have s5:=mul_in (A:=65535) (B:=65535) p1 (show a1≤65535 by omega) q1 (show b1≤65535 by omega)
 have s6:=mul_in (a:=a2) (b:=b2) (A:=65535) (B:=65535) (by omega) (by omega) (by omega) (by omega)
 have w5:IntKind.i64.wrap (a1 * b1)=a1 * b1:=wrap_in (by omega) (by omega)
 have w6:IntKind.i64.wrap (a2 * b2)=a2 * b2:=wrap_in (by omega) (by omega)
 have w9:IntKind.i64.wrap (Int.tdiv a1 b2)=Int.tdiv a1 b2:=by have:=tdiv_in (a:=a1) (b:=b2) (by omega) (by omega);exact wrap_in (by omega) (by omega)
 have w10:IntKind.i64.wrap (Int.tdiv a2 b1)=Int.tdiv a2 b1:=by have:=tdiv_in (a:=a2) (b:=b1) (by omega) (by omega);exact wrap_in (by omega) (by omega)
 have c1:=spec_l9Ends.fc (a1+b1) (a2+b2) (by omega) (by omega)
 have c2:=spec_l9Ends.fc (a1 - b2) (a2 - b1) (by omega) (by omega)
 have c3:=spec_l9Ends.fc (a1 * b1) (a2 * b2) (by omega) (by omega)
 have o:=mxI_le (a:=a2) (b:=b2) (by omega) (by omega)
 have o2:(if b2 > a2 then b2 else a2)=mxI a2 b2:=rfl
 have o3:(if b1 > a1 then b1 else a1)=mxI a1 b1:=rfl
 have c4:=spec_l9Ones.fc (mxI a2 b2) o
 clear s5 s6
 unfold stI
 rcases (show b1=0∨(¬ b1=0∧¬ b2=0) by omega) with h2|⟨h2,h3⟩
 · have h4:(b1 == 0)=true:=by simpa using h2
   clear h2
   repeat' (first|with_reducible rfl|refine fcW_bd (c1) rfl ?_|refine fcW_bd (c2) rfl ?_|refine fcW_bd (c3) rfl ?_|refine fcW_int (c4) ?_|refine fcW_bd (cm) rfl ?_|refine fcW_bd (cs) rfl ?_|refine fcW_int (spec_l1Least.fc ..) ?_|refine fcW_int (spec_l1Most.fc ..) ?_|with_reducible refine cdW_dec (fun _=>?_) (fun _=>?_)|refine cdW_not (fun _=>?_) (fun _=>?_)|refine cdW_any (fun _=>?_) (fun _=>?_)|with_reducible refine gdW_decT (fun _=>?_) (fun _=>?_)|with_reducible refine gdW_decF (fun _=>?_) (fun _=>?_)|refine gdW_not (fun _=>?_) (fun _=>?_)|refine gdW_any (fun _=>?_) (fun _=>?_)|simp only [go_sem,bne,iQ,iB,iX,Int.reduceLE,iN,iA,iS,iM,mnI,o2,o3, *]|rfl)
 · have h4:(b1 == 0)=false:=by simpa using h2
   repeat' (first|with_reducible rfl|refine fcW_bd (c1) rfl ?_|refine fcW_bd (c2) rfl ?_|refine fcW_bd (c3) rfl ?_|refine fcW_int (c4) ?_|refine fcW_bd (cm) rfl ?_|refine fcW_bd (cs) rfl ?_|refine fcW_int (spec_l1Least.fc ..) ?_|refine fcW_int (spec_l1Most.fc ..) ?_|with_reducible refine cdW_dec (fun _=>?_) (fun _=>?_)|refine cdW_not (fun _=>?_) (fun _=>?_)|refine cdW_any (fun _=>?_) (fun _=>?_)|with_reducible refine gdW_decT (fun _=>?_) (fun _=>?_)|with_reducible refine gdW_decF (fun _=>?_) (fun _=>?_)|refine gdW_not (fun _=>?_) (fun _=>?_)|refine gdW_any (fun _=>?_) (fun _=>?_)|simp only [go_sem,bne,iQ,iB,iX,Int.reduceLE,iN,iA,iS,iM,mnI,o2,o3, *]|rfl)
structure KOk (a:Int×Int):Prop where
 v:wd a.1
 m:wd a.2
 dj:andI a.1 a.2=0
theorem gK_ok {a:Int×Int} (h:gK a=true):KOk a:=by
 simp only [gK,goodK,Bool.and_eq_true,wd_iff,beq_iff_eq] at h
 exact ⟨h.1.1,h.1.2,h.2⟩
theorem ok_gK {a:Int×Int} (h:KOk a):gK a=true:=by
 obtain ⟨h1,h2,h3⟩:=h
 simp only [gK,goodK,Bool.and_eq_true,wd_iff,beq_iff_eq]
 exact ⟨⟨h1,h2⟩,h3⟩
def knN (v m:Int):Int×Int:=(andNotI v m,m)
theorem impl_known.fc (v m:Int):FCt prog F_impl_known [.ro,.ro] [Ii v,Ii m] (knownD (knN v m)) []:=by
 refine fct_run impl_known.ok rfl ?_
 unfold knN andNotI
 repeat' (first|with_reducible rfl|with_reducible refine cdW_dec (fun _=>?_) (fun _=>?_)|refine cdW_not (fun _=>?_) (fun _=>?_)|refine cdW_any (fun _=>?_) (fun _=>?_)|with_reducible refine gdW_decT (fun _=>?_) (fun _=>?_)|with_reducible refine gdW_decF (fun _=>?_) (fun _=>?_)|refine gdW_not (fun _=>?_) (fun _=>?_)|refine gdW_any (fun _=>?_) (fun _=>?_)|simp only [go_sem,bne,iQ,iB,iX,Int.reduceLE,iN,iA,iS,iM, *]|rfl)
theorem spec_l10Not.fc (v m:Int):FCt prog F_spec_l10Not [.ro,.ro] [Ii v,Ii m] (knownD (knN v m)) []:=by
 refine fct_run spec_l10Not.ok rfl ?_
 unfold knN andNotI
 repeat' (first|with_reducible rfl|with_reducible refine cdW_dec (fun _=>?_) (fun _=>?_)|refine cdW_not (fun _=>?_) (fun _=>?_)|refine cdW_any (fun _=>?_) (fun _=>?_)|with_reducible refine gdW_decT (fun _=>?_) (fun _=>?_)|with_reducible refine gdW_decF (fun _=>?_) (fun _=>?_)|refine gdW_not (fun _=>?_) (fun _=>?_)|refine gdW_any (fun _=>?_) (fun _=>?_)|simp only [go_sem,bne,iQ,iB,iX,Int.reduceLE,iN,iA,iS,iM, *]|rfl)
theorem impl_unknown.fc:FCt prog F_impl_unknown [] [] (knownD (0,65535)) []:=by
 refine fct_run impl_unknown.ok rfl ?_
 repeat' (first|with_reducible rfl|with_reducible refine cdW_dec (fun _=>?_) (fun _=>?_)|refine cdW_not (fun _=>?_) (fun _=>?_)|refine cdW_any (fun _=>?_) (fun _=>?_)|with_reducible refine gdW_decT (fun _=>?_) (fun _=>?_)|with_reducible refine gdW_decF (fun _=>?_) (fun _=>?_)|refine gdW_not (fun _=>?_) (fun _=>?_)|refine gdW_any (fun _=>?_) (fun _=>?_)|simp only [go_sem,bne,iQ,iB,iX,Int.reduceLE,iN,iA,iS,iM, *]|rfl)
def meetKb (a b:Int×Int):Bool:=!(andNotI (xorI a.1 b.1) (orI a.2 b.2) == 0)
def meetK (a b:Int×Int):Int×Int:=if meetKb a b then (0,0) else (orI a.1 b.1,andI a.2 b.2)
theorem nots (a b c:Int):andNotI (andNotI a b) c=andNotI a (orI b c):=by
 simp only [andNotI_bv,orI_bv,bI_toInt]
 congr 1
 apply BitVec.eq_of_getLsbD_eq
 intro i hi
 simp only [BitVec.getLsbD_and,BitVec.getLsbD_not,BitVec.getLsbD_or]
 cases (bI a).getLsbD i<;>cases (bI b).getLsbD i<;>cases (bI c).getLsbD i<;>simp
theorem meet_kn {a b:Int×Int} (ha:KOk a) (hb:KOk b):knN (orI a.1 b.1) (andI a.2 b.2)=(orI a.1 b.1,andI a.2 b.2):=by
 unfold knN
 refine congrArg (·,_) ?_
 simp only [andNotI_bv,orI_bv,andI_bv,bI_toInt]
 congr 1
 apply BitVec.eq_of_getLsbD_eq
 intro i hi
 have h1:=disj ha.dj i
 have h2:=disj hb.dj i
 simp only [BitVec.getLsbD_and,BitVec.getLsbD_not,BitVec.getLsbD_or]
 revert h1 h2
 cases (bI a.1).getLsbD i<;>cases (bI a.2).getLsbD i<;>cases (bI b.1).getLsbD i<;>cases (bI b.2).getLsbD i<;>simp [hi]
theorem impl_meetKnown.fc (a b:Int×Int) (ha:KOk a) (hb:KOk b):FCt prog F_impl_meetKnown [.ro,.ro] [knownD a,knownD b] (.tup [knownD (meetK a b),Bb (!meetKb a b)]) []:=by
 refine fct_run impl_meetKnown.ok rfl ?_
 have e:=meet_kn ha hb
 unfold meetK meetKb
 rw [← nots,← e]
 unfold xorI andNotI orI andI
 repeat' (first|with_reducible rfl|refine fcW_bd (impl_known.fc ..) rfl ?_|with_reducible refine cdW_dec (fun _=>?_) (fun _=>?_)|refine cdW_not (fun _=>?_) (fun _=>?_)|refine cdW_any (fun _=>?_) (fun _=>?_)|with_reducible refine gdW_decT (fun _=>?_) (fun _=>?_)|with_reducible refine gdW_decF (fun _=>?_) (fun _=>?_)|refine gdW_not (fun _=>?_) (fun _=>?_)|refine gdW_any (fun _=>?_) (fun _=>?_)|simp only [go_sem,bne,iQ,iB,iX,Int.reduceLE,iN,iA,iS,iM, *]|rfl)
theorem spec_l10Meet.fc (a b:Int×Int):FCt prog F_spec_l10Meet [.ro,.ro] [knownD a,knownD b] (.tup [knownD (meetK a b),Bb (!meetKb a b)]) []:=by
 refine fct_run spec_l10Meet.ok rfl ?_
 unfold meetK meetKb xorI andNotI orI andI
 repeat' (first|with_reducible rfl|with_reducible refine cdW_dec (fun _=>?_) (fun _=>?_)|refine cdW_not (fun _=>?_) (fun _=>?_)|refine cdW_any (fun _=>?_) (fun _=>?_)|with_reducible refine gdW_decT (fun _=>?_) (fun _=>?_)|with_reducible refine gdW_decF (fun _=>?_) (fun _=>?_)|refine gdW_not (fun _=>?_) (fun _=>?_)|refine gdW_any (fun _=>?_) (fun _=>?_)|simp only [go_sem,bne,iQ,iB,iX,Int.reduceLE,iN,iA,iS,iM, *]|rfl)
def mayK (k:Int×Int) (x:Int):Int:=if x == 1 then orI k.1 k.2 else andNotI 65535 k.1
theorem impl_Known_may.fc (k:Int×Int) (x:Int):FCt prog F_impl_Known_may [.ro,.ro] [knownD k,Ii x] (Ii (mayK k x)) []:=by
 refine fct_run impl_Known_may.ok rfl ?_
 unfold mayK orI andNotI
 repeat' (first|with_reducible rfl|with_reducible refine cdW_dec (fun _=>?_) (fun _=>?_)|refine cdW_not (fun _=>?_) (fun _=>?_)|refine cdW_any (fun _=>?_) (fun _=>?_)|with_reducible refine gdW_decT (fun _=>?_) (fun _=>?_)|with_reducible refine gdW_decF (fun _=>?_) (fun _=>?_)|refine gdW_not (fun _=>?_) (fun _=>?_)|refine gdW_any (fun _=>?_) (fun _=>?_)|simp only [go_sem,bne,iQ,iB,iX,Int.reduceLE,iN,iA,iS,iM, *]|rfl)
def bwS (op:Int) (a b:Int×Int) (p:Int×Int) (x y:Int):Int×Int :=
 if doI op x y == 1 then (p.1,orI p.2 (andI (mayK a x) (mayK b y))) else (orI p.1 (andI (mayK a x) (mayK b y)),p.2)
def bwN (op:Int) (a b:Int×Int):Nat→Int×Int
 | 0=>(0,0)
 | n+1=>bwS op a b (bwN op a b n) ((n / 2:Nat):Int) ((n % 2:Nat):Int)
def bitK (op:Int) (a b:Int×Int):Int×Int:=knN (bwN op a b 4).2 (andI (bwN op a b 4).1 (bwN op a b 4).2)
theorem impl_bitwise.fc0 (op:Int) (a b:Int×Int):FCt prog F_impl_bitwise [.ro,.ro,.ro] [Ii op,knownD a,knownD b] (knownD (bitK op a b)) []:=by
 refine fct_run impl_bitwise.ok rfl ?_
 simp only [go_sem]
 refine R_loop (α:=Nat) (fun i s' M'=>i≤2∧s' 12=aI i∧s' 7=aI (bwN op a b (2 * i)).1∧s' 8=aI (bwN op a b (2 * i)).2∧M'.m 64=some (.box 0 (.dat none (knownD a)))∧M'.m 128=some (.box 64 (.dat none (knownD b)))∧M'.m 192=some (.box 128 (.agg [aI 0,aI 0]))) (fun i=>2 - i) 0
  ⟨by omega,by simp only [go_sem];rfl,by simp only [go_sem];rfl,by simp only [go_sem];rfl,by simp only [go_sem],by simp only [go_sem],by simp only [go_sem]⟩ ?_
 rintro i s' M' ⟨hi,h12,h7,h8,m1,m2,m3⟩ ho
 unfold impl_bitwise.b1
 have j0:s' 0=aI op:=by rw [ho 0 rfl];simp only [go_sem]
 have j4:s' 4=.ptr 64 0 0 none:=by rw [ho 4 rfl];simp only [go_sem]
 have j5:s' 5=.ptr 128 64 0 none:=by rw [ho 5 rfl];simp only [go_sem]
 have j6:s' 6=.ptr 192 128 0 none:=by rw [ho 6 rfl];simp only [go_sem]
 clear ho
 by_cases hlt:i < 2
 · have hi':(i:Int) < 2:=by omega
   have hw:IntKind.i64.wrap (i+1)=((i+1:Nat):Int):=by rw [wrap_in (by omega) (by omega)];omega
   simp only [go_sem,hi',j0,j4,j5,j6,h12,h7,h8,m1,m2,m3]
   refine R_loop (α:=Nat) (fun y s' M'=>y≤2∧s' 15=aI y∧s' 7=aI (bwN op a b (2 * i+y)).1∧s' 8=aI (bwN op a b (2 * i+y)).2∧M'.m 64=some (.box 0 (.dat none (knownD a)))∧M'.m 128=some (.box 64 (.dat none (knownD b)))∧M'.m 192=some (.box 128 (.agg [aI 0,aI 0]))) (fun y=>2 - y) 0
    ⟨by omega,by simp only [go_sem,j0,j4,j5,j6,h12,h7,h8,m1,m2,m3];rfl,by simp only [go_sem,j0,j4,j5,j6,h12,h7,h8,m1,m2,m3];rfl,by simp only [go_sem,j0,j4,j5,j6,h12,h7,h8,m1,m2,m3];rfl,by simp only [go_sem,j0,j4,j5,j6,h12,h7,h8,m1,m2,m3],by simp only [go_sem,j0,j4,j5,j6,h12,h7,h8,m1,m2,m3],by simp only [go_sem,j0,j4,j5,j6,h12,h7,h8,m1,m2,m3]⟩ ?_
   rintro y s2 M2 ⟨hy,k15,k7,k8,n1,n2,n3⟩ ho
   unfold impl_bitwise.b0
   have g0:s2 0=aI op:=by rw [ho 0 rfl];simp only [go_sem,j0,j4,j5,j6,h12,h7,h8,m1,m2,m3]
   have g4:s2 4=.ptr 64 0 0 none:=by rw [ho 4 rfl];simp only [go_sem,j0,j4,j5,j6,h12,h7,h8,m1,m2,m3]
   have g5:s2 5=.ptr 128 64 0 none:=by rw [ho 5 rfl];simp only [go_sem,j0,j4,j5,j6,h12,h7,h8,m1,m2,m3]
   have g6:s2 6=.ptr 192 128 0 none:=by rw [ho 6 rfl];simp only [go_sem,j0,j4,j5,j6,h12,h7,h8,m1,m2,m3]
   have g9:s2 9=aI i:=by rw [ho 9 rfl];simp only [go_sem,j0,j4,j5,j6,h12,h7,h8,m1,m2,m3]
   have g12:s2 12=aI i:=by rw [ho 12 rfl];simp only [go_sem,j0,j4,j5,j6,h12,h7,h8,m1,m2,m3]
   clear ho
   by_cases hly:y < 2
   · have hy':(y:Int) < 2:=by omega
     have hwy:IntKind.i64.wrap (y+1)=((y+1:Nat):Int):=by rw [wrap_in (by omega) (by omega)];omega
     have e1:(2 * i+y) / 2=i:=by omega
     have e2:(2 * i+y) % 2=y:=by omega
     have st:bwN op a b (2 * i+(y+1))=bwS op a b (bwN op a b (2 * i+y)) i y:=by
      show bwN op a b (2 * i+y+1)=_
      simp only [bwN,e1,e2]
     simp only [go_sem,hy',j0,j4,j5,j6,h12,h7,h8,m1,m2,m3,g0,g4,g5,g6,g9,g12,k15,k7,k8,n1,n2,n3]
     refine fcW_int (impl_Known_may.fc a i) ?_
     simp only [go_sem,j0,j4,j5,j6,h12,h7,h8,m1,m2,m3,g0,g4,g5,g6,g9,g12,k15,k7,k8,n1,n2,n3]
     refine fcW_int (impl_Known_may.fc b y) ?_
     simp only [go_sem,j0,j4,j5,j6,h12,h7,h8,m1,m2,m3,g0,g4,g5,g6,g9,g12,k15,k7,k8,n1,n2,n3]
     refine fcW_int (impl_do.fc op i y (by omega)) ?_
     simp only [go_sem,j0,j4,j5,j6,h12,h7,h8,m1,m2,m3,g0,g4,g5,g6,g9,g12,k15,k7,k8,n1,n2,n3]
     cases hd:(doI op i y == 1) with
     | true =>
      simp only [go_sem,hd,hwy,j0,j4,j5,j6,h12,h7,h8,m1,m2,m3,g0,g4,g5,g6,g9,g12,k15,k7,k8,n1,n2,n3]
      exact ⟨y+1,by dsimp only;omega,by omega,by simp only [go_sem,j0,j4,j5,j6,h12,h7,h8,m1,m2,m3,g0,g4,g5,g6,g9,g12,k15,k7,k8,n1,n2,n3],by simp only [go_sem,st,bwS,hd,j0,j4,j5,j6,h12,h7,h8,m1,m2,m3,g0,g4,g5,g6,g9,g12,k15,k7,k8,n1,n2,n3],by simp only [go_sem,st,bwS,hd,j0,j4,j5,j6,h12,h7,h8,m1,m2,m3,g0,g4,g5,g6,g9,g12,k15,k7,k8,n1,n2,n3];rfl,by simp only [go_sem,j0,j4,j5,j6,h12,h7,h8,m1,m2,m3,g0,g4,g5,g6,g9,g12,k15,k7,k8,n1,n2,n3],by simp only [go_sem,j0,j4,j5,j6,h12,h7,h8,m1,m2,m3,g0,g4,g5,g6,g9,g12,k15,k7,k8,n1,n2,n3],by simp only [go_sem,j0,j4,j5,j6,h12,h7,h8,m1,m2,m3,g0,g4,g5,g6,g9,g12,k15,k7,k8,n1,n2,n3]⟩
     | false =>
      simp only [go_sem,hd,hwy,j0,j4,j5,j6,h12,h7,h8,m1,m2,m3,g0,g4,g5,g6,g9,g12,k15,k7,k8,n1,n2,n3]
      exact ⟨y+1,by dsimp only;omega,by omega,by simp only [go_sem,j0,j4,j5,j6,h12,h7,h8,m1,m2,m3,g0,g4,g5,g6,g9,g12,k15,k7,k8,n1,n2,n3],by simp only [go_sem,st,bwS,hd,j0,j4,j5,j6,h12,h7,h8,m1,m2,m3,g0,g4,g5,g6,g9,g12,k15,k7,k8,n1,n2,n3];rfl,by simp only [go_sem,st,bwS,hd,j0,j4,j5,j6,h12,h7,h8,m1,m2,m3,g0,g4,g5,g6,g9,g12,k15,k7,k8,n1,n2,n3],by simp only [go_sem,j0,j4,j5,j6,h12,h7,h8,m1,m2,m3,g0,g4,g5,g6,g9,g12,k15,k7,k8,n1,n2,n3],by simp only [go_sem,j0,j4,j5,j6,h12,h7,h8,m1,m2,m3,g0,g4,g5,g6,g9,g12,k15,k7,k8,n1,n2,n3],by simp only [go_sem,j0,j4,j5,j6,h12,h7,h8,m1,m2,m3,g0,g4,g5,g6,g9,g12,k15,k7,k8,n1,n2,n3]⟩
   · have hy':¬ (y:Int) < 2:=by omega
     obtain rfl:y=2:=by omega
     have hwy:IntKind.i64.wrap (i+1)=((i+1:Nat):Int):=by rw [wrap_in (by omega) (by omega)];omega
     simp only [go_sem,hy',hwy,Int.lt_irrefl,j0,j4,j5,j6,h12,h7,h8,m1,m2,m3,g0,g4,g5,g6,g9,g12,k15,k7,k8,n1,n2,n3]
     exact ⟨i+1,by dsimp only;omega,by omega,by simp only [go_sem,j0,j4,j5,j6,h12,h7,h8,m1,m2,m3,g0,g4,g5,g6,g9,g12,k15,k7,k8,n1,n2,n3],by simp only [go_sem,j0,j4,j5,j6,h12,h7,h8,m1,m2,m3,g0,g4,g5,g6,g9,g12,k15,k7,k8,n1,n2,n3];rfl,by simp only [go_sem,j0,j4,j5,j6,h12,h7,h8,m1,m2,m3,g0,g4,g5,g6,g9,g12,k15,k7,k8,n1,n2,n3];rfl,by simp only [go_sem,j0,j4,j5,j6,h12,h7,h8,m1,m2,m3,g0,g4,g5,g6,g9,g12,k15,k7,k8,n1,n2,n3],by simp only [go_sem,j0,j4,j5,j6,h12,h7,h8,m1,m2,m3,g0,g4,g5,g6,g9,g12,k15,k7,k8,n1,n2,n3],by simp only [go_sem,j0,j4,j5,j6,h12,h7,h8,m1,m2,m3,g0,g4,g5,g6,g9,g12,k15,k7,k8,n1,n2,n3]⟩
 · obtain rfl:i=2:=by omega
   have c2:((2:Nat):Int)=2:=rfl
   simp only [go_sem,c2,Int.lt_irrefl,j0,j4,j5,j6,h12,h7,h8,m1,m2,m3]
   refine fcW_bd (impl_known.fc ..) rfl ?_
   simp only [go_sem,j0,j4,j5,j6,h12,h7,h8,m1,m2,m3]
   rfl
def kbI (op:Int) (a b:Int×Int):Int×Int :=
 if op == 6 then (andI a.1 b.1,andNotI (andI (orI a.1 a.2) (orI b.1 b.2)) (andI a.1 b.1)) else
 if op == 7 then (orI a.1 b.1,andNotI (orI a.2 b.2) (orI a.1 b.1)) else knN (xorI a.1 b.1) (orI a.2 b.2)
theorem spec_l10Bits.fc (op:Int) (a b:Int×Int):FCt prog F_spec_l10Bits [.ro,.ro,.ro] [Ii op,knownD a,knownD b] (knownD (kbI op a b)) []:=by
 refine fct_run spec_l10Bits.ok rfl ?_
 unfold kbI knN andI orI xorI andNotI
 repeat' (first|with_reducible rfl|refine fcW_bd (spec_l10Not.fc ..) rfl ?_|with_reducible refine cdW_dec (fun _=>?_) (fun _=>?_)|refine cdW_not (fun _=>?_) (fun _=>?_)|refine cdW_any (fun _=>?_) (fun _=>?_)|with_reducible refine gdW_decT (fun _=>?_) (fun _=>?_)|with_reducible refine gdW_decF (fun _=>?_) (fun _=>?_)|refine gdW_not (fun _=>?_) (fun _=>?_)|refine gdW_any (fun _=>?_) (fun _=>?_)|simp only [go_sem,bne,iQ,iB,iX,Int.reduceLE,iN,iA,iS,iM,knN,andNotI, *]|rfl)
theorem bw4 (op:Int) (a b:Int×Int):bwN op a b 4=bwS op a b (bwS op a b (bwS op a b (bwS op a b (0,0) 0 0) 0 1) 1 0) 1 1:=rfl
theorem may0 (k:Int×Int):mayK k 0=andNotI 65535 k.1:=rfl
theorem may1 (k:Int×Int):mayK k 1=orI k.1 k.2:=rfl
theorem bitK_eq {op:Int} {a b:Int×Int} (ho:op=6∨op=7∨op=8) (ha:KOk a) (hb:KOk b):bitK op a b=kbI op a b:=by
 have bits:∀ i,(bI a.1).getLsbD i=true→i < 16:=fun i h=>Nat.lt_of_not_le fun hi=>by rw [bI_wd ha.v hi] at h;cases h
 have bits2:∀ i,(bI b.1).getLsbD i=true→i < 16:=fun i h=>Nat.lt_of_not_le fun hi=>by rw [bI_wd hb.v hi] at h;cases h
 have bits3:∀ i,(bI a.2).getLsbD i=true→i < 16:=fun i h=>Nat.lt_of_not_le fun hi=>by rw [bI_wd ha.m hi] at h;cases h
 have bits4:∀ i,(bI b.2).getLsbD i=true→i < 16:=fun i h=>Nat.lt_of_not_le fun hi=>by rw [bI_wd hb.m hi] at h;cases h
 rcases ho with rfl|rfl|rfl
 · have d00:(doI 6 0 0 == 1)=false:=by decide
   have d01:(doI 6 0 1 == 1)=false:=by decide
   have d10:(doI 6 1 0 == 1)=false:=by decide
   have d11:(doI 6 1 1 == 1)=true:=by decide
   simp only [bitK,kbI,knN,bw4,bwS,d00,d01,d10,d11,may0,may1,if_true,Bool.false_eq_true,if_false,Int.reduceBEq]
   simp only [andNotI_bv,orI_bv,andI_bv,bI_toInt]
   refine Prod.ext (congrArg BitVec.toInt (BitVec.eq_of_getLsbD_eq fun i hi=>?_)) (congrArg BitVec.toInt (BitVec.eq_of_getLsbD_eq fun i hi=>?_)) <;>
   · have h1:=disj ha.dj i
     have h2:=disj hb.dj i
     have q1:=bits i
     have q2:=bits2 i
     have q3:=bits3 i
     have q4:=bits4 i
     simp only [BitVec.getLsbD_and,BitVec.getLsbD_not,BitVec.getLsbD_or,bI_mask,bI_zero]
     revert h1 h2 q1 q2 q3 q4
     cases (bI a.1).getLsbD i<;>cases (bI a.2).getLsbD i<;>cases (bI b.1).getLsbD i<;>cases (bI b.2).getLsbD i<;>simp_all
 · have d00:(doI 7 0 0 == 1)=false:=by decide
   have d01:(doI 7 0 1 == 1)=true:=by decide
   have d10:(doI 7 1 0 == 1)=true:=by decide
   have d11:(doI 7 1 1 == 1)=true:=by decide
   simp only [bitK,kbI,knN,bw4,bwS,d00,d01,d10,d11,may0,may1,if_true,Bool.false_eq_true,if_false,Int.reduceBEq]
   simp only [andNotI_bv,orI_bv,andI_bv,bI_toInt]
   refine Prod.ext (congrArg BitVec.toInt (BitVec.eq_of_getLsbD_eq fun i hi=>?_)) (congrArg BitVec.toInt (BitVec.eq_of_getLsbD_eq fun i hi=>?_)) <;>
   · have h1:=disj ha.dj i
     have h2:=disj hb.dj i
     have q1:=bits i
     have q2:=bits2 i
     have q3:=bits3 i
     have q4:=bits4 i
     simp only [BitVec.getLsbD_and,BitVec.getLsbD_not,BitVec.getLsbD_or,bI_mask,bI_zero]
     revert h1 h2 q1 q2 q3 q4
     cases (bI a.1).getLsbD i<;>cases (bI a.2).getLsbD i<;>cases (bI b.1).getLsbD i<;>cases (bI b.2).getLsbD i<;>simp_all
 · have d00:(doI 8 0 0 == 1)=false:=by decide
   have d01:(doI 8 0 1 == 1)=true:=by decide
   have d10:(doI 8 1 0 == 1)=true:=by decide
   have d11:(doI 8 1 1 == 1)=false:=by decide
   simp only [bitK,kbI,knN,bw4,bwS,d00,d01,d10,d11,may0,may1,if_true,Bool.false_eq_true,if_false,Int.reduceBEq]
   simp only [andNotI_bv,orI_bv,andI_bv,xorI_bv,bI_toInt]
   refine Prod.ext (congrArg BitVec.toInt (BitVec.eq_of_getLsbD_eq fun i hi=>?_)) (congrArg BitVec.toInt (BitVec.eq_of_getLsbD_eq fun i hi=>?_)) <;>
   · have h1:=disj ha.dj i
     have h2:=disj hb.dj i
     have q1:=bits i
     have q2:=bits2 i
     have q3:=bits3 i
     have q4:=bits4 i
     simp only [BitVec.getLsbD_and,BitVec.getLsbD_not,BitVec.getLsbD_or,BitVec.getLsbD_xor,bI_mask,bI_zero]
     revert h1 h2 q1 q2 q3 q4
     cases (bI a.1).getLsbD i<;>cases (bI a.2).getLsbD i<;>cases (bI b.1).getLsbD i<;>cases (bI b.2).getLsbD i<;>simp_all
theorem impl_bitwise.fc {op:Int} {a b:Int×Int} (ho:op=6∨op=7∨op=8) (ha:KOk a) (hb:KOk b):FCt prog F_impl_bitwise [.ro,.ro,.ro] [Ii op,knownD a,knownD b] (knownD (kbI op a b)) [] :=
 bitK_eq ho ha hb▸impl_bitwise.fc0 op a b
def kdI (op:Int) (a b:Int×Int):Int×Int :=
 if op == 6 then kbI op a b else if op == 7 then kbI op a b else if op == 8 then kbI op a b else
 if op == 1 then knN (IntKind.i64.wrap (a.1+b.1) % 65536) (orI (orI a.2 b.2) (xorI (IntKind.i64.wrap (a.1+b.1) % 65536) (IntKind.i64.wrap (IntKind.i64.wrap (IntKind.i64.wrap (a.1+a.2)+b.1)+b.2) % 65536))) else
 if op == 2 then knN (IntKind.i64.wrap (a.1 - b.1) % 65536) (orI (orI a.2 b.2) (xorI (IntKind.i64.wrap (IntKind.i64.wrap (a.1 - b.1) % 65536+a.2) % 65536) (IntKind.i64.wrap (IntKind.i64.wrap (a.1 - b.1) % 65536 - b.2) % 65536))) else
 if op == 9 then (if b.2 == 0 then (doI op a.1 b.1,doI op a.2 b.1) else (0,65535)) else
 if op == 10 then (if b.2 == 0 then (doI op a.1 b.1,doI op a.2 b.1) else (0,65535)) else
 if a.2 == 0 then (if b.2 == 0 then (doI op a.1 b.1,0) else (0,65535)) else (0,65535)
theorem impl_doKnown.fc (op:Int) (a b:Int×Int) (ha:KOk a) (hb:KOk b):FCt prog F_impl_doKnown [.ro,.ro,.ro] [Ii op,knownD a,knownD b] (knownD (kdI op a b)) []:=by
 refine fct_run impl_doKnown.ok rfl ?_
 have cb:=fun h=>impl_bitwise.fc (op:=op) h ha hb
 have hv:=hb.v.1
 clear ha hb
 unfold kdI orI xorI
 rcases (show (op=6∨op=7∨op=8)∨(¬ op=6∧¬ op=7∧¬ op=8) by omega) with h|h
 · have cb:=cb h
   rcases h with rfl|rfl|rfl<;>repeat' (first|with_reducible rfl|refine fcW_bd (cb) rfl ?_|with_reducible refine cdW_dec (fun _=>?_) (fun _=>?_)|refine cdW_not (fun _=>?_) (fun _=>?_)|refine cdW_any (fun _=>?_) (fun _=>?_)|with_reducible refine gdW_decT (fun _=>?_) (fun _=>?_)|with_reducible refine gdW_decF (fun _=>?_) (fun _=>?_)|refine gdW_not (fun _=>?_) (fun _=>?_)|refine gdW_any (fun _=>?_) (fun _=>?_)|simp only [go_sem,bne,iQ,iB,iX,Int.reduceLE,iN,iA,iS,iM, *]|rfl)
 · have h6:(op == 6)=false:=by simpa using h.1
   have h7:(op == 7)=false:=by simpa using h.2.1
   have h8:(op == 8)=false:=by simpa using h.2.2
   clear cb h
   repeat' (first|with_reducible rfl|refine fcW_int (impl_WordOf.fc ..) ?_|refine fcW_bd (impl_known.fc ..) rfl ?_|refine fcW_bd (impl_unknown.fc) rfl ?_|refine fcW_int (impl_do.fc _ _ _ hv) ?_|refine fcW_bd (impl_exact.fc ..) rfl ?_|with_reducible refine cdW_dec (fun _=>?_) (fun _=>?_)|refine cdW_not (fun _=>?_) (fun _=>?_)|refine cdW_any (fun _=>?_) (fun _=>?_)|with_reducible refine gdW_decT (fun _=>?_) (fun _=>?_)|with_reducible refine gdW_decF (fun _=>?_) (fun _=>?_)|refine gdW_not (fun _=>?_) (fun _=>?_)|refine gdW_any (fun _=>?_) (fun _=>?_)|simp only [go_sem,bne,iQ,iB,iX,Int.reduceLE,iN,iA,iS,iM, *]|rfl)
theorem spec_l10Do.fc (op:Int) (a b:Int×Int) (hb:KOk b):FCt prog F_spec_l10Do [.ro,.ro,.ro] [Ii op,knownD a,knownD b] (knownD (kdI op a b)) []:=by
 refine fct_run spec_l10Do.ok rfl ?_
 have hv:=hb.v.1
 clear hb
 unfold kdI orI xorI
 repeat' (first|with_reducible rfl|refine fcW_int (spec_l1Wrap.fc ..) ?_|refine fcW_bd (spec_l10Bits.fc ..) rfl ?_|refine fcW_bd (spec_l10Not.fc ..) rfl ?_|refine fcW_int (spec_l1Do.fc _ _ _ hv) ?_|with_reducible refine cdW_dec (fun _=>?_) (fun _=>?_)|refine cdW_not (fun _=>?_) (fun _=>?_)|refine cdW_any (fun _=>?_) (fun _=>?_)|with_reducible refine gdW_decT (fun _=>?_) (fun _=>?_)|with_reducible refine gdW_decF (fun _=>?_) (fun _=>?_)|refine gdW_not (fun _=>?_) (fun _=>?_)|refine gdW_any (fun _=>?_) (fun _=>?_)|simp only [go_sem,bne,iQ,iB,iX,Int.reduceLE,iN,iA,iS,iM, *]|rfl)
theorem slices_Clone__sStretch_Stretch.fc (l:List (Int×Int)) (hl:l.length≤4294967296):FCt prog F_slices_Clone__sStretch_Stretch [.ro] [strs l] (strs l) []:=by
 refine fct_run slices_Clone__sStretch_Stretch.ok rfl ?_
 have hsc:(l.map strD).all isSc=true:=by rw [List.all_eq_true];intro d hd;obtain ⟨x,_,rfl⟩:=List.mem_map.1 hd;rfl
 cases l with
 | nil=>simp only [go_sem,List.length_nil,List.map_nil,List.all_nil];try rfl
 | cons b l =>
  have hb:(l.length+1) * 16≤70368744177664:=by simp only [List.length_cons] at hl;omega
  have htk:(l.map strD).take l.length=l.map strD:=List.take_of_length_le (by simp)
  simp only [List.map_cons,List.all_cons,Bool.and_eq_true] at hsc
  have h1:=hsc.1
  have h2:=hsc.2
  simp only [go_sem,h1,h2,hb,Nat.zero_le,htk]
  try rfl
theorem slices_Clone__sKnown_Known.fc (l:List (Int×Int)) (hl:l.length≤4294967296):FCt prog F_slices_Clone__sKnown_Known [.ro] [knowns l] (knowns l) []:=by
 refine fct_run slices_Clone__sKnown_Known.ok rfl ?_
 have hsc:(l.map knownD).all isSc=true:=by rw [List.all_eq_true];intro d hd;obtain ⟨x,_,rfl⟩:=List.mem_map.1 hd;rfl
 cases l with
 | nil=>simp only [go_sem,List.length_nil,List.map_nil,List.all_nil];try rfl
 | cons b l =>
  have hb:(l.length+1) * 16≤70368744177664:=by simp only [List.length_cons] at hl;omega
  have htk:(l.map knownD).take l.length=l.map knownD:=List.take_of_length_le (by simp)
  simp only [List.map_cons,List.all_cons,Bool.and_eq_true] at hsc
  have h1:=hsc.1
  have h2:=hsc.2
  simp only [go_sem,h1,h2,hb,Nat.zero_le,htk]
  try rfl
structure MLen (m:MayD):Prop where
 reg:m.reg.length=6
 bits:m.bits.length=6
 cell:m.cell.length=16
 isset:m.isset.length=16
theorem MayOk.len {m:MayD} (h:MayOk m):MLen m:=⟨h.reg,h.bits,h.cell,h.isset⟩
theorem sc_all {α:Type} {f:α→D} (hf:∀ x,isSc (f x)=true) (l:List α):(l.map f).all isSc=true:=by
 rw [List.all_eq_true];intro d hd;obtain ⟨x,_,rfl⟩:=List.mem_map.1 hd;exact hf x
theorem impl_May_own.fc (m:MayD) (h:MLen m):FCt prog F_impl_May_own [.ro] [m.d] m.d []:=by
 refine fct_run impl_May_own.ok rfl ?_
 obtain ⟨h1,h2,h3,h4⟩:=h
 simp only [go_sem]
 refine fcW_bd (slices_Clone__sStretch_Stretch.fc m.reg (by omega)) noRs_strs ?_
 simp only [go_sem]
 refine fcW_bd (slices_Clone__sKnown_Known.fc m.bits (by omega)) noRs_knowns ?_
 simp only [go_sem]
 refine fcW_bd (slices_Clone__sStretch_Stretch.fc m.cell (by omega)) noRs_strs ?_
 simp only [go_sem]
 refine fcW_bd (slices_Clone__sbool_bool.fc1 m.isset (by omega) (by omega)) noRs_bools ?_
 simp only [go_sem,take_map_len]
theorem spec_l13Own.fc (m:MayD) (h:MLen m):FCt prog F_spec_l13Own [.ro] [m.d] m.d []:=by
 refine fct_run spec_l13Own.ok rfl ?_
 obtain ⟨h1,h2,h3,h4⟩:=h
 have a1:=sc_all (f:=strD) (fun _=>rfl) m.reg
 have a2:=sc_all (f:=knownD) (fun _=>rfl) m.bits
 have a3:=sc_all (f:=strD) (fun _=>rfl) m.cell
 have a4:=sc_all (f:=Bb) (fun _=>rfl) m.isset
 simp only [go_sem,take_map_len,a1,a2,a3,a4,h1,h2,h3,h4]
 rw [List.take_of_length_le (by simp [h1]),List.take_of_length_le (by simp [h2]),List.take_of_length_le (by simp [h3]),List.take_of_length_le (by simp [h4])]
section
variable {α:Type} {A B:List α} {k:Nat} {f:α→D}
end
def zeroM:MayD:=⟨[],[],[],[]⟩
theorem wMay_len {m:MayD} (h:MLen m):wMay m≤1048576:=by obtain ⟨h1,h2,h3,h4⟩:=h;unfold wMay;omega
theorem wMay_zero:wMay zeroM≤1048576:=by decide
structure StepD where
 kind:Int
 op:Int
 dst:Int
 src:Int
 imm:Int
 to:Int
 deriving DecidableEq
abbrev StepD.d (x:StepD):D:=.agg [Ii x.kind,Ii x.op,Ii x.dst,Ii x.src,Ii x.imm,Ii x.to]
abbrev steps (l:List StepD):D:=.sl 6 (l.map StepD.d)
theorem spec_l2Reg.fc (n:Int):FCt prog F_spec_l2Reg [.ro] [Ii n] (Bb (inB n 0 5)) []:=by
 refine fct_run spec_l2Reg.ok rfl ?_
 repeat' (first|with_reducible rfl|refine fcW_bool (spec_l1In.fc ..) ?_|with_reducible refine cdW_dec (fun _=>?_) (fun _=>?_)|refine cdW_not (fun _=>?_) (fun _=>?_)|refine cdW_any (fun _=>?_) (fun _=>?_)|with_reducible refine gdW_decT (fun _=>?_) (fun _=>?_)|with_reducible refine gdW_decF (fun _=>?_) (fun _=>?_)|refine gdW_not (fun _=>?_) (fun _=>?_)|refine gdW_any (fun _=>?_) (fun _=>?_)|simp only [go_sem,bne,iQ,iB,iX,Int.reduceLE,iN,iA,iS,iM, *]|rfl)
def zeroB (s:StepD) (op dst src imm to:Bool):Bool:=(op||s.op == 0)&&(dst||s.dst == 0)&&(src||s.src == 0)&&(imm||s.imm == 0)&&(to||s.to == 0)
theorem spec_l2Zero.fc (s:StepD) (op dst src imm to:Bool):FCt prog F_spec_l2Zero [.ro,.ro,.ro,.ro,.ro,.ro] [s.d,Bb op,Bb dst,Bb src,Bb imm,Bb to] (Bb (zeroB s op dst src imm to)) []:=by
 refine fct_run spec_l2Zero.ok rfl ?_
 unfold zeroB
 repeat' (first|with_reducible rfl|with_reducible refine cdW_dec (fun _=>?_) (fun _=>?_)|refine cdW_not (fun _=>?_) (fun _=>?_)|refine cdW_any (fun _=>?_) (fun _=>?_)|with_reducible refine gdW_decT (fun _=>?_) (fun _=>?_)|with_reducible refine gdW_decF (fun _=>?_) (fun _=>?_)|refine gdW_not (fun _=>?_) (fun _=>?_)|refine gdW_any (fun _=>?_) (fun _=>?_)|simp only [go_sem,bne,iQ,iB,iX,Int.reduceLE,iN,iA,iS,iM, *]|rfl)
def stepB (s:StepD):Bool :=
 if !inB s.dst 0 5 then false else if !inB s.src 0 5 then false else
 if s.kind == 1 then inB s.op 1 10&&zeroB s true true true false false else
 if s.kind == 2 then inB s.op 1 10&&inB s.imm 0 255&&zeroB s true true false true false else
 if s.kind == 3 then inB s.imm 0 255&&zeroB s false true false true false else
 if s.kind == 4 then inB s.imm 256 65535&&zeroB s false true false true false else
 if s.kind == 5 then inB s.imm 0 7&&zeroB s false true true true false else
 if s.kind == 6 then inB s.imm 0 255&&zeroB s false true false true false else
 if s.kind == 7 then inB s.imm 0 255&&zeroB s false true false true false else
 if s.kind == 8 then inB s.to 1 19&&zeroB s false false false false true else
 if s.kind == 9 then inB s.to 1 19&&zeroB s false true true false true else
 if s.kind == 10 then inB s.to 1 19&&zeroB s false true true false true else
 (s.kind == 11)&&zeroB s false false false false false
theorem spec_l2Step.fc (s:StepD):FCt prog F_spec_l2Step [.ro] [s.d] (Bb (stepB s)) []:=by
 refine fct_run spec_l2Step.ok rfl ?_
 unfold stepB
 repeat' (first|with_reducible rfl|refine fcW_bool (spec_l1In.fc ..) ?_|refine fcW_bool (spec_l2Reg.fc ..) ?_|refine fcW_bool (spec_l2Zero.fc ..) ?_|with_reducible refine cdW_dec (fun _=>?_) (fun _=>?_)|refine cdW_not (fun _=>?_) (fun _=>?_)|refine cdW_any (fun _=>?_) (fun _=>?_)|with_reducible refine gdW_decT (fun _=>?_) (fun _=>?_)|with_reducible refine gdW_decF (fun _=>?_) (fun _=>?_)|refine gdW_not (fun _=>?_) (fun _=>?_)|refine gdW_any (fun _=>?_) (fun _=>?_)|simp only [go_sem,bne,iQ,iB,iX,Int.reduceLE,iN,iA,iS,iM, *]|rfl)
def fldL (k:Int):List UInt8 :=
 if k == 1 then [111,100,115] else if k == 2 then [111,100,105] else if k == 3 then [100,105] else if k == 4 then [100,105] else if k == 6 then [100,105] else if k == 7 then [100,105] else
 if k == 5 then [100,115,105] else if k == 8 then [116] else if k == 9 then [100,115,116] else if k == 10 then [100,115,116] else []
def strL (l:List UInt8):ByteArray:=⟨l.toArray⟩
theorem impl_fields.fc (k:Int):FCt prog F_impl_fields [.ro] [Ii k] (.str (strL (fldL k))) []:=by
 refine fct_run impl_fields.ok rfl ?_
 unfold fldL
 repeat' (first|with_reducible rfl|with_reducible refine cdW_dec (fun _=>?_) (fun _=>?_)|refine cdW_not (fun _=>?_) (fun _=>?_)|refine cdW_any (fun _=>?_) (fun _=>?_)|with_reducible refine gdW_decT (fun _=>?_) (fun _=>?_)|with_reducible refine gdW_decF (fun _=>?_) (fun _=>?_)|refine gdW_not (fun _=>?_) (fun _=>?_)|refine gdW_any (fun _=>?_) (fun _=>?_)|simp only [go_sem,bne,iQ,iB,iX,Int.reduceLE,iN,iA,iS,iM, *]|rfl)
 all_goals rfl
def rgF (k:Int) (c:Int):Int×Int :=
 if c == 111 then (1,10) else if c == 100 then (0,5) else if c == 115 then (0,5) else if c == 116 then (1,19) else
 if k == 4 then (256,65535) else if k == 5 then (0,7) else (0,255)
theorem impl_Step_ranges.fc (s:StepD) (c:Int):FCt prog F_impl_Step_ranges [.ro,.ro] [s.d,.int .u8 c] (.tup [Ii (rgF s.kind c).1,Ii (rgF s.kind c).2]) []:=by
 refine fct_run impl_Step_ranges.ok rfl ?_
 unfold rgF
 repeat' (first|with_reducible rfl|with_reducible refine cdW_dec (fun _=>?_) (fun _=>?_)|refine cdW_not (fun _=>?_) (fun _=>?_)|refine cdW_any (fun _=>?_) (fun _=>?_)|with_reducible refine gdW_decT (fun _=>?_) (fun _=>?_)|with_reducible refine gdW_decF (fun _=>?_) (fun _=>?_)|refine gdW_not (fun _=>?_) (fun _=>?_)|refine gdW_any (fun _=>?_) (fun _=>?_)|simp only [go_sem,bne,iQ,iB,iX,Int.reduceLE,iN,iA,iS,iM, *]|rfl)
theorem field_pc {c:Int} {j:Nat} (h:c=111∧j=1∨c=100∧j=2∨c=115∧j=3∨c=105∧j=4∨c=116∧j=5):PCt prog F_impl_pStep_field (.int .u8 c) j:=by
 refine ⟨by kernel_rfl,?_⟩
 intro X w a v hv
 simp only [TV] at hv
 obtain ⟨rfl,_⟩:=hv
 rcases h with ⟨rfl,rfl⟩|⟨rfl,rfl⟩|⟨rfl,rfl⟩|⟨rfl,rfl⟩|⟨rfl,rfl⟩ <;>
 · go_enter Go.Proofs.Try.func173,Go.Proofs.Try.ntmps173
   go_wp2
   go_ret
   exact ⟨rfl,rfl⟩
def getF (s:StepD) (c:UInt8):Int:=if c=111 then s.op else if c=100 then s.dst else if c=115 then s.src else if c=105 then s.imm else s.to
def clrF (s:StepD) (c:UInt8):StepD:=if c=111 then { s with op:=0 } else if c=100 then { s with dst:=0 } else if c=115 then { s with src:=0 } else if c=105 then { s with imm:=0 } else { s with to:=0 }
def okF (s:StepD) (c:UInt8):Bool:=inB (getF s c) (rgF s.kind c.toNat).1 (rgF s.kind c.toNat).2
def restF (s:StepD) (l:List UInt8):StepD:=l.foldl clrF { s with kind:=0 }
def validB (s:StepD):Bool:=(fldL s.kind).all (okF s)&&(inB s.kind 1 11&&(restF s (fldL s.kind) == ⟨0,0,0,0,0,0⟩))
theorem fldL_len (k:Int):(fldL k).length≤3:=by
 unfold fldL;repeat' (split<;>try decide)
theorem fldL_mem {k:Int} {c:UInt8} (h:c∈fldL k):c=111∨c=100∨c=115∨c=105∨c=116:=by
 have:(fldL k).all (fun c=>c == 111||c == 100||c == 115||c == 105||c == 116)=true:=by
  unfold fldL;repeat' split
  all_goals rfl
 have:=List.all_eq_true.1 this c h
 simp only [Bool.or_eq_true,beq_iff_eq] at this
 rcases this with (((h|h)|h)|h)|h<;>simp [h]
theorem valid_not {s:StepD} {i:Nat} (h:i < (fldL s.kind).length) (h2:okF s (fldL s.kind)[i]=false):validB s=false:=by
 unfold validB;rw [not_all h h2];rfl
theorem rest_step {s:StepD} {l:List UInt8} {i:Nat} (h:i < l.length):restF s (l.take (i+1))=clrF (restF s (l.take i)) l[i]:=by
 unfold restF;rw [take_succ' h,List.foldl_append];rfl
theorem impl_Step_valid.fc (s:StepD):FCt prog F_impl_Step_valid [.ro] [s.d] (Bb (validB s)) []:=by
 refine fct_run impl_Step_valid.ok rfl ?_
 simp only [go_sem]
 refine fcW_str (impl_fields.fc s.kind) ?_
 have hln:=fldL_len s.kind
 have hsz:(strL (fldL s.kind)).size=(fldL s.kind).length:=rfl
 simp only [go_sem,hsz]
 refine R_loop (α:=Nat) (fun i s' M'=>i≤(fldL s.kind).length∧s' 14=aI i∧((fldL s.kind).take i).all (okF s)=true∧M'.m 64=some (.box 0 (.dat none s.d)) ∧
  ∃ r,restF s ((fldL s.kind).take i)=r∧M'.m 256=some (.box 192 (.agg [aI r.kind,aI r.op,aI r.dst,aI r.src,aI r.imm,aI r.to]))) (fun i=>(fldL s.kind).length - i) 0
  ⟨by omega,by simp only [go_sem];rfl,by simp,by simp only [go_sem],{ s with kind:=0 },by simp [restF],by simp only [go_sem]⟩ ?_
 rintro i s' M' ⟨hi,h14,hall,m1,r,hr,m2⟩ ho
 unfold impl_Step_valid.b0
 have k1:s' 1=.ptr 64 0 0 none:=by rw [ho 1 rfl];simp only [go_sem]
 have k3:s' 3=.ptr 256 192 0 none:=by rw [ho 3 rfl];simp only [go_sem]
 have k13:s' 13=aI (fldL s.kind).length:=by rw [ho 13 rfl];simp only [go_sem]
 clear ho
 by_cases hlt:i < (fldL s.kind).length
 · have hi':(i:Int) < (fldL s.kind).length:=by omega
   have hw:IntKind.i64.wrap (i+1)=((i+1:Nat):Int):=by rw [wrap_in (by omega) (by omega)];omega
   have hbd:0≤(i:Int)∧(i:Int) < (strL (fldL s.kind)).size:=⟨by omega,by rw [hsz];omega⟩
   have hgt:∀ h,(strL (fldL s.kind))[i]'h=(fldL s.kind)[i]:=fun _=>rfl
   have hmem:=fldL_mem (List.getElem_mem hlt)
   have hnot:=valid_not hlt
   have hst:=rest_step (s:=s) hlt
   rw [hr] at hst
   have hall':okF s (fldL s.kind)[i]=true→((fldL s.kind).take (i+1)).all (okF s)=true:=fun h=>all_take hlt hall h
   simp only [go_sem,hi',k1,k3,k13,h14,m1,m2]
   refine fcW_str (impl_fields.fc s.kind) ?_
   simp only [go_sem,hbd,hgt,↓reduceDIte,k1,k3,k13,h14,m1,m2]
   generalize (fldL s.kind)[i]=c at hmem hnot hst hall' ⊢
   refine fcW_bd (impl_Step_ranges.fc s c.toNat) rfl ?_
   simp only [go_sem,k1,k3,k13,h14,m1,m2]
   unfold okF at hnot hall'
   rcases hmem with rfl|rfl|rfl|rfl|rfl
   · refine fcF_of (field_pc (j:=1) (.inl ⟨rfl,rfl⟩)) ?_
     simp only [go_sem,k1,k3,k13,h14,m1,m2]
     refine fcW_bool (impl_in.fc _ _ _) ?_
     cases hc:inB s.op (rgF s.kind (UInt8.toNat 111)).1 (rgF s.kind (UInt8.toNat 111)).2 with
     | false=>simp only [go_sem,hnot hc,k1,k3,k13,h14,m1,m2]
     | true =>
      simp only [go_sem,k1,k3,k13,h14,m1,m2]
      refine fcF_of (field_pc (j:=1) (.inl ⟨rfl,rfl⟩)) ?_
      simp only [go_sem,hw,k1,k3,k13,h14,m1,m2]
      exact ⟨i+1,by dsimp only;omega,by omega,by simp only [go_sem,k1,k3,k13,h14,m1,m2],hall' hc,by simp only [go_sem,k1,k3,k13,h14,m1,m2],_,hst,by simp only [go_sem,k1,k3,k13,h14,m1,m2];rfl⟩
   · refine fcF_of (field_pc (j:=2) (.inr (.inl ⟨rfl,rfl⟩))) ?_
     simp only [go_sem,k1,k3,k13,h14,m1,m2]
     refine fcW_bool (impl_in.fc _ _ _) ?_
     cases hc:inB s.dst (rgF s.kind (UInt8.toNat 100)).1 (rgF s.kind (UInt8.toNat 100)).2 with
     | false=>simp only [go_sem,hnot hc,k1,k3,k13,h14,m1,m2]
     | true =>
      simp only [go_sem,k1,k3,k13,h14,m1,m2]
      refine fcF_of (field_pc (j:=2) (.inr (.inl ⟨rfl,rfl⟩))) ?_
      simp only [go_sem,hw,k1,k3,k13,h14,m1,m2]
      exact ⟨i+1,by dsimp only;omega,by omega,by simp only [go_sem,k1,k3,k13,h14,m1,m2],hall' hc,by simp only [go_sem,k1,k3,k13,h14,m1,m2],_,hst,by simp only [go_sem,k1,k3,k13,h14,m1,m2];rfl⟩
   · refine fcF_of (field_pc (j:=3) (.inr (.inr (.inl ⟨rfl,rfl⟩)))) ?_
     simp only [go_sem,k1,k3,k13,h14,m1,m2]
     refine fcW_bool (impl_in.fc _ _ _) ?_
     cases hc:inB s.src (rgF s.kind (UInt8.toNat 115)).1 (rgF s.kind (UInt8.toNat 115)).2 with
     | false=>simp only [go_sem,hnot hc,k1,k3,k13,h14,m1,m2]
     | true =>
      simp only [go_sem,k1,k3,k13,h14,m1,m2]
      refine fcF_of (field_pc (j:=3) (.inr (.inr (.inl ⟨rfl,rfl⟩)))) ?_
      simp only [go_sem,hw,k1,k3,k13,h14,m1,m2]
      exact ⟨i+1,by dsimp only;omega,by omega,by simp only [go_sem,k1,k3,k13,h14,m1,m2],hall' hc,by simp only [go_sem,k1,k3,k13,h14,m1,m2],_,hst,by simp only [go_sem,k1,k3,k13,h14,m1,m2];rfl⟩
   · refine fcF_of (field_pc (j:=4) (.inr (.inr (.inr (.inl ⟨rfl,rfl⟩))))) ?_
     simp only [go_sem,k1,k3,k13,h14,m1,m2]
     refine fcW_bool (impl_in.fc _ _ _) ?_
     cases hc:inB s.imm (rgF s.kind (UInt8.toNat 105)).1 (rgF s.kind (UInt8.toNat 105)).2 with
     | false=>simp only [go_sem,hnot hc,k1,k3,k13,h14,m1,m2]
     | true =>
      simp only [go_sem,k1,k3,k13,h14,m1,m2]
      refine fcF_of (field_pc (j:=4) (.inr (.inr (.inr (.inl ⟨rfl,rfl⟩))))) ?_
      simp only [go_sem,hw,k1,k3,k13,h14,m1,m2]
      exact ⟨i+1,by dsimp only;omega,by omega,by simp only [go_sem,k1,k3,k13,h14,m1,m2],hall' hc,by simp only [go_sem,k1,k3,k13,h14,m1,m2],_,hst,by simp only [go_sem,k1,k3,k13,h14,m1,m2];rfl⟩
   · refine fcF_of (field_pc (j:=5) (.inr (.inr (.inr (.inr ⟨rfl,rfl⟩))))) ?_
     simp only [go_sem,k1,k3,k13,h14,m1,m2]
     refine fcW_bool (impl_in.fc _ _ _) ?_
     cases hc:inB s.to (rgF s.kind (UInt8.toNat 116)).1 (rgF s.kind (UInt8.toNat 116)).2 with
     | false=>simp only [go_sem,hnot hc,k1,k3,k13,h14,m1,m2]
     | true =>
      simp only [go_sem,k1,k3,k13,h14,m1,m2]
      refine fcF_of (field_pc (j:=5) (.inr (.inr (.inr (.inr ⟨rfl,rfl⟩))))) ?_
      simp only [go_sem,hw,k1,k3,k13,h14,m1,m2]
      exact ⟨i+1,by dsimp only;omega,by omega,by simp only [go_sem,k1,k3,k13,h14,m1,m2],hall' hc,by simp only [go_sem,k1,k3,k13,h14,m1,m2],_,hst,by simp only [go_sem,k1,k3,k13,h14,m1,m2];rfl⟩
 obtain rfl:i=(fldL s.kind).length:=by omega
 rw [List.take_length] at hall hr
 simp only [go_sem,Int.lt_irrefl,k1,k3,k13,h14,m1,m2]
 refine fcW_bool (impl_in.fc _ _ _) ?_
 have hv:validB s=(inB s.kind 1 11&&(r == ⟨0,0,0,0,0,0⟩)):=by unfold validB;rw [hall,hr,Bool.true_and]
 cases hc:inB s.kind 1 11 with
 | false=>simp only [go_sem,hv,hc,k1,k3,k13,h14,m1,m2]
 | true =>
  rw [hc,Bool.true_and] at hv
  have hz:(r == ⟨0,0,0,0,0,0⟩)=(r.kind == 0&&(r.op == 0&&(r.dst == 0&&(r.src == 0&&(r.imm == 0&&r.to == 0))))):=by
   obtain ⟨a,b,c,d,e,f⟩:=r
   rw [Bool.eq_iff_iff]
   simp only [beq_iff_eq,StepD.mk.injEq,Bool.and_eq_true]
  simp only [go_sem,hv,hz,Bool.bne_false,k1,k3,k13,h14,m1,m2]
theorem valid_kind {s:StepD} (h:validB s=true∨stepB s=true):s.kind=1∨s.kind=2∨s.kind=3∨s.kind=4∨s.kind=5∨s.kind=6∨s.kind=7∨s.kind=8∨s.kind=9∨s.kind=10∨s.kind=11:=by
 by_cases hk:1≤s.kind∧s.kind≤11
 · omega
 · exfalso
   have e:∀ j:Int,1≤j∧j≤11→(s.kind == j)=false:=fun j hj=>by rw [beq_eq_false_iff_ne];omega
   rcases h with h|h
   · unfold validB at h
     simp only [Bool.and_eq_true,inB,decide_eq_true_eq] at h
     omega
   · unfold stepB at h
     simp only [e 1 (by omega),e 2 (by omega),e 3 (by omega),e 4 (by omega),e 5 (by omega),e 6 (by omega),e 7 (by omega),e 8 (by omega),e 9 (by omega),e 10 (by omega),e 11 (by omega)] at h
     simp at h
theorem valid_step (s:StepD):validB s=stepB s:=by
 by_cases h:validB s=true∨stepB s=true
 · obtain ⟨k,o,d,r,m,t⟩:=s
   rcases valid_kind h with rfl|rfl|rfl|rfl|rfl|rfl|rfl|rfl|rfl|rfl|rfl <;>
   · rw [Bool.eq_iff_iff]
     simp [validB,stepB,fldL,okF,getF,rgF,restF,clrF,zeroB,inB]
     try omega
 · cases h1:validB s<;>cases h2:stepB s<;>simp_all
structure StepOk (s:StepD):Prop where
 kind:1≤s.kind∧s.kind≤11
 dst:0≤s.dst∧s.dst≤5
 src:0≤s.src∧s.src≤5
 imm:0≤s.imm∧s.imm≤65535
 op:0≤s.op∧s.op≤10
 to:0≤s.to∧s.to≤19
 jmp:s.to > 0↔s.kind=8∨s.kind=9∨s.kind=10
 iop:s.kind=1∨s.kind=2→1≤s.op
theorem step_ok {s:StepD} (h:stepB s=true):StepOk s:=by
 obtain ⟨k,o,d,r,m,t⟩:=s
 rcases valid_kind (.inr h) with rfl|rfl|rfl|rfl|rfl|rfl|rfl|rfl|rfl|rfl|rfl <;>
 · simp [stepB,zeroB,inB] at h
   constructor<;>dsimp only<;>omega
set_option maxHeartbeats 16000000
structure MachLen (m:MachD):Prop where
 regs:m.regs.length=6
 cells:m.cells.length=16
 isset:m.isset.length=16
theorem MachOk.len {m:MachD} (h:MachOk m):MachLen m:=⟨h.regs,h.cells,h.isset⟩
def regI (m:MachD) (i:Int):Int:=m.regs.getD i.toNat 0
def setP (m:MachD) (n:Int):MachD:={ m with pc:=n }
theorem setBb {l:List Bool} {i:Nat} {x:Bool}:(l.map Bb).set i (D.bool x)=(l.set i x).map Bb:=by rw [List.map_set]
theorem getD_some {α:Type} {l:List α} {i:Nat} {d:α} (h:i < l.length):l[i]? = some (l.getD i d):=by rw [getD_get h];exact List.getElem?_eq_getElem h
theorem tk_B {n:Nat} {l:List Bool} (h:l.length=n):(l.map Bb).take n=l.map Bb:=List.take_of_length_le (by simp [h])
set_option maxHeartbeats 8000000
theorem tdiv_wd {a b:Int} (ha:wd a) (hb:wd b):wd (IntKind.i64.wrap (Int.tdiv a b)):=by
 have h1:0≤Int.tdiv a b:=by rw [Int.tdiv_eq_ediv_of_nonneg ha.1];exact Int.ediv_nonneg ha.1 hb.1
 have h2:Int.tdiv a b≤a:=by rw [Int.tdiv_eq_ediv_of_nonneg ha.1];exact Int.ediv_le_self b ha.1
 have:=ha.2
 rw [wrap_in (by omega) (by omega)]
 exact ⟨h1,by omega⟩
theorem tmod_wd {a b:Int} (ha:wd a) (hb:wd b) (h:b≠0):wd (Int.tmod a b):=by
 rw [Int.tmod_eq_emod_of_nonneg ha.1]
 have h1:=Int.emod_nonneg a h
 have h2:=Int.emod_lt_of_pos a (show 0 < b by have:=hb.1;omega)
 have:=hb.2
 exact ⟨h1,by omega⟩
theorem fdiv_wd {a:Int} {k:Nat} (ha:wd a):wd (Int.fdiv a (2 ^ k)):=by
 have hp:(0:Int)≤2 ^ k:=Int.pow_nonneg (by decide)
 rw [Int.fdiv_eq_ediv_of_nonneg _ hp]
 have h1:=Int.ediv_nonneg ha.1 hp
 have h2:=Int.ediv_le_self (2 ^ k:Int) ha.1
 have:=ha.2
 exact ⟨h1,by omega⟩
theorem doI_wd {op a b:Int} (ha:wd a) (hb:wd b):wd (doI op a b):=by
 have key:∀ (c:Prop) [Decidable c] (x y:Int),(c→wd x)→(¬ c→wd y)→wd (if c then x else y):=by
  intro c _ x y hx hy;split
  · rename_i h;exact hx h
  · rename_i h;exact hy h
 have z:wd 0:=⟨by decide,by decide⟩
 unfold doI
 refine key _ _ _ (fun _=>emod_wd _) fun _=>key _ _ _ (fun _=>emod_wd _) fun _=>key _ _ _ (fun _=>emod_wd _) fun _=>key _ _ _ (fun _=>key _ _ _ (fun _=>z) fun _=>tdiv_wd ha hb) fun _=>key _ _ _ (fun _=>key _ _ _ (fun _=>ha) fun h=>tmod_wd ha hb (by simpa using h)) fun _ =>
  key _ _ _ (fun _=>andI_wd ha) fun _=>key _ _ _ (fun _=>orI_wd ha hb) fun _=>key _ _ _ (fun _=>xorI_wd ha hb) fun _=>key _ _ _ (fun _=>emod_wd _) fun _=>fdiv_wd ha
set_option maxHeartbeats 4000000
set_option maxHeartbeats 16000000
structure WayD where
 steps:List Int
 turns:List Bool
 deriving DecidableEq
abbrev WayD.d (x:WayD):D:=.agg [ints x.steps,bools x.turns]
abbrev Ub (n:Int):D:=.int .u8 n
theorem getD_sm {α:Type} {l:List α} {i:Nat} {d:α} (h:i < l.length):l[i]? = some (l.getD i d):=by
 rw [List.getD_eq_getElem?_getD,List.getElem?_eq_getElem h];rfl
structure CurD where
 code:List Int
 pos:Int
 seed:Int
abbrev CurD.d (c:CurD):D:=.agg [.rs 1 (c.code.map Ub),Ii c.pos,.int .u64 c.seed]
structure CurOk (c:CurD) (n:Nat):Prop where
 p0:0≤c.pos
 p1:c.pos+n≤4611686018427387904
 len:c.code.length≤9223372036854775807
 by8:∀ b∈c.code,0≤b∧b≤255
def seedV (c:CurD) (b:Int):Int:=IntKind.u64.wrap (IntKind.u64.wrap (IntKind.u64.wrap (c.seed * 6364136223846793005)+IntKind.u64.wrap b)+1442695040888963407)
def byteV (c:CurD):Int:=if c.pos < c.code.length then c.code.getD c.pos.toNat 0 else 0
def foldV (s:Int):Int:=IntKind.i64.wrap (IntKind.u64.wrap (BitVec.ofInt IntKind.u64.bits (Int.fdiv s (2 ^ min (40:Int).toNat IntKind.u64.bits)) &&& BitVec.ofInt IntKind.u64.bits 255).toNat)
def nextV (c:CurD):Int:=if c.pos+1≤c.code.length then byteV c else foldV (seedV c (byteV c))
def nextC (c:CurD):CurD:=⟨c.code,c.pos+1,seedV c (byteV c)⟩
theorem nextC_ok {c:CurD} {n:Nat} (h:CurOk c (n+1)):CurOk (nextC c) n:=by
 obtain ⟨h1,h2,h3,h4⟩:=h
 refine ⟨?_,?_,h3,h4⟩
 · show 0≤c.pos+1;omega
 · show c.pos+1+n≤_;omega
theorem byteV_in {c:CurD} {n:Nat} (h:CurOk c n):0≤byteV c∧byteV c≤255:=by
 unfold byteV
 split
 · rename_i hl
   have h0:=h.p0
   have hl':c.pos.toNat < c.code.length:=by omega
   rw [List.getD_eq_getElem?_getD,List.getElem?_eq_getElem hl']
   exact h.by8 _ (List.getElem_mem hl')
 · omega
theorem foldV_in (s:Int):0≤foldV s∧foldV s≤255:=by
 unfold foldV
 have hn:(BitVec.ofInt IntKind.u64.bits (Int.fdiv s (2 ^ min (40:Int).toNat IntKind.u64.bits)) &&& BitVec.ofInt IntKind.u64.bits 255).toNat≤255:=by
  rw [BitVec.toNat_and]
  have:(BitVec.ofInt IntKind.u64.bits 255).toNat=255:=by decide
  rw [this]
  exact Nat.and_le_right
 generalize (BitVec.ofInt IntKind.u64.bits (Int.fdiv s (2 ^ min (40:Int).toNat IntKind.u64.bits)) &&& BitVec.ofInt IntKind.u64.bits 255).toNat=m at hn
 have e:IntKind.u64.wrap (m:Int)=m:=by simp [IntKind.wrap,IntKind.signed,IntKind.bits];omega
 rw [e,wrap_in (by omega) (by omega)]
 omega
theorem nextV_in {c:CurD} {n:Nat} (h:CurOk c n):0≤nextV c∧nextV c≤255:=by
 unfold nextV
 split
 · exact byteV_in h
 · exact foldV_in _
theorem CurOk.mono {c:CurD} {n m:Nat} (h:CurOk c n) (hm:m≤n):CurOk c m:=⟨h.p0,by have:=h.p1;omega,h.len,h.by8⟩
theorem spec_pl1Cur_next.fc (c:CurD) {n:Nat} (h:CurOk c (n+1)):FCt prog F_spec_pl1Cur_next [.io] [.ptr c.d] (Ii (nextV c)) [.ptr (nextC c).d]:=by
 refine fct_run spec_pl1Cur_next.ok rfl ?_
 have hb:=byteV_in h
 obtain ⟨h1,h2,h3,h4⟩:=h
 obtain ⟨code,pos,seed⟩:=c
 dsimp only at h1 h2 h3
 have w1:IntKind.i64.wrap (pos+1)=pos+1:=wrap_in (by omega) (by omega)
 unfold nextV nextC foldV
 by_cases hp:pos < code.length
 · have hl:pos.toNat < code.length:=by omega
   have g:code[pos.toNat]? = some (code.getD pos.toNat 0):=getD_sm hl
   have e:byteV ⟨code,pos,seed⟩=code.getD pos.toNat 0:=by unfold byteV;rw [if_pos hp]
   have hq:pos+1≤code.length:=by omega
   rw [e] at hb ⊢
   have w2:IntKind.i64.wrap (code.getD pos.toNat 0)=code.getD pos.toNat 0:=wrap_in (by omega) (by omega)
   rw [if_pos hq]
   unfold seedV
   simp only [go_sem,hp,h1,g,w1,w2,hq];try rfl
 · have e:byteV ⟨code,pos,seed⟩=0:=by unfold byteV;rw [if_neg hp]
   have hq:¬ pos+1≤code.length:=by omega
   rw [e,if_neg hq]
   unfold seedV
   simp only [go_sem,hp,w1,hq];try rfl
def pickV (c:CurD) (n:Int):Int:=if n≤1 then 0 else if n > 200 then (nextV c * 256+nextV (nextC c)) % n else nextV c % n
def pickC (c:CurD) (n:Int):CurD:=if n≤1 then c else if n > 200 then nextC (nextC c) else nextC c
theorem pickV_in {c:CurD} {n:Int} (h:1≤n):0≤pickV c n∧pickV c n < n:=by
 unfold pickV
 split
 · omega
 · split
   · exact ⟨Int.emod_nonneg _ (by omega),Int.emod_lt_of_pos _ (by omega)⟩
   · exact ⟨Int.emod_nonneg _ (by omega),Int.emod_lt_of_pos _ (by omega)⟩
theorem pickC_ok {c:CurD} {n:Int} {m:Nat} (h:CurOk c (m+2)):CurOk (pickC c n) m:=by
 unfold pickC
 split
 · exact h.mono (by omega)
 · split
   · exact nextC_ok (nextC_ok h)
   · exact (nextC_ok h).mono (by omega)
theorem spec_pl1Cur_pick.fc (c:CurD) (n:Int) {m:Nat} (h:CurOk c (m+2)):FCt prog F_spec_pl1Cur_pick [.io,.ro] [.ptr c.d,Ii n] (Ii (pickV c n)) [.ptr (pickC c n).d]:=by
 refine fct_run spec_pl1Cur_pick.ok rfl ?_
 have c1:=spec_pl1Cur_next.fc c h
 have h2:=nextC_ok h
 have c2:=spec_pl1Cur_next.fc (nextC c) h2
 have b1:=nextV_in h
 have b2:=nextV_in h2
 unfold pickV pickC
 generalize nextV c=x at c1 b1 ⊢
 generalize nextV (nextC c)=y at c2 b2 ⊢
 generalize nextC (nextC c)=z at c2 ⊢
 generalize nextC c=u at c1 c2 ⊢
 by_cases h1:n≤1
 · simp only [go_sem,h1]
 · by_cases h3:n > 200
   · have w1:IntKind.i64.wrap (x * 256)=x * 256:=wrap_in (by omega) (by omega)
     have w2:IntKind.i64.wrap (x * 256+y)=x * 256+y:=wrap_in (by omega) (by omega)
     have w3:Int.tmod (x * 256+y) n=(x * 256+y) % n:=Int.tmod_eq_emod_of_nonneg (by omega)
     have n0:¬ n=0:=by omega
     simp only [go_sem,h1,h3]
     refine coW_c c1 ?_
     simp only [go_sem,h1,h3,w1]
     refine coW_c c2 ?_
     simp only [go_sem,w1,w2,w3,n0,h1,h3]
   · have w3:Int.tmod x n=x % n:=Int.tmod_eq_emod_of_nonneg (by omega)
     have n0:¬ n=0:=by omega
     simp only [go_sem,h1,h3]
     refine coW_c c1 ?_
     simp only [go_sem,h1,h3,w3,n0]
theorem spec_pl1Cur_one.fc (c:CurD) (n:Int) {m:Nat} (h:CurOk c (m+2)):FCt prog F_spec_pl1Cur_one [.io,.ro] [.ptr c.d,Ii n] (Bb (pickV c n == 0)) [.ptr (pickC c n).d]:=by
 refine fct_run spec_pl1Cur_one.ok rfl ?_
 have c1:=spec_pl1Cur_pick.fc c n h
 generalize pickV c n=x at c1 ⊢
 generalize pickC c n=u at c1 ⊢
 simp only [go_sem]
 refine coW_c c1 ?_
 simp only [go_sem]
def amongV (c:CurD) (l:List Int):Int:=l.getD (pickV c l.length).toNat 0
theorem spec_pl1Cur_among.fc (c:CurD) (l:List Int) (hl:1≤l.length) (hl2:l.length≤1000) {m:Nat} (h:CurOk c (m+2)):FCt prog F_spec_pl1Cur_among [.io,.co] [.ptr c.d,ints l] (Ii (amongV c l)) [.ptr (pickC c l.length).d]:=by
 refine fct_run spec_pl1Cur_among.ok rfl ?_
 have c1:=spec_pl1Cur_pick.fc c l.length h
 have hp:=pickV_in (c:=c) (n:=l.length) (by omega)
 unfold amongV
 generalize pickV c l.length=x at c1 hp ⊢
 generalize pickC c l.length=u at c1 ⊢
 have g:l[x.toNat]? = some (l.getD x.toNat 0):=getD_sm (by omega)
 simp only [go_sem]
 refine coW_c c1 ?_
 simp only [go_sem,hp.1,hp.2,g]
theorem amongV_mem (c:CurD) (l:List Int) (hl:1≤l.length):amongV c l∈l:=by
 have hp:=pickV_in (c:=c) (n:=l.length) (by omega)
 unfold amongV
 rw [List.getD_eq_getElem?_getD,List.getElem?_eq_getElem (by omega)]
 exact List.getElem_mem (by omega)
def curS (code:List Int):CurD:=⟨code,0,0⟩
theorem curS_ok {code:List Int} (hl:code.length≤9223372036854775807) (h8:∀ b∈code,0≤b∧b≤255) {n:Nat} (hn:n≤1000000):CurOk (curS code) n :=
 ⟨Int.le_refl 0,by show (0:Int)+n≤_;omega,hl,h8⟩
set_option maxHeartbeats 4000000
def w8 (n:Int):Int:=IntKind.u8.wrap n
def bt (l:List UInt8) (i:Nat):Int:=((l.getD i 0).toNat:Int)
set_option maxHeartbeats 16000000
theorem among_kind (c:CurD):∃ k,amongV c [1,1,2,2,2,3,3,4,5,5,6,7,7,8,9,10,10]=k∧1≤k∧k≤10:=by
 have h:=amongV_mem c [1,1,2,2,2,3,3,4,5,5,6,7,7,8,9,10,10] (by simp)
 refine ⟨_,rfl,?_⟩
 simp only [List.mem_cons,List.not_mem_nil,or_false] at h
 omega
theorem step_in {c:CurD} {room:Int} {a b d e f g:Int} {v:CurD} (fc:FCt prog F_spec_pl1Cur_step [.io,.ro] [.ptr c.d,Ii room] (StepD.d ⟨a,b,d,e,f,g⟩) [.ptr (CurD.d v)]) (ok:∀ m,CurOk c (m+14)→CurOk v m) :
 ∃ s c',(∀ m,CurOk c (m+14)→CurOk c' m)∧FCt prog F_spec_pl1Cur_step [.io,.ro] [.ptr c.d,Ii room] (StepD.d s) [.ptr (CurD.d c')]:=⟨_,_,ok,fc⟩
theorem step_ex (c:CurD) (room:Int) (hr:0≤room∧room≤1000) (h:CurOk c 14):∃ s c',(∀ m,CurOk c (m+14)→CurOk c' m)∧FCt prog F_spec_pl1Cur_step [.io,.ro] [.ptr c.d,Ii room] (StepD.d s) [.ptr (CurD.d c')]:=by
 obtain ⟨k,hk,k1,k2⟩:=among_kind c
 have ca:=spec_pl1Cur_among.fc c [1,1,2,2,2,3,3,4,5,5,6,7,7,8,9,10,10] (by simp) (by simp) (m:=12) h
 rw [hk] at ca
 have h2:∀ m,CurOk c (m+14)→CurOk (pickC c 17) (m+12):=fun m hm=>pickC_ok hm
 have h1:=h2 0 h
 have l17:(([1,1,2,2,2,3,3,4,5,5,6,7,7,8,9,10,10]:List Int).length:Int)=17:=rfl
 rw [l17] at ca
 generalize pickC c 17=u at ca h1 h2
 have hc:k=1∨k=2∨k=3∨k=4∨k=5∨k=6∨k=7∨k=8∨k=9∨k=10:=by omega
 by_cases h3:room < 2<;>rcases hc with rfl|rfl|rfl|rfl|rfl|rfl|rfl|rfl|rfl|rfl <;>
 · apply step_in
   · refine fct_run spec_pl1Cur_step.ok rfl ?_
     simp only [go_sem]
     refine coW_c ca ?_
     simp only [go_sem,h3,iB,Int.reduceLE,iX,bne,ge_iff_le]
     repeat' (first|with_reducible rfl|refine coW_c (spec_pl1Cur_pick.fc _ _ (m:=0) (by first|exact h1.mono (by omega)|exact pickC_ok (h1.mono (by omega))|exact pickC_ok (pickC_ok (h1.mono (by omega)))|exact pickC_ok (pickC_ok (pickC_ok (h1.mono (by omega))))|exact pickC_ok (pickC_ok (pickC_ok (pickC_ok (h1.mono (by omega)))))|exact pickC_ok (pickC_ok (pickC_ok (pickC_ok (pickC_ok (h1.mono (by omega))))))|exact pickC_ok (pickC_ok (pickC_ok (pickC_ok (pickC_ok (pickC_ok (h1.mono (by omega))))))))) ?_|refine coW_c (spec_pl1Cur_among.fc _ [0,1,3,7,255,_] (by simp) (by simp) (m:=0) (by first|exact h1.mono (by omega)|exact pickC_ok (h1.mono (by omega))|exact pickC_ok (pickC_ok (h1.mono (by omega)))|exact pickC_ok (pickC_ok (pickC_ok (h1.mono (by omega))))|exact pickC_ok (pickC_ok (pickC_ok (pickC_ok (h1.mono (by omega)))))|exact pickC_ok (pickC_ok (pickC_ok (pickC_ok (pickC_ok (h1.mono (by omega))))))|exact pickC_ok (pickC_ok (pickC_ok (pickC_ok (pickC_ok (pickC_ok (h1.mono (by omega))))))))) ?_|refine coW_c (spec_pl1Cur_among.fc _ [256,65535,_] (by simp) (by simp) (m:=0) (by first|exact h1.mono (by omega)|exact pickC_ok (h1.mono (by omega))|exact pickC_ok (pickC_ok (h1.mono (by omega)))|exact pickC_ok (pickC_ok (pickC_ok (h1.mono (by omega))))|exact pickC_ok (pickC_ok (pickC_ok (pickC_ok (h1.mono (by omega)))))|exact pickC_ok (pickC_ok (pickC_ok (pickC_ok (pickC_ok (h1.mono (by omega))))))|exact pickC_ok (pickC_ok (pickC_ok (pickC_ok (pickC_ok (pickC_ok (h1.mono (by omega))))))))) ?_|refine fcW_int (spec_l1Least.fc ..) ?_|with_reducible refine cdW_dec (fun _=>?_) (fun _=>?_)|refine cdW_not (fun _=>?_) (fun _=>?_)|refine cdW_any (fun _=>?_) (fun _=>?_)|with_reducible refine gdW_decT (fun _=>?_) (fun _=>?_)|with_reducible refine gdW_decF (fun _=>?_) (fun _=>?_)|refine gdW_not (fun _=>?_) (fun _=>?_)|refine gdW_any (fun _=>?_) (fun _=>?_)|simp only [go_sem,bne,iQ,iB,iX,Int.reduceLE,iN,iA,iS,iM,h3,ge_iff_le, *]|rfl)
     all_goals exact ⟨rfl,rfl⟩
   · intro m hm
     have h1:=h2 m hm
     exact (by first|exact h1.mono (by omega)|exact pickC_ok (h1.mono (by omega))|exact pickC_ok (pickC_ok (h1.mono (by omega)))|exact pickC_ok (pickC_ok (pickC_ok (h1.mono (by omega))))|exact pickC_ok (pickC_ok (pickC_ok (pickC_ok (h1.mono (by omega)))))|exact pickC_ok (pickC_ok (pickC_ok (pickC_ok (pickC_ok (h1.mono (by omega))))))|exact pickC_ok (pickC_ok (pickC_ok (pickC_ok (pickC_ok (pickC_ok (h1.mono (by omega))))))))
abbrev curA (c:CurD):AV:=.agg [.dat none (.sl 1 (c.code.map Ub)),.dat none (Ii c.pos),.dat none (.int .u64 c.seed)]
theorem word_ex (c:CurD) {m:Nat} (h:CurOk c (m+12)):∃ (x:Int) (c':CurD),(0≤x∧x≤65535)∧CurOk c' m∧FCt prog F_spec_pl1Cur_word [.io] [.ptr c.d] (Ii x) [.ptr c'.d]:=by
 have f1:=spec_pl1Cur_pick.fc c 256 (m:=m+10) h
 have o1:CurOk (pickC c 256) (m+10):=pickC_ok h
 have p1:=pickV_in (c:=c) (n:=256) (by omega)
 generalize pickV c 256=x1 at f1 p1
 generalize pickC c 256=c1 at f1 o1
 have f2:=spec_pl1Cur_pick.fc c1 256 (m:=m+8) o1
 have o2:CurOk (pickC c1 256) (m+8):=pickC_ok o1
 have p2:=pickV_in (c:=c1) (n:=256) (by omega)
 generalize pickV c1 256=x2 at f2 p2
 generalize pickC c1 256=c2 at f2 o2
 have f3:=spec_pl1Cur_pick.fc c2 256 (m:=m+6) o2
 have o3:CurOk (pickC c2 256) (m+6):=pickC_ok o2
 have p3:=pickV_in (c:=c2) (n:=256) (by omega)
 generalize pickV c2 256=x3 at f3 p3
 generalize pickC c2 256=c3 at f3 o3
 have f4:=spec_pl1Cur_pick.fc c3 256 (m:=m+4) o3
 have o4:CurOk (pickC c3 256) (m+4):=pickC_ok o3
 have p4:=pickV_in (c:=c3) (n:=256) (by omega)
 generalize pickV c3 256=x4 at f4 p4
 generalize pickC c3 256=c4 at f4 o4
 have f5:=spec_pl1Cur_pick.fc c4 20 (m:=m+2) o4
 have o5:CurOk (pickC c4 20) (m+2):=pickC_ok o4
 have p5:=pickV_in (c:=c4) (n:=20) (by omega)
 generalize pickV c4 20=x5 at f5 p5
 generalize pickC c4 20=c5 at f5 o5
 have f6:=spec_pl1Cur_among.fc c5 [0,1,2,255,256,32767,32768,65535,x1 * 256+x2,x3 * 256+x4,x5] (by simp) (by simp) (m:=m) o5
 have e6:=amongV_mem c5 [0,1,2,255,256,32767,32768,65535,x1 * 256+x2,x3 * 256+x4,x5] (by simp)
 have o6:CurOk (pickC c5 11) m:=pickC_ok o5
 have hx:0≤amongV c5 [0,1,2,255,256,32767,32768,65535,x1 * 256+x2,x3 * 256+x4,x5]∧amongV c5 [0,1,2,255,256,32767,32768,65535,x1 * 256+x2,x3 * 256+x4,x5]≤65535:=by
  simp only [List.mem_cons,List.not_mem_nil,or_false] at e6
  omega
 clear e6
 generalize amongV c5 [0,1,2,255,256,32767,32768,65535,x1 * 256+x2,x3 * 256+x4,x5]=x at f6 hx
 refine ⟨x,pickC c5 11,hx,o6,?_⟩
 have w1:IntKind.i64.wrap (x1 * 256)=x1 * 256:=wrap_in (by omega) (by omega)
 have w2:IntKind.i64.wrap (x1 * 256+x2)=x1 * 256+x2:=wrap_in (by omega) (by omega)
 have w3:IntKind.i64.wrap (x3 * 256)=x3 * 256:=wrap_in (by omega) (by omega)
 have w4:IntKind.i64.wrap (x3 * 256+x4)=x3 * 256+x4:=wrap_in (by omega) (by omega)
 refine fct_run spec_pl1Cur_word.ok rfl ?_
 simp only [go_sem]
 refine coW_c f1 ?_
 simp only [go_sem,w1]
 refine coW_c f2 ?_
 simp only [go_sem,w1,w2]
 refine coW_c f3 ?_
 simp only [go_sem,w3]
 refine coW_c f4 ?_
 simp only [go_sem,w3,w4]
 refine coW_c f5 ?_
 simp only [go_sem]
 refine coW_c f6 ?_
 simp only [go_sem]
 rfl
def reduS (s k:Int×Int):Option ((Int×Int)×(Int×Int)) :=
 let lo:=if k.1 > s.1 then k.1 else s.1
 let hi:=if IntKind.i64.wrap (k.1+k.2) < s.2 then IntKind.i64.wrap (k.1+k.2) else s.2
 if lo > hi then none else if lo < hi then some ((lo,hi),k) else if andNotI lo k.2 == k.1 then some ((lo,hi),(lo,0)) else none
def reduD (o:Option ((Int×Int)×(Int×Int))):D:=match o with
 | some r=>.tup [strD r.1,knownD r.2,Bb true]
 | none=>.tup [strD (0,0),knownD (0,0),Bb false]
theorem redu_eq (s k:Int×Int):redu s.1 s.2 k.1 k.2=reduD (reduS s k):=by
 unfold redu reduS reduD
 generalize (if k.1 > s.1 then k.1 else s.1)=lo
 generalize (if IntKind.i64.wrap (k.1+k.2) < s.2 then IntKind.i64.wrap (k.1+k.2) else s.2)=hi
 dsimp only
 split
 · rfl
 · split
   · rfl
   · split<;>rfl
theorem impl_reduceBoth.fcv (s k:Int×Int):FCt prog F_impl_reduceBoth [.ro,.ro] [strD s,knownD k] (reduD (reduS s k)) []:=redu_eq s k▸impl_reduceBoth.fc s.1 s.2 k.1 k.2
theorem spec_l13Reduce.fcv (s k:Int×Int):FCt prog F_spec_l13Reduce [.ro,.ro] [strD s,knownD k] (reduD (reduS s k)) []:=redu_eq s k▸spec_l13Reduce.fc s.1 s.2 k.1 k.2
def putV (s k:Int×Int):(Int×Int)×(Int×Int):=match reduS s k with
 | some r=>r
 | none=>(s,k)
def putM (m:MayD) (i:Int) (r:(Int×Int)×(Int×Int)):MayD:={ m with reg:=m.reg.set i.toNat r.1,bits:=m.bits.set i.toNat r.2 }
theorem putM_len {m:MayD} {i:Int} {r:(Int×Int)×(Int×Int)} (h:MLen m):MLen (putM m i r):=⟨by simp [putM,h.reg],by simp [putM,h.bits],h.cell,h.isset⟩
theorem setSt {l:List (Int×Int)} {i:Nat} {x:Int×Int}:(l.map strD).set i (strD x)=(l.set i x).map strD:=by rw [List.map_set]
theorem setKn {l:List (Int×Int)} {i:Nat} {x:Int×Int}:(l.map knownD).set i (knownD x)=(l.set i x).map knownD:=by rw [List.map_set]
theorem tk_S {n:Nat} {l:List (Int×Int)} (h:l.length=n):(l.map strD).take n=l.map strD:=List.take_of_length_le (by simp [h])
theorem tk_K {n:Nat} {l:List (Int×Int)} (h:l.length=n):(l.map knownD).take n=l.map knownD:=List.take_of_length_le (by simp [h])
theorem noRsL_pMay {m:MayD}:noRsL [.ptr m.d]=true:=by
 show (noRs (.ptr m.d)&&true)=true
 rw [Bool.and_true]
 exact noRs_May
theorem impl_pMay_put.fc (m:MayD) (i:Int) (s k:Int×Int) (hm:MLen m) (h0:0≤i) (h1:i < 6) :
 FCt prog F_impl_pMay_put [.io,.ro,.ro,.ro] [.ptr m.d,Ii i,strD s,knownD k] (.tup []) [.ptr (putM m i (putV s k)).d]:=by
 refine fct_run impl_pMay_put.ok rfl ?_
 obtain ⟨l1,l2,l3,l4⟩:=hm
 have cr:=impl_reduceBoth.fcv s k
 have c6:((6:Nat):Int)=6:=rfl
 have g1:m.reg[i.toNat]? = some (m.reg[i.toNat]'(by omega)):=List.getElem?_eq_getElem (by omega)
 have g2:m.bits[i.toNat]? = some (m.bits[i.toNat]'(by omega)):=List.getElem?_eq_getElem (by omega)
 unfold putM putV
 unfold reduD at cr
 cases hr:reduS s k with
 | none =>
  rw [hr] at cr
  repeat' (first|with_reducible rfl|refine fcW_bd (cr) rfl ?_|with_reducible refine cdW_dec (fun _=>?_) (fun _=>?_)|refine cdW_not (fun _=>?_) (fun _=>?_)|refine cdW_any (fun _=>?_) (fun _=>?_)|with_reducible refine gdW_decT (fun _=>?_) (fun _=>?_)|with_reducible refine gdW_decF (fun _=>?_) (fun _=>?_)|refine gdW_not (fun _=>?_) (fun _=>?_)|refine gdW_any (fun _=>?_) (fun _=>?_)|simp only [go_sem,bne,iQ,iB,iX,Int.reduceLE,iN,iA,iS,iM,setSt,setKn,tk_S,tk_K,tk_B,List.length_set, *]|rfl)
 | some r =>
  rw [hr] at cr
  obtain ⟨r1,r2⟩:=r
  dsimp only at cr
  repeat' (first|with_reducible rfl|refine fcW_bd (cr) rfl ?_|with_reducible refine cdW_dec (fun _=>?_) (fun _=>?_)|refine cdW_not (fun _=>?_) (fun _=>?_)|refine cdW_any (fun _=>?_) (fun _=>?_)|with_reducible refine gdW_decT (fun _=>?_) (fun _=>?_)|with_reducible refine gdW_decF (fun _=>?_) (fun _=>?_)|refine gdW_not (fun _=>?_) (fun _=>?_)|refine gdW_any (fun _=>?_) (fun _=>?_)|simp only [go_sem,bne,iQ,iB,iX,Int.reduceLE,iN,iA,iS,iM,setSt,setKn,tk_S,tk_K,tk_B,List.length_set, *]|rfl)
theorem spec_l13Set.fc (m:MayD) (i:Int) (s k:Int×Int) (hm:MLen m) (h0:0≤i) (h1:i < 6) :
 FCt prog F_spec_l13Set [.co,.ro,.ro,.ro] [m.d,Ii i,strD s,knownD k] (putM m i (putV s k)).d []:=by
 refine fct_run spec_l13Set.ok rfl ?_
 obtain ⟨l1,l2,l3,l4⟩:=hm
 have cr:=spec_l13Reduce.fcv s k
 have c6:((6:Nat):Int)=6:=rfl
 have g1:m.reg[i.toNat]? = some (m.reg[i.toNat]'(by omega)):=List.getElem?_eq_getElem (by omega)
 have g2:m.bits[i.toNat]? = some (m.bits[i.toNat]'(by omega)):=List.getElem?_eq_getElem (by omega)
 unfold putM putV
 unfold reduD at cr
 cases hr:reduS s k with
 | none =>
  rw [hr] at cr
  repeat' (first|with_reducible rfl|refine fcW_bd (cr) rfl ?_|with_reducible refine cdW_dec (fun _=>?_) (fun _=>?_)|refine cdW_not (fun _=>?_) (fun _=>?_)|refine cdW_any (fun _=>?_) (fun _=>?_)|with_reducible refine gdW_decT (fun _=>?_) (fun _=>?_)|with_reducible refine gdW_decF (fun _=>?_) (fun _=>?_)|refine gdW_not (fun _=>?_) (fun _=>?_)|refine gdW_any (fun _=>?_) (fun _=>?_)|simp only [go_sem,bne,iQ,iB,iX,Int.reduceLE,iN,iA,iS,iM,setSt,setKn,tk_S,tk_K,tk_B,List.length_set, *]|rfl)
 | some r =>
  rw [hr] at cr
  obtain ⟨r1,r2⟩:=r
  dsimp only at cr
  repeat' (first|with_reducible rfl|refine fcW_bd (cr) rfl ?_|with_reducible refine cdW_dec (fun _=>?_) (fun _=>?_)|refine cdW_not (fun _=>?_) (fun _=>?_)|refine cdW_any (fun _=>?_) (fun _=>?_)|with_reducible refine gdW_decT (fun _=>?_) (fun _=>?_)|with_reducible refine gdW_decF (fun _=>?_) (fun _=>?_)|refine gdW_not (fun _=>?_) (fun _=>?_)|refine gdW_any (fun _=>?_) (fun _=>?_)|simp only [go_sem,bne,iQ,iB,iX,Int.reduceLE,iN,iA,iS,iM,setSt,setKn,tk_S,tk_K,tk_B,List.length_set, *]|rfl)
set_option maxHeartbeats 32000000
def regS (m:MayD) (i:Int):Int×Int:=m.reg.getD i.toNat (0,0)
def bitS (m:MayD) (i:Int):Int×Int:=m.bits.getD i.toNat (0,0)
def mayV (s:StepD) (m:MayD):MayD×Int :=
 if s.kind == 1 then (putM m s.dst (putV (stI s.op (regS m s.dst) (regS m s.src)) (kdI s.op (bitS m s.dst) (bitS m s.src))),0) else
 if s.kind == 2 then (putM m s.dst (putV (stI s.op (regS m s.dst) (s.imm,s.imm)) (kdI s.op (bitS m s.dst) (s.imm,0))),0) else
 if s.kind == 3 then (putM m s.dst ((s.imm,s.imm),(s.imm,0)),0) else
 if s.kind == 4 then (putM m s.dst ((s.imm,s.imm),(s.imm,0)),0) else
 if s.kind == 5 then (if (regS m s.src).2+s.imm ≥ 8 then (m,1) else (putM m s.dst ((0,255),(0,255)),0)) else
 if s.kind == 7 then (if s.imm ≥ 16 then (m,2) else ({ m with cell:=m.cell.set s.imm.toNat (regS m s.dst),isset:=m.isset.set s.imm.toNat true },0)) else
 if s.kind == 6 then (if s.imm ≥ 16 then (m,2) else if m.isset.getD s.imm.toNat false then (putM m s.dst (putV (m.cell.getD s.imm.toNat (0,0)) (0,65535)),0) else (m,3)) else
 (m,0)
theorem putV_const {n:Int} (h:0≤n∧n≤65535):putV (n,n) (n,0)=((n,n),(n,0)):=by
 have e:andNotI n 0=n:=by
  have hn:wd n:=h
  rw [andNotI_nat hn.nn ⟨by decide,by decide⟩]
  simp
  omega
 have hw:IntKind.i64.wrap (n+0)=n:=by rw [Int.add_zero];exact wrap_in (by omega) (by omega)
 unfold putV reduS
 dsimp only
 rw [hw]
 simp [e]
theorem putV_byte:putV (0,255) (0,255)=((0,255),(0,255)):=by decide
theorem kOk_const {n:Int} (h:0≤n∧n≤65535):KOk (n,0):=by
 refine ⟨h,(⟨by decide,by decide⟩:wd 0),?_⟩
 have hn:wd n:=h
 show andI n 0=0
 rw [andI_nat hn.nn ⟨by decide,by decide⟩];simp
theorem sOk_const {n:Int} (h:0≤n∧n≤65535):SOk (n,n):=⟨h.1,Int.le_refl _,h.2⟩
theorem setAg {l:List (Int×Int)} {i:Nat} {a b:Int}:(l.map strD).set i (D.agg [D.int .i64 a,D.int .i64 b])=(l.set i (a,b)).map strD:=by rw [List.map_set]
def MayZ (m:MayD) (f:Int):MayD:=if f == 0 then m else zeroM
theorem impl_stepMay.fc (s:StepD) (m:MayD) (hm:MayOk m) (hv:stepB s=true) :
 FCt prog F_impl_stepMay [.ro,.ro] [s.d,m.d] (.tup [(MayZ (mayV s m).1 (mayV s m).2).d,Ii (mayV s m).2]) []:=by
 refine fct_run impl_stepMay.ok rfl ?_
 have ok:=step_ok hv
 have kd:=valid_kind (.inr hv)
 have ln:=hm.len
 have co:=impl_May_own.fc m ln
 obtain ⟨l1,l2,l3,l4,gr,gb,gc⟩:=hm
 obtain ⟨k,op,dst,src,imm,to⟩:=s
 obtain ⟨_,od,os,oi,oo,ot,_,_⟩:=ok
 dsimp only at *
 have c6:((6:Nat):Int)=6:=rfl
 have c16:((16:Nat):Int)=16:=rfl
 have od1:=od.1
 have od2:dst < 6:=by omega
 have os1:=os.1
 have os2:src < 6:=by omega
 have i0:0≤imm:=oi.1
 have q1:m.reg[dst.toNat]? = some (regS m dst):=getD_some (by omega)
 have q2:m.reg[src.toNat]? = some (regS m src):=getD_some (by omega)
 have q3:m.bits[dst.toNat]? = some (bitS m dst):=getD_some (by omega)
 have q4:m.bits[src.toNat]? = some (bitS m src):=getD_some (by omega)
 have sd:=gS_ok (gr _ (List.mem_of_getElem? q1))
 have ss:=gS_ok (gr _ (List.mem_of_getElem? q2))
 have kd1:=gK_ok (gb _ (List.mem_of_getElem? q3))
 have ks:=gK_ok (gb _ (List.mem_of_getElem? q4))
 have sc:=sOk_const oi
 have kc:=kOk_const oi
 have w5:IntKind.i64.wrap ((regS m src).2+imm)=(regS m src).2+imm:=by have:=ss.hi;have:=ss.lo;have:=ss.le;exact wrap_in (by omega) (by omega)
 have h6:¬ imm ≥ 16→m.cell[imm.toNat]? = some (m.cell.getD imm.toNat (0,0)):=fun h=>getD_some (by omega)
 have h7:¬ imm ≥ 16→m.isset[imm.toNat]? = some (m.isset.getD imm.toNat false):=fun h=>getD_some (by omega)
 have b6:¬ imm ≥ 16→imm < 16:=fun h=>by omega
 have cs:=impl_stretched.fc op (regS m dst) (regS m src) sd ss
 have ck:=impl_doKnown.fc op (bitS m dst) (bitS m src) kd1 ks
 have cs2:=impl_stretched.fc op (regS m dst) (imm,imm) sd sc
 have ck2:=impl_doKnown.fc op (bitS m dst) (imm,0) kd1 kc
 have cp:=fun s k=>impl_pMay_put.fc m dst s k ln od1 od2
 have hp:=fun r=>putM_len (m:=m) (i:=dst) (r:=r) ln
 have pl1:=fun r=>(hp r).reg
 have pl2:=fun r=>(hp r).bits
 have pl3:=fun r=>(hp r).cell
 have pl4:=fun r=>(hp r).isset
 clear hp gr gb gc sd ss kd1 ks sc kc
 unfold mayV MayZ zeroM
 rcases kd with rfl|rfl|rfl|rfl|rfl|rfl|rfl|rfl|rfl|rfl|rfl
 · clear h6 h7 b6
   repeat' (first|with_reducible rfl|refine fcW_bd (co) (noRs_May) ?_|refine fcW_bd (cs) rfl ?_|refine fcW_bd (ck) rfl ?_|refine coW_of (cp _ _) (rfl) (noRsL_pMay) ?_|with_reducible refine cdW_dec (fun _=>?_) (fun _=>?_)|refine cdW_not (fun _=>?_) (fun _=>?_)|refine cdW_any (fun _=>?_) (fun _=>?_)|with_reducible refine gdW_decT (fun _=>?_) (fun _=>?_)|with_reducible refine gdW_decF (fun _=>?_) (fun _=>?_)|refine gdW_not (fun _=>?_) (fun _=>?_)|refine gdW_any (fun _=>?_) (fun _=>?_)|simp only [go_sem,bne,iQ,iB,iX,Int.reduceLE,iN,iA,iS,iM,setAg,setSt,setKn,setBb,tk_S,tk_K,tk_B,take_map_len,List.length_set, *]|rfl)
 · clear h6 h7 b6
   repeat' (first|with_reducible rfl|refine fcW_bd (co) (noRs_May) ?_|refine fcW_bd (cs2) rfl ?_|refine fcW_bd (impl_exact.fc imm) rfl ?_|refine fcW_bd (ck2) rfl ?_|refine coW_of (cp _ _) (rfl) (noRsL_pMay) ?_|with_reducible refine cdW_dec (fun _=>?_) (fun _=>?_)|refine cdW_not (fun _=>?_) (fun _=>?_)|refine cdW_any (fun _=>?_) (fun _=>?_)|with_reducible refine gdW_decT (fun _=>?_) (fun _=>?_)|with_reducible refine gdW_decF (fun _=>?_) (fun _=>?_)|refine gdW_not (fun _=>?_) (fun _=>?_)|refine gdW_any (fun _=>?_) (fun _=>?_)|simp only [go_sem,bne,iQ,iB,iX,Int.reduceLE,iN,iA,iS,iM,setAg,setSt,setKn,setBb,tk_S,tk_K,tk_B,take_map_len,List.length_set, *]|rfl)
 · clear h6 h7 b6
   repeat' (first|with_reducible rfl|refine fcW_bd (co) (noRs_May) ?_|refine fcW_bd (impl_exact.fc imm) rfl ?_|with_reducible refine cdW_dec (fun _=>?_) (fun _=>?_)|refine cdW_not (fun _=>?_) (fun _=>?_)|refine cdW_any (fun _=>?_) (fun _=>?_)|with_reducible refine gdW_decT (fun _=>?_) (fun _=>?_)|with_reducible refine gdW_decF (fun _=>?_) (fun _=>?_)|refine gdW_not (fun _=>?_) (fun _=>?_)|refine gdW_any (fun _=>?_) (fun _=>?_)|simp only [go_sem,bne,iQ,iB,iX,Int.reduceLE,iN,iA,iS,iM,setAg,setSt,setKn,setBb,tk_S,tk_K,tk_B,take_map_len,List.length_set, *]|rfl)
 · clear h6 h7 b6
   repeat' (first|with_reducible rfl|refine fcW_bd (co) (noRs_May) ?_|refine fcW_bd (impl_exact.fc imm) rfl ?_|with_reducible refine cdW_dec (fun _=>?_) (fun _=>?_)|refine cdW_not (fun _=>?_) (fun _=>?_)|refine cdW_any (fun _=>?_) (fun _=>?_)|with_reducible refine gdW_decT (fun _=>?_) (fun _=>?_)|with_reducible refine gdW_decF (fun _=>?_) (fun _=>?_)|refine gdW_not (fun _=>?_) (fun _=>?_)|refine gdW_any (fun _=>?_) (fun _=>?_)|simp only [go_sem,bne,iQ,iB,iX,Int.reduceLE,iN,iA,iS,iM,setAg,setSt,setKn,setBb,tk_S,tk_K,tk_B,take_map_len,List.length_set, *]|rfl)
 · clear h6 h7 b6
   by_cases h:(regS m src).2+imm ≥ 8
   · repeat' (first|with_reducible rfl|refine fcW_bd (co) (noRs_May) ?_|with_reducible refine cdW_dec (fun _=>?_) (fun _=>?_)|refine cdW_not (fun _=>?_) (fun _=>?_)|refine cdW_any (fun _=>?_) (fun _=>?_)|with_reducible refine gdW_decT (fun _=>?_) (fun _=>?_)|with_reducible refine gdW_decF (fun _=>?_) (fun _=>?_)|refine gdW_not (fun _=>?_) (fun _=>?_)|refine gdW_any (fun _=>?_) (fun _=>?_)|simp only [go_sem,bne,iQ,iB,iX,Int.reduceLE,iN,iA,iS,iM,setAg,setSt,setKn,setBb,tk_S,tk_K,tk_B,take_map_len,List.length_set, *]|rfl)
   · repeat' (first|with_reducible rfl|refine fcW_bd (co) (noRs_May) ?_|with_reducible refine cdW_dec (fun _=>?_) (fun _=>?_)|refine cdW_not (fun _=>?_) (fun _=>?_)|refine cdW_any (fun _=>?_) (fun _=>?_)|with_reducible refine gdW_decT (fun _=>?_) (fun _=>?_)|with_reducible refine gdW_decF (fun _=>?_) (fun _=>?_)|refine gdW_not (fun _=>?_) (fun _=>?_)|refine gdW_any (fun _=>?_) (fun _=>?_)|simp only [go_sem,bne,iQ,iB,iX,Int.reduceLE,iN,iA,iS,iM,setAg,setSt,setKn,setBb,tk_S,tk_K,tk_B,take_map_len,List.length_set, *]|rfl)
 · by_cases h:imm ≥ 16
   · clear h6 h7 b6
     repeat' (first|with_reducible rfl|refine fcW_bd (co) (noRs_May) ?_|with_reducible refine cdW_dec (fun _=>?_) (fun _=>?_)|refine cdW_not (fun _=>?_) (fun _=>?_)|refine cdW_any (fun _=>?_) (fun _=>?_)|with_reducible refine gdW_decT (fun _=>?_) (fun _=>?_)|with_reducible refine gdW_decF (fun _=>?_) (fun _=>?_)|refine gdW_not (fun _=>?_) (fun _=>?_)|refine gdW_any (fun _=>?_) (fun _=>?_)|simp only [go_sem,bne,iQ,iB,iX,Int.reduceLE,iN,iA,iS,iM,setAg,setSt,setKn,setBb,tk_S,tk_K,tk_B,take_map_len,List.length_set, *]|rfl)
   · have h6:=h6 h
     have h7:=h7 h
     have b6:=b6 h
     cases hq:m.isset.getD imm.toNat false<;>rw [hq] at h7
     · repeat' (first|with_reducible rfl|refine fcW_bd (co) (noRs_May) ?_|with_reducible refine cdW_dec (fun _=>?_) (fun _=>?_)|refine cdW_not (fun _=>?_) (fun _=>?_)|refine cdW_any (fun _=>?_) (fun _=>?_)|with_reducible refine gdW_decT (fun _=>?_) (fun _=>?_)|with_reducible refine gdW_decF (fun _=>?_) (fun _=>?_)|refine gdW_not (fun _=>?_) (fun _=>?_)|refine gdW_any (fun _=>?_) (fun _=>?_)|simp only [go_sem,bne,iQ,iB,iX,Int.reduceLE,iN,iA,iS,iM,setAg,setSt,setKn,setBb,tk_S,tk_K,tk_B,take_map_len,List.length_set, *]|rfl)
     · repeat' (first|with_reducible rfl|refine fcW_bd (co) (noRs_May) ?_|refine fcW_bd (impl_unknown.fc) rfl ?_|refine coW_of (cp _ (0,65535)) (rfl) (noRsL_pMay) ?_|with_reducible refine cdW_dec (fun _=>?_) (fun _=>?_)|refine cdW_not (fun _=>?_) (fun _=>?_)|refine cdW_any (fun _=>?_) (fun _=>?_)|with_reducible refine gdW_decT (fun _=>?_) (fun _=>?_)|with_reducible refine gdW_decF (fun _=>?_) (fun _=>?_)|refine gdW_not (fun _=>?_) (fun _=>?_)|refine gdW_any (fun _=>?_) (fun _=>?_)|simp only [go_sem,bne,iQ,iB,iX,Int.reduceLE,iN,iA,iS,iM,setAg,setSt,setKn,setBb,tk_S,tk_K,tk_B,take_map_len,List.length_set, *]|rfl)
 · by_cases h:imm ≥ 16
   · clear h6 h7 b6
     repeat' (first|with_reducible rfl|refine fcW_bd (co) (noRs_May) ?_|with_reducible refine cdW_dec (fun _=>?_) (fun _=>?_)|refine cdW_not (fun _=>?_) (fun _=>?_)|refine cdW_any (fun _=>?_) (fun _=>?_)|with_reducible refine gdW_decT (fun _=>?_) (fun _=>?_)|with_reducible refine gdW_decF (fun _=>?_) (fun _=>?_)|refine gdW_not (fun _=>?_) (fun _=>?_)|refine gdW_any (fun _=>?_) (fun _=>?_)|simp only [go_sem,bne,iQ,iB,iX,Int.reduceLE,iN,iA,iS,iM,setAg,setSt,setKn,setBb,tk_S,tk_K,tk_B,take_map_len,List.length_set, *]|rfl)
   · have h6:=h6 h
     have h7:=h7 h
     have b6:=b6 h
     repeat' (first|with_reducible rfl|refine fcW_bd (co) (noRs_May) ?_|with_reducible refine cdW_dec (fun _=>?_) (fun _=>?_)|refine cdW_not (fun _=>?_) (fun _=>?_)|refine cdW_any (fun _=>?_) (fun _=>?_)|with_reducible refine gdW_decT (fun _=>?_) (fun _=>?_)|with_reducible refine gdW_decF (fun _=>?_) (fun _=>?_)|refine gdW_not (fun _=>?_) (fun _=>?_)|refine gdW_any (fun _=>?_) (fun _=>?_)|simp only [go_sem,bne,iQ,iB,iX,Int.reduceLE,iN,iA,iS,iM,setAg,setSt,setKn,setBb,tk_S,tk_K,tk_B,take_map_len,List.length_set, *]|rfl)
 · clear h6 h7 b6
   repeat' (first|with_reducible rfl|refine fcW_bd (co) (noRs_May) ?_|with_reducible refine cdW_dec (fun _=>?_) (fun _=>?_)|refine cdW_not (fun _=>?_) (fun _=>?_)|refine cdW_any (fun _=>?_) (fun _=>?_)|with_reducible refine gdW_decT (fun _=>?_) (fun _=>?_)|with_reducible refine gdW_decF (fun _=>?_) (fun _=>?_)|refine gdW_not (fun _=>?_) (fun _=>?_)|refine gdW_any (fun _=>?_) (fun _=>?_)|simp only [go_sem,bne,iQ,iB,iX,Int.reduceLE,iN,iA,iS,iM,setAg,setSt,setKn,setBb,tk_S,tk_K,tk_B,take_map_len,List.length_set, *]|rfl)
 · clear h6 h7 b6
   repeat' (first|with_reducible rfl|refine fcW_bd (co) (noRs_May) ?_|with_reducible refine cdW_dec (fun _=>?_) (fun _=>?_)|refine cdW_not (fun _=>?_) (fun _=>?_)|refine cdW_any (fun _=>?_) (fun _=>?_)|with_reducible refine gdW_decT (fun _=>?_) (fun _=>?_)|with_reducible refine gdW_decF (fun _=>?_) (fun _=>?_)|refine gdW_not (fun _=>?_) (fun _=>?_)|refine gdW_any (fun _=>?_) (fun _=>?_)|simp only [go_sem,bne,iQ,iB,iX,Int.reduceLE,iN,iA,iS,iM,setAg,setSt,setKn,setBb,tk_S,tk_K,tk_B,take_map_len,List.length_set, *]|rfl)
 · clear h6 h7 b6
   repeat' (first|with_reducible rfl|refine fcW_bd (co) (noRs_May) ?_|with_reducible refine cdW_dec (fun _=>?_) (fun _=>?_)|refine cdW_not (fun _=>?_) (fun _=>?_)|refine cdW_any (fun _=>?_) (fun _=>?_)|with_reducible refine gdW_decT (fun _=>?_) (fun _=>?_)|with_reducible refine gdW_decF (fun _=>?_) (fun _=>?_)|refine gdW_not (fun _=>?_) (fun _=>?_)|refine gdW_any (fun _=>?_) (fun _=>?_)|simp only [go_sem,bne,iQ,iB,iX,Int.reduceLE,iN,iA,iS,iM,setAg,setSt,setKn,setBb,tk_S,tk_K,tk_B,take_map_len,List.length_set, *]|rfl)
 · clear h6 h7 b6
   repeat' (first|with_reducible rfl|refine fcW_bd (co) (noRs_May) ?_|with_reducible refine cdW_dec (fun _=>?_) (fun _=>?_)|refine cdW_not (fun _=>?_) (fun _=>?_)|refine cdW_any (fun _=>?_) (fun _=>?_)|with_reducible refine gdW_decT (fun _=>?_) (fun _=>?_)|with_reducible refine gdW_decF (fun _=>?_) (fun _=>?_)|refine gdW_not (fun _=>?_) (fun _=>?_)|refine gdW_any (fun _=>?_) (fun _=>?_)|simp only [go_sem,bne,iQ,iB,iX,Int.reduceLE,iN,iA,iS,iM,setAg,setSt,setKn,setBb,tk_S,tk_K,tk_B,take_map_len,List.length_set, *]|rfl)
end Go.Vm.Ytmicgdfekpoajaa
