/- What the functions that the law reaches return: part 1 (the conditions stand at each). -/
import Derived.Test.YtmbhjcgikblpiaaGreatIrb
open Int renaming reduceEq → iQ, reduceBEq → iB, reduceBNe → iX, reduceNeg → iN, reduceAdd → iA, reduceSub → iS, reduceMul → iM
attribute [go_sem_proc] Nat.reduceEqDiff Nat.reduceAdd Nat.reduceMul Nat.reduceBEq Int.reduceToNat Nat.reduceSub Nat.reduceLT Nat.reduceLeDiff Int.reduceLE Int.reduceLT reduceCtorEq
attribute [go_sem_proc ↓] reduceIte
attribute [go_sem] Option.getD_none
namespace Go.Vm
open Go
set_option linter.unusedSimpArgs false
set_option linter.unusedVariables false
abbrev Ii (n:Int):D:=.int .i64 n
abbrev Bb (b:Bool):D:=.bool b
abbrev ints (l:List Int):D:=.sl 1 (l.map Ii)
abbrev aI (n:Int):AV:=.dat none (.int .i64 n)
abbrev aB (b:Bool):AV:=.dat none (.bool b)
def i64 (n:Int):Prop:=-9223372036854775808≤n∧n≤9223372036854775807
theorem wrap_k {k m:Nat} (h:k < m) (hm:m≤9223372036854775807):IntKind.i64.wrap ((k:Int)+1)=((k+1:Nat):Int):=by
 rw [wrap_in (by omega) (by omega)];rfl
theorem take_succ' {α:Type} {l:List α} {k:Nat} (h:k < l.length):l.take (k+1)=l.take k++[l[k]]:=by
 rw [List.take_succ_eq_append_getElem h]
theorem all_take {α:Type} {p:α→Bool} {l:List α} {k:Nat} (h:k < l.length) (h1:(l.take k).all p=true) (h2:p l[k]=true):(l.take (k+1)).all p=true:=by
 rw [take_succ' h,List.all_append,h1];simpa using h2
theorem not_all {α:Type} {p:α→Bool} {l:List α} {k:Nat} (h:k < l.length) (h2:p l[k]=false):l.all p=false:=by
 rw [← Bool.not_eq_true,List.all_eq_true]
 intro hh
 have:=hh _ (List.getElem_mem h)
 rw [h2] at this;cases this
section
variable {α:Type} {f:α→D} {z:D} {l:List α} {k:Nat}
theorem take_map_len:(l.map f).take l.length=l.map f:=by rw [List.take_of_length_le (by simp)]
end
def ovr {α:Type} (A B:List α) (k:Nat):List α:=A.take k++B.drop k
section
variable {α:Type} {A B:List α} {k:Nat}
theorem ovr_zero:ovr A B 0=B:=by simp [ovr]
theorem ovr_all (h:A.length=B.length):ovr A B B.length=A:=by simp [ovr,← h]
theorem ovr_get (h:A.length=B.length) (hk:k < B.length):(ovr A B k)[k]? = B[k]?:=by
 have e:(A.take k).length=k:=by rw [List.length_take];omega
 rw [ovr,List.getElem?_append_right (by omega),e,Nat.sub_self,List.getElem?_drop];rfl
theorem ovr_set {x:α} (h:A.length=B.length) (hk:k < B.length) (hx:A[k]? = some x):(ovr A B k).set k x=ovr A B (k+1):=by
 have e:(A.take k).length=k:=by rw [List.length_take];omega
 have hd:B.drop k=B[k]::B.drop (k+1):=List.drop_eq_getElem_cons hk
 have hkA:k < A.length:=by omega
 have hx':A[k]=x:=by rw [List.getElem?_eq_getElem hkA] at hx;exact Option.some.inj hx
 rw [ovr,ovr,List.set_append_right _ _ (by omega),e,Nat.sub_self,hd,List.set_cons_zero,take_succ' hkA,hx',List.append_assoc];rfl
end
def RowAt (x:AV) (M:Mem) (nm sz:Nat) (ds:List D):Prop:=(ds=[]∧x=.nil sz)∨∃ v,x=.sl nm v 0 ds.length sz∧M.m nm=some (.arr v true sz ds)
theorem RowAt.nil {M:Mem} {nm sz:Nat}:RowAt (.nil sz) M nm sz []:=.inl ⟨rfl,rfl⟩
theorem RowAt.sl {x:AV} {M:Mem} {nm sz v n:Nat} {ds:List D} (hx:x=.sl nm v 0 n sz) (hn:n=ds.length) (hm:M.m nm=some (.arr v true sz ds)):RowAt x M nm sz ds:=.inr ⟨v,by rw [hx,hn],hm⟩
section
variable {α:Type} {f:Int→α→α} {c:α→Nat}
end
theorem noRsL_all:∀ {ds:List D},(∀ d∈ds,noRs d=true)→noRsL ds=true
 | [],_=>rfl
 | d::ds,h=>by simp only [noRsL,Bool.and_eq_true];exact ⟨h d List.mem_cons_self,noRsL_all fun x hx=>h x (List.mem_cons_of_mem _ hx)⟩
theorem noRs_sl {sz:Nat} {ds:List D} (h:∀ d∈ds,noRs d=true):noRs (.sl sz ds)=true:=by simp only [noRs];exact noRsL_all h
theorem noRs_ints {l:List Int}:noRs (ints l)=true:=noRs_sl (by simp [noRs])
section
variable {P:Program} {s:Nat→AV} {M:Mem} {nb ib:Nat}
theorem frzR_caps:∀ (caps:List D),frzR s M ((caps.map bindC).map X.k)=some caps
 | []=>rfl
 | c::caps=>by simp only [List.map_cons,frzR,ev_k,frz_bindC,frzR_caps caps]
theorem frzR_app:∀ (xs ys:List X),frzR s M (xs++ys)=match frzR s M xs,frzR s M ys with|some a,some b=>some (a++b)|_,_=>none
 | [],ys=>by simp only [List.nil_append,frzR];cases frzR s M ys<;>rfl
 | x::xs,ys=>by
  simp only [List.cons_append,frzR,frzR_app xs ys]
  cases frz M 8 (x.ev s)<;>cases frzR s M xs<;>cases frzR s M ys<;>rfl
theorem ccl_ro {f:FuncId} {caps:List D} {args:List X} {ds:List D} {K:AV→Mem→(Nat→Bool)→Prop} (ha:frzR s M args=some ds)
 (h:@fcW P f (args.map (fun _=>Md.ro)++caps.map fun _=>Md.ro) (ds++caps) false ((args++(caps.map bindC).map X.k).all fun x=>coldA (x.ev s)) nb ib M ⟨K⟩):@cW P (.clo f (caps.map bindC)) s M nb ib false args ⟨K⟩:=by
 rw [cW_clo,CR_ro,frzR_app,ha,frzR_caps]
 have e:((args++(caps.map bindC).map X.k).map fun _=>Md.ro)=(args.map (fun _=>Md.ro)++caps.map fun _=>Md.ro):=by simp [List.map_map,Function.comp_def]
 rw [e]
 exact h
end
def idxB {α:Type} (p:α→Bool) (l:List α):Int:=match l.findIdx? p with
 | some i=>i
 | none=>-1
theorem idxB_none {α:Type} {p:α→Bool} {l:List α} (h:l.all (fun x=>!p x)=true):idxB p l = -1:=by
 unfold idxB
 rw [List.findIdx?_eq_none_iff.2 (fun x hx=>by simpa using List.all_eq_true.1 h x hx)]
theorem idxB_some {α:Type} {p:α→Bool} {l:List α} {k:Nat} (hk:k < l.length) (h:(l.take k).all (fun x=>!p x)=true) (hp:p l[k]=true):idxB p l=k:=by
 unfold idxB
 rw [List.findIdx?_eq_some_iff_getElem.2 ⟨hk,hp,fun j hj=>by
  have:=List.all_eq_true.1 h l[j] (by rw [List.mem_take_iff_getElem];exact ⟨j,by omega,rfl⟩)
  simpa using this⟩]
theorem idxB_any {α:Type} {p:α→Bool} {l:List α}:decide (0≤idxB p l)=l.any p:=by
 unfold idxB
 cases h:l.findIdx? p with
 | none =>
  rw [List.findIdx?_eq_none_iff] at h
  rw [List.any_eq_false.2 (fun x hx=>by simp [h x hx])];rfl
 | some i =>
  rw [List.findIdx?_eq_some_iff_getElem] at h
  obtain ⟨hi,hp,_⟩:=h
  rw [List.any_eq_true.2 ⟨l[i],List.getElem_mem hi,hp⟩]
  simp
end Go.Vm
namespace Go.Vm.YtmbhjcgikblpiaaGreat
open Go Go.Vm
set_option maxRecDepth 10000
set_option maxHeartbeats 4000000
set_option linter.unusedSimpArgs false
set_option linter.unusedVariables false
def inB (n lo hi:Int):Bool:=decide (lo≤n)&&decide (n≤hi)
theorem impl_in.fc (n lo hi:Int):FCt prog F_impl_in [.ro,.ro,.ro] [Ii n,Ii lo,Ii hi] (Bb (inB n lo hi)) []:=by
 refine fct_run impl_in.ok rfl ?_
 unfold inB
 by_cases h:lo≤n
 · simp only [go_sem,ge_iff_le,h]
 · simp only [go_sem,ge_iff_le,h]
theorem spec_l1In.fc (n lo hi:Int):FCt prog F_spec_l1In [.ro,.ro,.ro] [Ii n,Ii lo,Ii hi] (Bb (inB n lo hi)) []:=by
 refine fct_run spec_l1In.ok rfl ?_
 unfold inB
 by_cases h:lo≤n
 · simp only [go_sem,ge_iff_le,h]
 · simp only [go_sem,ge_iff_le,h]
structure RuleD where
 ifs:List Int
 thn:Int
 deriving DecidableEq
abbrev RuleD.d (r:RuleD):D:=.agg [ints r.ifs,Ii r.thn]
abbrev rules (l:List RuleD):D:=.sl 2 (l.map RuleD.d)
abbrev pr (a b:Int):D:=.agg [Ii a,Ii b]
theorem spec_l1Word.fc (n:Int):FCt prog F_spec_l1Word [.ro] [Ii n] (Bb (inB n 0 65535)) []:=by
 refine fct_run spec_l1Word.ok rfl ?_
 simp only [go_sem]
 refine fcW_bool (spec_l1In.fc ..) ?_
 simp only [go_sem]
theorem impl_isWord.fc (n:Int):FCt prog F_impl_isWord [.ro] [Ii n] (Bb (inB n 0 65535)) []:=by
 refine fct_run impl_isWord.ok rfl ?_
 simp only [go_sem]
 refine fcW_bool (impl_in.fc ..) ?_
 simp only [go_sem]
def goodS (a b:Int):Bool:=inB a 0 65535&&inB b 0 65535&&decide (a≤b)
def andI (a b:Int):Int:=IntKind.i64.wrap (BitVec.ofInt IntKind.i64.bits a &&& BitVec.ofInt IntKind.i64.bits b).toNat
def andNotI (a b:Int):Int:=IntKind.i64.wrap (BitVec.ofInt IntKind.i64.bits a &&& ~~~BitVec.ofInt IntKind.i64.bits b).toNat
def goodK (a b:Int):Bool:=inB a 0 65535&&inB b 0 65535&&(andI a b == 0)
theorem spec_GoodStretch.fc (a b:Int):FCt prog F_spec_GoodStretch [.ro] [pr a b] (Bb (goodS a b)) []:=by
 refine fct_run spec_GoodStretch.ok rfl ?_
 unfold goodS
 simp only [go_sem]
 refine fcW_bool (spec_l1Word.fc ..) ?_
 cases h1:inB a 0 65535
 · simp only [go_sem]
 · simp only [go_sem]
   refine fcW_bool (spec_l1Word.fc ..) ?_
   cases h2:inB b 0 65535
   · simp only [go_sem]
   · simp only [go_sem]
theorem impl_GoodStretch.fc (a b:Int):FCt prog F_impl_GoodStretch [.ro] [pr a b] (Bb (goodS a b)) []:=by
 refine fct_run impl_GoodStretch.ok rfl ?_
 unfold goodS
 simp only [go_sem]
 refine fcW_bool (impl_isWord.fc ..) ?_
 cases h1:inB a 0 65535
 · simp only [go_sem]
 · simp only [go_sem]
   refine fcW_bool (impl_isWord.fc ..) ?_
   cases h2:inB b 0 65535
   · simp only [go_sem]
   · simp only [go_sem]
theorem spec_GoodKnown.fc (a b:Int):FCt prog F_spec_GoodKnown [.ro] [pr a b] (Bb (goodK a b)) []:=by
 refine fct_run spec_GoodKnown.ok rfl ?_
 unfold goodK andI
 simp only [go_sem]
 refine fcW_bool (spec_l1Word.fc ..) ?_
 cases h1:inB a 0 65535
 · simp only [go_sem]
 · simp only [go_sem]
   refine fcW_bool (spec_l1Word.fc ..) ?_
   cases h2:inB b 0 65535
   · simp only [go_sem]
   · simp only [go_sem]
theorem impl_GoodKnown.fc (a b:Int):FCt prog F_impl_GoodKnown [.ro] [pr a b] (Bb (goodK a b)) []:=by
 refine fct_run impl_GoodKnown.ok rfl ?_
 unfold goodK andI
 simp only [go_sem]
 refine fcW_bool (impl_isWord.fc ..) ?_
 cases h1:inB a 0 65535
 · simp only [go_sem]
 · simp only [go_sem]
   refine fcW_bool (impl_isWord.fc ..) ?_
   cases h2:inB b 0 65535
   · simp only [go_sem]
   · simp only [go_sem]
theorem spec_l10May.fc (a b n:Int):FCt prog F_spec_l10May [.ro,.ro] [pr a b,Ii n] (Bb (andNotI n b == a)) []:=by
 refine fct_run spec_l10May.ok rfl ?_
 unfold andNotI
 simp only [go_sem]
theorem impl_Known_matches.fc (a b n:Int):FCt prog F_impl_Known_matches [.ro,.ro] [pr a b,Ii n] (Bb (andNotI n b == a)) []:=by
 refine fct_run impl_Known_matches.ok rfl ?_
 unfold andNotI
 simp only [go_sem]
theorem impl_exact.fc (n:Int):FCt prog F_impl_exact [.ro] [Ii n] (pr n 0) []:=by
 refine fct_run impl_exact.ok rfl ?_
 simp only [go_sem]
theorem spec_l1Most.fc (a b:Int):FCt prog F_spec_l1Most [.ro,.ro] [Ii a,Ii b] (Ii (if b > a then b else a)) []:=by
 refine fct_run spec_l1Most.ok rfl ?_
 by_cases h:a > b
 · have e:(if b > a then b else a)=a:=by split<;>omega
   simp only [go_sem,h,e]
 · have e:(if b > a then b else a)=b:=by split<;>omega
   simp only [go_sem,h,e]
theorem spec_l1Least.fc (a b:Int):FCt prog F_spec_l1Least [.ro,.ro] [Ii a,Ii b] (Ii (if b < a then b else a)) []:=by
 refine fct_run spec_l1Least.ok rfl ?_
 by_cases h:a < b
 · have e:(if b < a then b else a)=a:=by split<;>omega
   simp only [go_sem,h,e]
 · have e:(if b < a then b else a)=b:=by split<;>omega
   simp only [go_sem,h,e]
def redu (a b v m:Int):D :=
 let lo:=if v > a then v else a
 let hi:=if IntKind.i64.wrap (v+m) < b then IntKind.i64.wrap (v+m) else b
 if lo > hi then .tup [pr 0 0,pr 0 0,Bb false] else
 if lo < hi then .tup [pr lo hi,pr v m,Bb true] else
 if andNotI lo m == v then .tup [pr lo hi,pr lo 0,Bb true] else .tup [pr 0 0,pr 0 0,Bb false]
theorem impl_reduceBoth.fc (a b v m:Int):FCt prog F_impl_reduceBoth [.ro,.ro] [pr a b,pr v m] (redu a b v m) []:=by
 refine fct_run impl_reduceBoth.ok rfl ?_
 unfold redu
 generalize hlo:(if v > a then v else a)=lo
 generalize hhi:(if IntKind.i64.wrap (v+m) < b then IntKind.i64.wrap (v+m) else b)=hi
 dsimp only
 simp only [go_sem,hlo,hhi]
 by_cases h1:lo > hi
 · simp only [go_sem,h1]
 · by_cases h2:lo < hi
   · simp only [go_sem,h1,h2]
   · simp only [go_sem,h1,h2]
     refine fcW_bool (impl_Known_matches.fc ..) ?_
     cases h3:(andNotI lo m == v)
     · simp only [go_sem,h1,h2]
     · simp only [go_sem]
       refine fcW_of (impl_exact.fc _) rfl rfl (by omega) rfl ?_
       simp only [go_sem,h1,h2]
theorem spec_l13Reduce.fc (a b v m:Int):FCt prog F_spec_l13Reduce [.ro,.ro] [pr a b,pr v m] (redu a b v m) []:=by
 refine fct_run spec_l13Reduce.ok rfl ?_
 unfold redu
 generalize hlo:(if v > a then v else a)=lo
 generalize hhi:(if IntKind.i64.wrap (v+m) < b then IntKind.i64.wrap (v+m) else b)=hi
 dsimp only
 simp only [go_sem]
 refine fcW_int (spec_l1Most.fc ..) ?_
 simp only [go_sem]
 refine fcW_int (spec_l1Least.fc ..) ?_
 simp only [go_sem,hlo,hhi]
 by_cases h1:lo > hi
 · simp only [go_sem,h1]
 · by_cases h2:lo < hi
   · have h3:(lo == hi)=false:=by simp;omega
     simp only [go_sem,h1,h2,h3]
   · obtain rfl:lo=hi:=by omega
     simp only [go_sem,h1,h2]
     refine fcW_bool (spec_l10May.fc ..) ?_
     cases h3:(andNotI lo m == v)
     · simp only [go_sem,h1,h2]
     · simp only [go_sem,h1,h2]
abbrev arcD (a:Int×Int):D:=pr a.1 a.2
abbrev arcs (l:List (Int×Int)):D:=.sl 2 (l.map arcD)
theorem slices_IndexFunc__sint_int.fc (l:List Int) (f:FuncId) (caps:List D) (p:Int→Bool) (hl:l.length≤4294967296)
 (h:∀ x∈l,FCt prog f (.ro::caps.map fun _=>.ro) (Ii x::caps) (Bb (p x)) []):FCt prog F_slices_IndexFunc__sint_int [.ro,.ro] [ints l,.clo f caps] (Ii (idxB p l)) []:=by
 refine fct_run slices_IndexFunc__sint_int.ok rfl ?_
 simp only [go_sem]
 refine R_loop (α:=Nat) (fun k s' M'=>k≤l.length∧s' 8=aI k∧(l.take k).all (fun x=>!p x)=true) (fun k=>l.length - k) 0 ⟨by omega,by simp only [go_sem];rfl,by simp⟩ ?_
 rintro k s' M' ⟨hk,h8,hr⟩ ho
 have h0:s' 0=.dat none (ints l):=by rw [ho 0 rfl];simp only [go_sem]
 have h1:s' 1=.clo f (caps.map bindC):=by rw [ho 1 rfl];simp only [go_sem]
 have h7:s' 7=aI l.length:=by rw [ho 7 rfl];simp only [go_sem]
 clear ho
 unfold slices_IndexFunc__sint_int.b0
 by_cases hlt:k < l.length
 · have hi':(k:Int) < l.length:=by omega
   have ga:l[k]? = some l[k]:=List.getElem?_eq_getElem hlt
   have hw:IntKind.i64.wrap (k+1)=((k+1:Nat):Int):=wrap_k hlt (by omega)
   simp only [go_sem,h0,h1,h7,h8,hi',ga]
   refine ccl_ro (ds:=[Ii l[k]]) (by simp only [go_sem]) ?_
   refine fcW_bool (h _ (List.getElem_mem hlt)) ?_
   cases hp:p l[k] with
   | true=>simp only [go_sem,idxB_some hlt hr hp]
   | false =>
    simp only [go_sem,h8,hw]
    exact ⟨k+1,by dsimp only;omega,by omega,by simp only [go_sem],all_take hlt hr (by simp [hp])⟩
 · have hi':¬ (k:Int) < l.length:=by omega
   rw [List.take_of_length_le (by omega)] at hr
   simp only [go_sem,h0,h1,h7,h8,hi',idxB_none hr]
theorem slices_ContainsFunc__sint_int.fc (l:List Int) (f:FuncId) (caps:List D) (p:Int→Bool) (hl:l.length≤4294967296)
 (h:∀ x∈l,FCt prog f (.ro::caps.map fun _=>.ro) (Ii x::caps) (Bb (p x)) []):FCt prog F_slices_ContainsFunc__sint_int [.ro,.ro] [ints l,.clo f caps] (Bb (l.any p)) []:=by
 refine fct_run slices_ContainsFunc__sint_int.ok rfl ?_
 simp only [go_sem]
 refine fcW_int (slices_IndexFunc__sint_int.fc l f caps p hl h) ?_
 simp only [go_sem,ge_iff_le,idxB_any]
def putK (l:List Int) (x:Int):Nat:=l.findIdx (fun y=>!decide (y < x))
def putI (l:List Int) (x:Int):List Int:=if l[putK l x]? = some x then l else l.take (putK l x)++x::l.drop (putK l x)
theorem putI_len (l:List Int) (x:Int):(putI l x).length≤l.length+1:=by
 unfold putI
 split
 · omega
 · simp;omega
abbrev bools (l:List Bool):D:=.sl 1 (l.map Bb)
def hasI (so:List Int) (x:Int):Bool:=so.any (· == x)
def listI (n:Nat) (p:Nat→Bool):List Int:=((List.range n).filter p).map fun (i:Nat)=>(i:Int)
theorem noRs_bools {l:List Bool}:noRs (bools l)=true:=noRs_sl (by
 intro d hd;obtain ⟨x,_,rfl⟩:=List.mem_map.1 hd;rfl)
theorem allScB {l:List Bool}:(l.map Bb).all isSc=true:=by
 rw [List.all_eq_true];intro d hd;obtain ⟨x,_,rfl⟩:=List.mem_map.1 hd;rfl
theorem slices_Clone__sbool_bool.fc (b:Bool) (l:List Bool) (hl:l.length≤4294967296):FCt prog F_slices_Clone__sbool_bool [.ro] [bools (b::l)] (bools (b::l)) []:=by
 refine fct_run slices_Clone__sbool_bool.ok rfl ?_
 have hb:(l.length+1) * 1≤70368744177664:=by omega
 have htk:(l.map Bb).take l.length=l.map Bb:=List.take_of_length_le (by simp)
 simp only [go_sem,allScB,hb,Nat.zero_le,htk]
 rfl
theorem slices_Clone__sbool_bool.fc1 (l:List Bool) (h:0 < l.length) (hl:l.length≤4294967296):FCt prog F_slices_Clone__sbool_bool [.ro] [bools l] (bools l) []:=by
 cases l with
 | nil=>simp at h
 | cons b l=>exact slices_Clone__sbool_bool.fc b l (by simpa using Nat.le_of_succ_le hl)
def segI (a b:Nat) (p:Nat→Bool):List Int:=((List.range' a b).filter p).map fun (i:Nat)=>(i:Int)
theorem listI_seg (n:Nat) (p:Nat→Bool):listI n p=segI 0 n p:=by simp only [listI,segI,List.range_eq_range']
theorem segI_split {a b c:Nat} {p:Nat→Bool}:segI a (b+c) p=segI a b p++segI (a+b) c p:=by
 simp only [segI]
 rw [← List.range'_append_1,List.filter_append,List.map_append]
theorem segI_mem {a b:Nat} {p:Nat→Bool} {x:Int} (h:x∈segI a b p):∃ i:Nat,x=i∧a≤i∧i < a+b∧p i=true:=by
 simp only [segI,List.mem_map,List.mem_filter,List.mem_range'_1] at h
 obtain ⟨i,⟨hi,hp⟩,rfl⟩:=h
 exact ⟨i,rfl,hi.1,hi.2,hp⟩
theorem segI_congr {a b:Nat} {p q:Nat→Bool} (h:∀ i,a≤i→i < a+b→p i=q i):segI a b p=segI a b q:=by
 simp only [segI]
 congr 1
 exact List.filter_congr fun i hi=>by rw [List.mem_range'_1] at hi;exact h i hi.1 hi.2
theorem putK_app {A C:List Int} {x:Int} (hA:∀ y∈A,y < x) (hC:∀ y∈C,¬ y < x):putK (A++C) x=A.length:=by
 unfold putK
 have h1:A.findIdx (fun y=>!decide (y < x))=A.length:=by
  rw [List.findIdx_eq_length];intro y hy;simp [hA y hy]
 rw [List.findIdx_append,h1,if_neg (by omega)]
 cases C with
 | nil=>simp
 | cons c C =>
  have:=hC c List.mem_cons_self
  simp only [List.findIdx_cons,this,decide_false,Bool.not_false,cond_true,Nat.zero_add]
theorem putI_app {A C:List Int} {x:Int} (hA:∀ y∈A,y < x) (hC:∀ y∈C,x < y):putI (A++C) x=A++x::C∧putI (A++x::C) x=A++x::C:=by
 constructor
 · unfold putI
   rw [putK_app hA (fun y hy=>by have:=hC y hy;omega)]
   have:(A++C)[A.length]?≠some x:=by
    rw [List.getElem?_append_right (Nat.le_refl _),Nat.sub_self]
    cases C with
    | nil=>simp
    | cons c C=>have:=hC c List.mem_cons_self;simp;omega
   rw [if_neg this]
   simp
 · unfold putI
   rw [putK_app hA (fun y hy=>by
    rcases List.mem_cons.1 hy with rfl|hy
    · omega
    · have:=hC y hy;omega)]
   simp
theorem putI_list {n:Nat} {p:Nat→Bool} {x:Nat} (hx:x < n):putI (listI n p) x=listI n (fun i=>if i=x then true else p i):=by
 obtain ⟨m,rfl⟩:∃ m,n=x+(1+m):=⟨n - x - 1,by omega⟩
 rw [listI_seg,listI_seg,segI_split (p:=p),segI_split (p:=p) (b:=1),segI_split (p:=fun i=>if i=x then true else p i),segI_split (p:=fun i=>if i=x then true else p i) (b:=1)]
 simp only [Nat.zero_add]
 have hA:∀ q,∀ y∈segI 0 x q,y < (x:Int):=fun q y hy=>by obtain ⟨i,rfl,_,h,_⟩:=segI_mem hy;omega
 have hC:∀ q,∀ y∈segI (x+1) m q,(x:Int) < y:=fun q y hy=>by obtain ⟨i,rfl,h,_,_⟩:=segI_mem hy;omega
 have e1:segI 0 x (fun i=>if i=x then true else p i)=segI 0 x p:=segI_congr fun i _ h=>by rw [if_neg (by omega)]
 have e2:segI (x+1) m (fun i=>if i=x then true else p i)=segI (x+1) m p:=segI_congr fun i h _=>by rw [if_neg (by omega)]
 have e3:segI x 1 (fun i=>if i=x then true else p i)=[(x:Int)]:=by simp [segI]
 rw [e1,e2,e3]
 cases hp:p x with
 | true =>
  have e4:segI x 1 p=[(x:Int)]:=by simp [segI,hp]
  rw [e4]
  exact (putI_app (hA p) (hC p)).2
 | false =>
  have e4:segI x 1 p=[]:=by simp [segI,hp]
  rw [e4,List.nil_append]
  exact (putI_app (hA p) (hC p)).1
theorem listI_congr {n:Nat} {p q:Nat→Bool} (h:∀ i,i < n→p i=q i):listI n p=listI n q:=by
 rw [listI_seg,listI_seg];exact segI_congr fun i _ hi=>h i (by omega)
theorem noRs_agg {fs:List D} (h:∀ d∈fs,noRs d=true):noRs (.agg fs)=true:=by simp only [noRs];exact noRsL_all h
theorem hasSl {α:Type} {f:α→D} {p:α→Prop} {T:Ty} (one:∀ x,HasTy T x→∃ a,x=f a∧p a) {d:D} (h:HasTy (.sl T) d):∃ l:List α,d=.sl T.cells (l.map f)∧l.length≤9223372036854775807∧∀ a∈l,p a:=by
 simp only [HasTy] at h
 obtain ⟨xs,rfl,hl,h⟩:=h
 have:∀ xs:List D,(∀ x∈xs,HasTy T x)→∃ l:List α,xs=l.map f∧∀ a∈l,p a:=by
  intro xs
  induction xs with
  | nil=>intro _;exact ⟨[],rfl,by simp⟩
  | cons x xs ih =>
   intro h
   obtain ⟨a,rfl,hp⟩:=one x (h x List.mem_cons_self)
   obtain ⟨l,rfl,hl⟩:=ih fun y hy=>h y (List.mem_cons_of_mem _ hy)
   exact ⟨a::l,rfl,fun b hb=>by
    rcases List.mem_cons.1 hb with rfl|hb
    · exact hp
    · exact hl b hb⟩
 obtain ⟨l,rfl,hp⟩:=this xs h
 exact ⟨l,rfl,by simpa [maxLen] using hl,hp⟩
theorem noRs_t2 {a b:D} (h1:noRs a=true) (h2:noRs b=true):noRs (.tup [a,b])=true:=by simp only [noRs,noRsL,h1,h2,Bool.and_self]
theorem mem_putI {l:List Int} {x y:Int}:y∈putI l x↔y=x∨y∈l:=by
 unfold putI
 split
 · rename_i h
   have:=List.mem_of_getElem? h
   constructor
   · exact .inr
   · rintro (rfl|h)
     · exact this
     · exact h
 · rw [List.mem_append,List.mem_cons]
   have:y∈l↔y∈l.take (putK l x)∨y∈l.drop (putK l x):=by rw [← List.mem_append,List.take_append_drop]
   rw [this]
   constructor
   · rintro (h|rfl|h)
     · exact .inr (.inl h)
     · exact .inl rfl
     · exact .inr (.inr h)
   · rintro (rfl|h|h)
     · exact .inr (.inl rfl)
     · exact .inl h
     · exact .inr (.inr h)
theorem hasI_iff {l:List Int} {x:Int}:hasI l x=true↔x∈l:=by
 unfold hasI
 rw [List.any_eq_true]
 exact ⟨fun ⟨y,h,e⟩=>by rw [← (by simpa using e:y=x)];exact h,fun h=>⟨x,h,by simp⟩⟩
theorem hasI_put {l:List Int} {x y:Int}:hasI (putI l x) y=(decide (y=x)||hasI l y):=by
 rw [Bool.eq_iff_iff,hasI_iff,mem_putI,Bool.or_eq_true,decide_eq_true_eq,hasI_iff]
def lackN (n:Nat) (so:List Int):Nat:=((List.range (n+1)).filter fun (i:Nat)=>!hasI so (i:Int)).length
theorem filter_lt {α:Type} {p q:α→Bool} {l:List α} {z:α} (hz:z∈l) (hp:p z=true) (hq:q z=false) (h:∀ y,q y=true→p y=true):(l.filter q).length < (l.filter p).length:=by
 have e:l.filter q=(l.filter p).filter q:=by
  rw [List.filter_filter]
  refine List.filter_congr fun y _=>?_
  cases hh:q y with
  | false=>simp
  | true=>simp [h y hh]
 rw [e]
 exact List.length_filter_lt_length_iff_exists.2 ⟨z,List.mem_filter.2 ⟨hz,hp⟩,by simp [hq]⟩
theorem lack_put {n:Nat} {so:List Int} {x:Int} (hx:0≤x∧x≤n) (h:hasI so x=false):lackN n (putI so x)+1≤lackN n so:=by
 unfold lackN
 have e:((x.toNat:Nat):Int)=x:=by omega
 refine Nat.succ_le_of_lt (filter_lt (z:=x.toNat) (by simp;omega) ?_ ?_ fun y hy=>?_)
 · rw [e,h];rfl
 · rw [e,hasI_put];simp
 · rw [hasI_put] at hy;simp at hy;simp [hy.2]
theorem lack_le {n:Nat} {so:List Int}:lackN n so≤n+1:=by
 unfold lackN
 exact Nat.le_trans (List.length_filter_le _ _) (by simp)
def readyR (so:List Int) (r:RuleD):Bool:=decide (r.thn > 0)&&!hasI so r.thn&&r.ifs.all (hasI so)
def ruleAt (l:List RuleD) (i:Nat):RuleD:=l.getD i ⟨[],0⟩
def leastI (l:List RuleD):Nat→List Int→List Int→List Int×List Int
 | 0,so,ap=>(so,ap)
 | f+1,so,ap=>match l.findIdx? (readyR so) with
  | none=>(so,ap)
  | some i=>leastI l f (putI so (ruleAt l i).thn) (ap++[(i:Int)])
theorem ruleAt_get {l:List RuleD} {i:Nat} (h:i < l.length):ruleAt l i=l[i]:=by
 unfold ruleAt;rw [List.getD_eq_getElem?_getD,List.getElem?_eq_getElem h];rfl
theorem ready_at {l:List RuleD} {so:List Int} {i:Nat} (h:l.findIdx? (readyR so)=some i):i < l.length∧readyR so (ruleAt l i)=true:=by
 rw [List.findIdx?_eq_some_iff_getElem] at h
 obtain ⟨hi,h,_⟩:=h
 exact ⟨hi,by rw [ruleAt_get hi];exact h⟩
theorem ready_thn {so:List Int} {r:RuleD} (h:readyR so r=true):0 < r.thn∧hasI so r.thn=false:=by
 simp only [readyR,Bool.and_eq_true,decide_eq_true_eq,Bool.not_eq_true'] at h
 exact ⟨h.1.1,h.1.2⟩
theorem ready_lack {n:Nat} {l:List RuleD} {so:List Int} {i:Nat} (hr:∀ r∈l,r.thn≤n) (h:l.findIdx? (readyR so)=some i):lackN n (putI so (ruleAt l i).thn)+1≤lackN n so:=by
 obtain ⟨hi,h⟩:=ready_at h
 have:=ready_thn h
 exact lack_put ⟨by omega,hr _ (by rw [ruleAt_get hi];exact List.getElem_mem hi)⟩ this.2
theorem least_fuel {n:Nat} {l:List RuleD} (hr:∀ r∈l,r.thn≤n):∀ (f g:Nat) (so ap:List Int),lackN n so≤f→lackN n so≤g→leastI l f so ap=leastI l g so ap:=by
 intro f
 induction f with
 | zero =>
  intro g so ap hf hg
  cases g with
  | zero=>rfl
  | succ g =>
   simp only [leastI]
   cases h:l.findIdx? (readyR so) with
   | none=>rfl
   | some i=>have:=ready_lack hr h;omega
 | succ f ih =>
  intro g so ap hf hg
  cases g with
  | zero =>
   simp only [leastI]
   cases h:l.findIdx? (readyR so) with
   | none=>rfl
   | some i=>have:=ready_lack hr h;omega
  | succ g =>
   simp only [leastI]
   cases h:l.findIdx? (readyR so) with
   | none=>rfl
   | some i =>
    have:=ready_lack hr h
    exact ih g _ _ (by omega) (by omega)
def leastP (l:List RuleD):List Int×List Int:=leastI l 14 [] []
theorem least_step {n:Nat} {l:List RuleD} (hn:n≤12) (hr:∀ r∈l,r.thn≤n) {so ap:List Int} {i:Nat} (h:l.findIdx? (readyR so)=some i):leastI l 14 (putI so (ruleAt l i).thn) (ap++[(i:Int)])=leastI l 14 so ap:=by
 have h1:leastI l 15 so ap=leastI l 14 (putI so (ruleAt l i).thn) (ap++[(i:Int)]):=by simp only [leastI,h]
 have hl:=lack_le (n:=n) (so:=so)
 rw [← h1]
 exact least_fuel hr _ _ _ _ (by omega) (by omega)
structure LeastOk (n:Nat) (l:List RuleD) (so ap:List Int):Prop where
 same:leastI l 14 so ap=leastP l
 sort:so=listI (n+1) fun i=>hasI so (i:Int)
 few:so.length≤ap.length
 left:ap.length+lackN n so≤n+1
 apl:∀ i∈ap,0≤i∧i < l.length∧0 < (ruleAt l i.toNat).thn
theorem LeastOk.start {n:Nat} {l:List RuleD}:LeastOk n l [] [] where
 same:=rfl
 sort:=by
  have:listI (n+1) (fun i=>hasI [] (i:Int))=[]:=by
   unfold listI;rw [List.filter_eq_nil_iff.2 (by intro i _;simp [hasI])];rfl
  rw [this]
 few:=by simp
 left:=by have:=lack_le (n:=n) (so:=[]);simpa using this
 apl:=by simp
theorem LeastOk.next {n:Nat} {l:List RuleD} {so ap:List Int} (hn:n≤12) (hr:∀ r∈l,r.thn≤n) (h:LeastOk n l so ap) {i:Nat} (hi:l.findIdx? (readyR so)=some i):LeastOk n l (putI so (ruleAt l i).thn) (ap++[(i:Int)]) where
 same:=by rw [least_step hn hr hi];exact h.same
 sort:=by
  obtain ⟨h1,h2⟩:=ready_at hi
  have h3:=ready_thn h2
  have h4:(ruleAt l i).thn≤n:=hr _ (by rw [ruleAt_get h1];exact List.getElem_mem h1)
  have hp:=putI_list (n:=n+1) (p:=fun i=>hasI so (i:Int)) (x:=(ruleAt l i).thn.toNat) (by omega)
  rw [← h.sort,show (((ruleAt l i).thn.toNat:Nat):Int)=(ruleAt l i).thn by omega] at hp
  rw [hp]
  refine listI_congr fun j hj=>?_
  rw [← hp,hasI_put]
  by_cases e:j=(ruleAt l i).thn.toNat
  · rw [if_pos e];simp;omega
  · rw [if_neg e]
    have:¬ ((j:Int)=(ruleAt l i).thn):=by omega
    simp [this]
 few:=by have:=putI_len so (ruleAt l i).thn;have:=h.few;simp;omega
 left:=by have:=ready_lack hr hi;have:=h.left;simp;omega
 apl:=fun j hj=>by
  rcases List.mem_append.1 hj with hj|hj
  · exact h.apl j hj
  · obtain ⟨h1,h2⟩:=ready_at hi
    have:j=i:=by simpa using hj
    subst this
    exact ⟨by omega,by omega,by rw [Int.toNat_natCast];exact (ready_thn h2).1⟩
theorem LeastOk.len {n:Nat} {l:List RuleD} {so ap:List Int} (h:LeastOk n l so ap) (hn:n≤12):so.length≤13∧ap.length≤13:=by
 have:=h.few;have:=h.left;omega
theorem slices_Clone__sint_int.fc (l:List Int) (hl:l.length≤4294967296):FCt prog F_slices_Clone__sint_int [.ro] [ints l] (ints l) []:=by
 refine fct_run slices_Clone__sint_int.ok rfl ?_
 have hsc:(l.map Ii).all isSc=true:=by rw [List.all_eq_true];intro d hd;obtain ⟨x,_,rfl⟩:=List.mem_map.1 hd;rfl
 cases l with
 | nil=>simp only [go_sem,List.length_nil,List.map_nil,List.all_nil];try rfl
 | cons b l =>
  have hb:(l.length+1) * 8≤70368744177664:=by simp only [List.length_cons] at hl;omega
  have htk:(l.map Ii).take l.length=l.map Ii:=List.take_of_length_le (by simp)
  simp only [List.map_cons,List.all_cons,Bool.and_eq_true] at hsc
  have h1:=hsc.1
  have h2:=hsc.2
  simp only [go_sem,h1,h2,hb,Nat.zero_le,htk]
  try rfl
abbrev strD (x:(Int×Int)):D:=.agg [Ii x.1,Ii x.2]
abbrev knownD (x:(Int×Int)):D:=.agg [Ii x.1,Ii x.2]
abbrev strs (l:List (Int×Int)):D:=.sl 2 (l.map strD)
theorem noRs_strs {l:List (Int×Int)}:noRs (strs l)=true:=noRs_sl (by
 intro d hd
 obtain ⟨x,_,rfl⟩:=List.mem_map.1 hd
 exact rfl)
abbrev knowns (l:List (Int×Int)):D:=.sl 2 (l.map knownD)
theorem noRs_knowns {l:List (Int×Int)}:noRs (knowns l)=true:=noRs_sl (by
 intro d hd
 obtain ⟨x,_,rfl⟩:=List.mem_map.1 hd
 exact rfl)
structure MayD where
 reg:List (Int×Int)
 bits:List (Int×Int)
 cell:List (Int×Int)
 isset:List Bool
 deriving DecidableEq
abbrev MayD.d (x:MayD):D:=.agg [strs x.reg,knowns x.bits,strs x.cell,bools x.isset]
theorem noRs_May {x:MayD}:noRs (MayD.d x)=true:=noRs_agg fun d hd=>by
 rcases List.mem_cons.1 hd with rfl|hd
 · exact noRs_strs
 rcases List.mem_cons.1 hd with rfl|hd
 · exact noRs_knowns
 rcases List.mem_cons.1 hd with rfl|hd
 · exact noRs_strs
 rcases List.mem_cons.1 hd with rfl|hd
 · exact noRs_bools
 cases hd
def wMay (x:MayD):Nat:=x.reg.length+x.bits.length+x.cell.length+x.isset.length
theorem slices_IndexFunc__sStretch_Stretch.fc (l:List (Int×Int)) (f:FuncId) (caps:List D) (p:(Int×Int)→Bool) (hl:l.length≤4294967296)
 (h:∀ x∈l,FCt prog f (.ro::caps.map fun _=>.ro) (strD x::caps) (Bb (p x)) []):FCt prog F_slices_IndexFunc__sStretch_Stretch [.ro,.ro] [strs l,.clo f caps] (Ii (idxB p l)) []:=by
 refine fct_run slices_IndexFunc__sStretch_Stretch.ok rfl ?_
 simp only [go_sem]
 refine R_loop (α:=Nat) (fun k s' M'=>k≤l.length∧s' 8=aI k∧(l.take k).all (fun x=>!p x)=true) (fun k=>l.length - k) 0 ⟨by omega,by simp only [go_sem];rfl,by simp⟩ ?_
 rintro k s' M' ⟨hk,h8,hr⟩ ho
 have h0:s' 0=.dat none (strs l):=by rw [ho 0 rfl];simp only [go_sem]
 have h1:s' 1=.clo f (caps.map bindC):=by rw [ho 1 rfl];simp only [go_sem]
 have h7:s' 7=aI l.length:=by rw [ho 7 rfl];simp only [go_sem]
 clear ho
 unfold slices_IndexFunc__sStretch_Stretch.b0
 by_cases hlt:k < l.length
 · have hi':(k:Int) < l.length:=by omega
   have ga:l[k]? = some l[k]:=List.getElem?_eq_getElem hlt
   have hw:IntKind.i64.wrap (k+1)=((k+1:Nat):Int):=wrap_k hlt (by omega)
   simp only [go_sem,h0,h1,h7,h8,hi',ga]
   refine ccl_ro (ds:=[strD l[k]]) (by simp only [go_sem]) ?_
   refine fcW_bool (h _ (List.getElem_mem hlt)) ?_
   cases hp:p l[k] with
   | true=>simp only [go_sem,idxB_some hlt hr hp]
   | false =>
    simp only [go_sem,h8,hw]
    exact ⟨k+1,by dsimp only;omega,by omega,by simp only [go_sem],all_take hlt hr (by simp [hp])⟩
 · have hi':¬ (k:Int) < l.length:=by omega
   rw [List.take_of_length_le (by omega)] at hr
   simp only [go_sem,h0,h1,h7,h8,hi',idxB_none hr]
theorem slices_ContainsFunc__sStretch_Stretch.fc (l:List (Int×Int)) (f:FuncId) (caps:List D) (p:(Int×Int)→Bool) (hl:l.length≤4294967296)
 (h:∀ x∈l,FCt prog f (.ro::caps.map fun _=>.ro) (strD x::caps) (Bb (p x)) []):FCt prog F_slices_ContainsFunc__sStretch_Stretch [.ro,.ro] [strs l,.clo f caps] (Bb (l.any p)) []:=by
 refine fct_run slices_ContainsFunc__sStretch_Stretch.ok rfl ?_
 simp only [go_sem]
 refine fcW_int (slices_IndexFunc__sStretch_Stretch.fc l f caps p hl h) ?_
 simp only [go_sem,ge_iff_le,idxB_any]
theorem slices_IndexFunc__sKnown_Known.fc (l:List (Int×Int)) (f:FuncId) (caps:List D) (p:(Int×Int)→Bool) (hl:l.length≤4294967296)
 (h:∀ x∈l,FCt prog f (.ro::caps.map fun _=>.ro) (knownD x::caps) (Bb (p x)) []):FCt prog F_slices_IndexFunc__sKnown_Known [.ro,.ro] [knowns l,.clo f caps] (Ii (idxB p l)) []:=by
 refine fct_run slices_IndexFunc__sKnown_Known.ok rfl ?_
 simp only [go_sem]
 refine R_loop (α:=Nat) (fun k s' M'=>k≤l.length∧s' 8=aI k∧(l.take k).all (fun x=>!p x)=true) (fun k=>l.length - k) 0 ⟨by omega,by simp only [go_sem];rfl,by simp⟩ ?_
 rintro k s' M' ⟨hk,h8,hr⟩ ho
 have h0:s' 0=.dat none (knowns l):=by rw [ho 0 rfl];simp only [go_sem]
 have h1:s' 1=.clo f (caps.map bindC):=by rw [ho 1 rfl];simp only [go_sem]
 have h7:s' 7=aI l.length:=by rw [ho 7 rfl];simp only [go_sem]
 clear ho
 unfold slices_IndexFunc__sKnown_Known.b0
 by_cases hlt:k < l.length
 · have hi':(k:Int) < l.length:=by omega
   have ga:l[k]? = some l[k]:=List.getElem?_eq_getElem hlt
   have hw:IntKind.i64.wrap (k+1)=((k+1:Nat):Int):=wrap_k hlt (by omega)
   simp only [go_sem,h0,h1,h7,h8,hi',ga]
   refine ccl_ro (ds:=[knownD l[k]]) (by simp only [go_sem]) ?_
   refine fcW_bool (h _ (List.getElem_mem hlt)) ?_
   cases hp:p l[k] with
   | true=>simp only [go_sem,idxB_some hlt hr hp]
   | false =>
    simp only [go_sem,h8,hw]
    exact ⟨k+1,by dsimp only;omega,by omega,by simp only [go_sem],all_take hlt hr (by simp [hp])⟩
 · have hi':¬ (k:Int) < l.length:=by omega
   rw [List.take_of_length_le (by omega)] at hr
   simp only [go_sem,h0,h1,h7,h8,hi',idxB_none hr]
theorem slices_ContainsFunc__sKnown_Known.fc (l:List (Int×Int)) (f:FuncId) (caps:List D) (p:(Int×Int)→Bool) (hl:l.length≤4294967296)
 (h:∀ x∈l,FCt prog f (.ro::caps.map fun _=>.ro) (knownD x::caps) (Bb (p x)) []):FCt prog F_slices_ContainsFunc__sKnown_Known [.ro,.ro] [knowns l,.clo f caps] (Bb (l.any p)) []:=by
 refine fct_run slices_ContainsFunc__sKnown_Known.ok rfl ?_
 simp only [go_sem]
 refine fcW_int (slices_IndexFunc__sKnown_Known.fc l f caps p hl h) ?_
 simp only [go_sem,ge_iff_le,idxB_any]
def gS (x:Int×Int):Bool:=goodS x.1 x.2
def gK (x:Int×Int):Bool:=goodK x.1 x.2
theorem impl_GoodMay_c1.fc (x:Int×Int):FCt prog F_impl_GoodMay_c1 [.ro] [strD x] (Bb (!gS x)) []:=by
 refine fct_run impl_GoodMay_c1.ok rfl ?_
 simp only [go_sem]
 refine fcW_bool (impl_GoodStretch.fc x.1 x.2) ?_
 simp only [go_sem]
 rfl
theorem impl_GoodMay_c2.fc (x:Int×Int):FCt prog F_impl_GoodMay_c2 [.ro] [knownD x] (Bb (!gK x)) []:=by
 refine fct_run impl_GoodMay_c2.ok rfl ?_
 simp only [go_sem]
 refine fcW_bool (impl_GoodKnown.fc x.1 x.2) ?_
 simp only [go_sem]
 rfl
structure MayOk (m:MayD):Prop where
 reg:m.reg.length=6
 bits:m.bits.length=6
 cell:m.cell.length=16
 isset:m.isset.length=16
 gr:∀ x∈m.reg,gS x=true
 gb:∀ x∈m.bits,gK x=true
 gc:∀ x∈m.cell,gS x=true
def goodMay (m:MayD):Bool:=decide (m.reg.length=6)&&decide (m.bits.length=6)&&decide (m.cell.length=16)&&decide (m.isset.length=16)&&m.reg.all gS&&m.cell.all gS&&m.bits.all gK
theorem goodMay_ok {m:MayD} (h:goodMay m=true):MayOk m:=by
 simp only [goodMay,Bool.and_eq_true,decide_eq_true_eq,List.all_eq_true] at h
 exact ⟨h.1.1.1.1.1.1,h.1.1.1.1.1.2,h.1.1.1.1.2,h.1.1.1.2,h.1.1.2,h.2,h.1.2⟩
theorem neq_dec {a b:Nat}:((a:Int) != (b:Int)) = !decide (a=b):=by
 by_cases h:a=b
 · subst h;simp
 · have:((a:Int) != (b:Int))=true:=by simp;omega
   rw [this];simp [h]
theorem eq_dec {a b:Nat}:((a:Int) == (b:Int))=decide (a=b):=by
 by_cases h:a=b
 · subst h;simp
 · have:((a:Int) == (b:Int))=false:=by rw [beq_eq_false_iff_ne];omega
   rw [this];simp [h]
theorem impl_GoodMay.fc (m:MayD) (h:wMay m≤4194304):FCt prog F_impl_GoodMay [.ro] [m.d] (Bb (goodMay m)) []:=by
 refine fct_run impl_GoodMay.ok rfl ?_
 have h:=h
 unfold wMay at h
 have e1:((m.reg.length:Int) != 6) = !decide (m.reg.length=6):=neq_dec (b:=6)
 have e2:((m.bits.length:Int) != 6) = !decide (m.bits.length=6):=neq_dec (b:=6)
 have e3:((m.cell.length:Int) != 16) = !decide (m.cell.length=16):=neq_dec (b:=16)
 have e4:((m.isset.length:Int) != 16) = !decide (m.isset.length=16):=neq_dec (b:=16)
 unfold goodMay
 by_cases h1:m.reg.length=6
 case neg=>rw [decide_eq_false h1] at e1 ⊢;simp only [go_sem,e1]
 rw [decide_eq_true h1] at e1 ⊢
 by_cases h2:m.bits.length=6
 case neg=>rw [decide_eq_false h2] at e2 ⊢;simp only [go_sem,e1,e2]
 rw [decide_eq_true h2] at e2 ⊢
 by_cases h3:m.cell.length=16
 case neg=>rw [decide_eq_false h3] at e3 ⊢;simp only [go_sem,e1,e2,e3]
 rw [decide_eq_true h3] at e3 ⊢
 by_cases h4:m.isset.length=16
 case neg=>rw [decide_eq_false h4] at e4 ⊢;simp only [go_sem,e1,e2,e3,e4]
 rw [decide_eq_true h4] at e4 ⊢
 have a1:m.reg.any (fun x=>!gS x) = !m.reg.all gS:=by rw [List.not_all_eq_any_not]
 have a2:m.cell.any (fun x=>!gS x) = !m.cell.all gS:=by rw [List.not_all_eq_any_not]
 have a3:m.bits.any (fun x=>!gK x) = !m.bits.all gK:=by rw [List.not_all_eq_any_not]
 simp only [go_sem,e1,e2,e3,e4]
 refine fcW_bool (slices_ContainsFunc__sStretch_Stretch.fc m.reg F_impl_GoodMay_c1 [] (fun x=>!gS x) (by omega) (fun x _=>impl_GoodMay_c1.fc x)) ?_
 rw [a1]
 cases m.reg.all gS with
 | false=>simp only [go_sem,e1,e2,e3,e4]
 | true =>
  simp only [go_sem,e1,e2,e3,e4]
  refine fcW_bool (slices_ContainsFunc__sStretch_Stretch.fc m.cell F_impl_GoodMay_c1 [] (fun x=>!gS x) (by omega) (fun x _=>impl_GoodMay_c1.fc x)) ?_
  rw [a2]
  cases m.cell.all gS with
  | false=>simp only [go_sem,e1,e2,e3,e4]
  | true =>
   simp only [go_sem,e1,e2,e3,e4]
   refine fcW_bool (slices_ContainsFunc__sKnown_Known.fc m.bits F_impl_GoodMay_c2 [] (fun x=>!gK x) (by omega) (fun x _=>impl_GoodMay_c2.fc x)) ?_
   rw [a3]
   cases m.bits.all gK<;>simp only [go_sem,e1,e2,e3,e4]
theorem spec_GoodMay.fc (m:MayD) (h:wMay m≤4194304):FCt prog F_spec_GoodMay [.ro] [m.d] (Bb (goodMay m)) []:=by
 refine fct_run spec_GoodMay.ok rfl ?_
 have h:=h
 unfold wMay at h
 have f1:m.reg.all gS=false→goodMay m=false:=fun e=>by simp only [goodMay,e,Bool.and_false,Bool.false_and]
 have f2:m.bits.all gK=false→goodMay m=false:=fun e=>by simp only [goodMay,e,Bool.and_false]
 have f3:m.cell.all gS=false→goodMay m=false:=fun e=>by simp only [goodMay,e,Bool.and_false,Bool.false_and]
 simp only [go_sem]
 refine R_loop (α:=Nat) (fun k s' M'=>k≤m.reg.length∧s' 12=aI k∧(m.reg.take k).all gS=true∧M'.m 64=some (.box 0 (.dat none m.d))) (fun k=>m.reg.length - k) 0 ⟨by omega,by simp only [go_sem];rfl,by simp,by simp only [go_sem]⟩ ?_
 rintro k s' M' ⟨hk,h12,hr0,hm⟩ ho
 unfold spec_GoodMay.b0
 have j1:s' 1=.ptr 64 0 0 none:=by rw [ho 1 rfl];simp only [go_sem]
 have j10:s' 10=.dat none (strs m.reg):=by rw [ho 10 rfl];simp only [go_sem]
 have j11:s' 11=aI m.reg.length:=by rw [ho 11 rfl];simp only [go_sem]
 clear ho
 by_cases hlt:k < m.reg.length
 · have hi':(k:Int) < m.reg.length:=by omega
   have ga:m.reg[k]? = some m.reg[k]:=List.getElem?_eq_getElem hlt
   have hw:IntKind.i64.wrap (k+1)=((k+1:Nat):Int):=wrap_k hlt (by omega)
   simp only [go_sem,hi',ga,j1,j10,j11,h12,hm]
   refine fcW_bool (spec_GoodStretch.fc m.reg[k].1 m.reg[k].2) ?_
   cases hc:goodS m.reg[k].1 m.reg[k].2 with
   | false=>simp only [go_sem,f1 (not_all hlt hc),j1,j10,j11,h12,hm]
   | true =>
    simp only [go_sem,hw,j1,j10,j11,h12,hm]
    exact ⟨k+1,by dsimp only;omega,by omega,by simp only [go_sem,j1,j10,j11,h12,hm],all_take hlt hr0 hc,by simp only [go_sem,j1,j10,j11,h12,hm]⟩
 have hi':¬ (k:Int) < m.reg.length:=by omega
 obtain rfl:k=m.reg.length:=by omega
 rw [List.take_length] at hr0
 simp only [go_sem,hi',j1,j10,j11,h12,hm]
 refine R_loop (α:=Nat) (fun k s' M'=>k≤m.bits.length∧s' 23=aI k∧(m.bits.take k).all gK=true∧M'.m 64=some (.box 0 (.dat none m.d))) (fun k=>m.bits.length - k) 0 ⟨by omega,by simp only [go_sem,j1,j10,j11,h12,hm];rfl,by simp,by simp only [go_sem,j1,j10,j11,h12,hm]⟩ ?_
 rintro k s2 M' ⟨hk,h12,hr1,hm⟩ ho
 unfold spec_GoodMay.b1
 have g1:s2 1=.ptr 64 0 0 none:=by rw [ho 1 rfl];simp only [go_sem,j1,j10,j11,h12,hm]
 have g21:s2 21=.dat none (knowns m.bits):=by rw [ho 21 rfl];simp only [go_sem,j1,j10,j11,h12,hm]
 have g22:s2 22=aI m.bits.length:=by rw [ho 22 rfl];simp only [go_sem,j1,j10,j11,h12,hm]
 clear ho
 by_cases hlt:k < m.bits.length
 · have hi':(k:Int) < m.bits.length:=by omega
   have ga:m.bits[k]? = some m.bits[k]:=List.getElem?_eq_getElem hlt
   have hw:IntKind.i64.wrap (k+1)=((k+1:Nat):Int):=wrap_k hlt (by omega)
   simp only [go_sem,hi',ga,j1,j10,j11,h12,hm,g1,g21,g22,h12,hm]
   refine fcW_bool (spec_GoodKnown.fc m.bits[k].1 m.bits[k].2) ?_
   cases hc:goodK m.bits[k].1 m.bits[k].2 with
   | false=>simp only [go_sem,f2 (not_all hlt hc),j1,j10,j11,h12,hm,g1,g21,g22,h12,hm]
   | true =>
    simp only [go_sem,hw,j1,j10,j11,h12,hm,g1,g21,g22,h12,hm]
    exact ⟨k+1,by dsimp only;omega,by omega,by simp only [go_sem,j1,j10,j11,h12,hm,g1,g21,g22,h12,hm],all_take hlt hr1 hc,by simp only [go_sem,j1,j10,j11,h12,hm,g1,g21,g22,h12,hm]⟩
 have hi':¬ (k:Int) < m.bits.length:=by omega
 obtain rfl:k=m.bits.length:=by omega
 rw [List.take_length] at hr1
 simp only [go_sem,hi',j1,j10,j11,h12,hm,g1,g21,g22,h12,hm]
 refine R_loop (α:=Nat) (fun k s' M'=>k≤m.cell.length∧s' 34=aI k∧(m.cell.take k).all gS=true∧M'.m 64=some (.box 0 (.dat none m.d))) (fun k=>m.cell.length - k) 0 ⟨by omega,by simp only [go_sem,j1,j10,j11,h12,hm,g1,g21,g22,h12,hm];rfl,by simp,by simp only [go_sem,j1,j10,j11,h12,hm,g1,g21,g22,h12,hm]⟩ ?_
 rintro k s3 M' ⟨hk,h12,hr2,hm⟩ ho
 unfold spec_GoodMay.b2
 have k1:s3 1=.ptr 64 0 0 none:=by rw [ho 1 rfl];simp only [go_sem,j1,j10,j11,h12,hm,g1,g21,g22,h12,hm]
 have k32:s3 32=.dat none (strs m.cell):=by rw [ho 32 rfl];simp only [go_sem,j1,j10,j11,h12,hm,g1,g21,g22,h12,hm]
 have k33:s3 33=aI m.cell.length:=by rw [ho 33 rfl];simp only [go_sem,j1,j10,j11,h12,hm,g1,g21,g22,h12,hm]
 clear ho
 by_cases hlt:k < m.cell.length
 · have hi':(k:Int) < m.cell.length:=by omega
   have ga:m.cell[k]? = some m.cell[k]:=List.getElem?_eq_getElem hlt
   have hw:IntKind.i64.wrap (k+1)=((k+1:Nat):Int):=wrap_k hlt (by omega)
   simp only [go_sem,hi',ga,j1,j10,j11,h12,hm,g1,g21,g22,h12,hm,k1,k32,k33,h12,hm]
   refine fcW_bool (spec_GoodStretch.fc m.cell[k].1 m.cell[k].2) ?_
   cases hc:goodS m.cell[k].1 m.cell[k].2 with
   | false=>simp only [go_sem,f3 (not_all hlt hc),j1,j10,j11,h12,hm,g1,g21,g22,h12,hm,k1,k32,k33,h12,hm]
   | true =>
    simp only [go_sem,hw,j1,j10,j11,h12,hm,g1,g21,g22,h12,hm,k1,k32,k33,h12,hm]
    exact ⟨k+1,by dsimp only;omega,by omega,by simp only [go_sem,j1,j10,j11,h12,hm,g1,g21,g22,h12,hm,k1,k32,k33,h12,hm],all_take hlt hr2 hc,by simp only [go_sem,j1,j10,j11,h12,hm,g1,g21,g22,h12,hm,k1,k32,k33,h12,hm]⟩
 have hi':¬ (k:Int) < m.cell.length:=by omega
 obtain rfl:k=m.cell.length:=by omega
 rw [List.take_length] at hr2
 simp only [go_sem,hi',j1,j10,j11,h12,hm,g1,g21,g22,h12,hm,k1,k32,k33,h12,hm]
 have e1:((m.reg.length:Int) == 6)=decide (m.reg.length=6):=eq_dec (b:=6)
 have e2:((m.bits.length:Int) == 6)=decide (m.bits.length=6):=eq_dec (b:=6)
 have e3:((m.cell.length:Int) == 16)=decide (m.cell.length=16):=eq_dec (b:=16)
 have e4:((m.isset.length:Int) == 16)=decide (m.isset.length=16):=eq_dec (b:=16)
 unfold goodMay
 rw [hr0,hr1,hr2,← e1,← e2,← e3,← e4]
 cases b1:((m.reg.length:Int) == 6) with
 | false=>simp only [go_sem,b1,j1,j10,j11,h12,hm,g1,g21,g22,h12,hm,k1,k32,k33,h12,hm]
 | true =>
  cases b2:((m.bits.length:Int) == 6) with
  | false=>simp only [go_sem,b1,b2,j1,j10,j11,h12,hm,g1,g21,g22,h12,hm,k1,k32,k33,h12,hm]
  | true =>
   cases b3:((m.cell.length:Int) == 16) with
   | false=>simp only [go_sem,b1,b2,b3,j1,j10,j11,h12,hm,g1,g21,g22,h12,hm,k1,k32,k33,h12,hm]
   | true=>simp only [go_sem,b1,b2,b3,j1,j10,j11,h12,hm,g1,g21,g22,h12,hm,k1,k32,k33,h12,hm]
theorem bits_Mul64.fc16:FCt prog F_bits_Mul64 [.ro,.ro] [.int .u64 1,.int .u64 16] (.tup [.int .u64 0,.int .u64 16]) []:=by
 refine fct_run bits_Mul64.ok rfl ?_
 simp only [go_sem]
 rfl
theorem bits_Mul.fc16:FCt prog F_bits_Mul [.ro,.ro] [.int .u64 1,.int .u64 16] (.tup [.int .u64 0,.int .u64 16]) []:=by
 refine fct_run bits_Mul.ok rfl ?_
 simp only [go_sem]
 refine fcW_bd bits_Mul64.fc16 rfl ?_
 simp only [go_sem]
theorem slices_Repeat__sStretch_Stretch.fc16 (x:(Int×Int)):FCt prog F_slices_Repeat__sStretch_Stretch [.ro,.ro] [strs [x],Ii 16] (strs (List.replicate 16 x)) []:=by
 refine fct_run slices_Repeat__sStretch_Stretch.ok rfl ?_
 have w1:IntKind.u64.wrap ((1:Nat):Int)=1:=by decide
 have w2:IntKind.u64.wrap 16=16:=by decide
 have w3:IntKind.i64.wrap 16=16:=by decide
 have hd1:¬ ((0:Int) > 0):=by omega
 have hd2:¬ ((16:Int) > 9223372036854775807):=by omega
 have hd3:¬ ((16:Int) < 0):=by omega
 have hb:(16:Int) * (16:Nat)≤70368744177664:=by omega
 simp only [go_sem,w1,w2,w3,hd1,hd2,hd3]
 refine fcW_bd bits_Mul.fc16 rfl ?_
 have hz1:((List.replicate 16 (D.agg [.int .i64 0,.int .i64 0])).take 1).all isSc=true:=rfl
 simp only [go_sem,w1,w2,w3,hd1,hd2,hd3,hb,Int.le_refl,List.length_replicate,hz1]
 have hsc:∀ (a b:Nat),(((List.replicate a (strD x)++List.replicate b (D.agg [.int .i64 0,.int .i64 0]))).all isSc)=true:=fun a b=>List.all_eq_true.2 fun d hd=>by
  rcases List.mem_append.1 hd with h|h
  · rw [List.eq_of_mem_replicate h];rfl
  · rw [List.eq_of_mem_replicate h];rfl
 refine R_loop (α:=Nat) (fun c s' M'=>1≤c∧c≤16∧s' 8=aI c∧∃ v,s' 7=.sl 1728 v 0 16 2∧M'.m 1728=some (.arr v true 2 (List.replicate c (strD x)++List.replicate (16 - c) (D.agg [.int .i64 0,.int .i64 0])))) (fun c=>16 - c) 1
  ⟨by omega,by omega,by simp only [go_sem];rfl,_,by simp only [go_sem];rfl,by simp only [go_sem];rfl⟩ ?_
 rintro c s' M' ⟨hc1,hc,h8,v,h7,hm⟩ ho
 clear ho
 unfold slices_Repeat__sStretch_Stretch.b0
 have hR:(List.replicate c (strD x)).all isSc=true:=by have:=hsc c 0;simpa using this
 have hrl:(List.replicate c (strD x)++List.replicate (16 - c) (D.agg [.int .i64 0,.int .i64 0])).length=16:=by simp;omega
 have hrt:(List.replicate c (strD x)++List.replicate (16 - c) (D.agg [.int .i64 0,.int .i64 0])).take c=List.replicate c (strD x):=by rw [List.take_append_of_le_length (by simp)];exact List.take_of_length_le (by simp)
 have hrs:∀ a b,(((List.replicate c (strD x)++List.replicate (16 - c) (D.agg [.int .i64 0,.int .i64 0])).drop a).take b).all isSc=true:=fun a b=>List.all_eq_true.2 fun d hd=>List.all_eq_true.1 (hsc c (16 - c)) d (List.mem_of_mem_drop (List.mem_of_mem_take hd))
 have hyl:((List.replicate c (strD x)).take (16 - c)).length=min c (16 - c):=by simp [Nat.min_comm]
 by_cases hlt:c < 16
 · have hi':(c:Int) < 16:=by omega
   have heq:List.replicate c (strD x)++(List.replicate c (strD x)).take (16 - c)++(List.replicate c (strD x)++List.replicate (16 - c) (D.agg [.int .i64 0,.int .i64 0])).drop (c+min c (16 - c))=List.replicate (c+min c (16 - c)) (strD x)++List.replicate (16 - (c+min c (16 - c))) (D.agg [.int .i64 0,.int .i64 0]):=by
    rw [List.drop_append,List.take_replicate,List.drop_replicate,List.drop_replicate,List.length_replicate]
    have e0:c - (c+min c (16 - c))=0:=by omega
    have e1:16 - c - (c+min c (16 - c) - c)=16 - (c+min c (16 - c)):=by omega
    rw [e0,e1,Nat.min_comm (16 - c) c,List.replicate_append_replicate]
    simp
   have q1:(c:Int)≤16:=by omega
   have q2:(((16:Nat):Int) - (c:Int)).toNat=16 - c:=by omega
   have q3:¬ 16 - c=0:=by omega
   have q4:c+min c (16 - c)≤16:=by omega
   have q5:IntKind.i64.wrap ((c:Int)+((min c (16 - c):Nat):Int))=((c+min c (16 - c):Nat):Int):=by rw [wrap_in (by omega) (by omega)];omega
   have q6:((16:Nat):Int)=16:=rfl
   have q7:((16:Int) - (c:Int)).toNat=16 - c:=by omega
   have q8:c≤16:=hc
   generalize hrow:List.replicate c (strD x)++List.replicate (16 - c) (D.agg [.int .i64 0,.int .i64 0])=row at hm hrl hrt hrs heq
   simp only [go_sem,h8,h7,hm,hi',hrl,hrt,hrs,hR,hyl,q1,q2,q3,q4,q5,q6,q7,q8,List.length_replicate,Nat.zero_add,Nat.zero_le,Int.le_refl]
   refine ⟨c+min c (16 - c),by dsimp only;omega,by omega,q4,by simp only [go_sem],v,by simp only [go_sem,h7],by simp only [go_sem,heq]⟩
 · have hi':¬ (c:Int) < 16:=by omega
   obtain rfl:c=16:=by omega
   have e:List.replicate 16 (strD x)++List.replicate (16 - 16) (D.agg [.int .i64 0,.int .i64 0])=(List.replicate 16 x).map strD:=by rw [Nat.sub_self,List.replicate_zero,List.append_nil,List.map_replicate]
   rw [e] at hm hrl
   have e2:((List.replicate 16 x).map strD).take 16=(List.replicate 16 x).map strD:=List.take_of_length_le (by omega)
   have e3:(List.replicate 16 x).length=16:=by simp
   have q6:((16:Nat):Int)=16:=rfl
   have q7:¬ ((16:Int) < 16):=by omega
   simp only [go_sem,h8,h7,hm,q6,q7,e2,e3]
theorem impl_allWords.fc:FCt prog F_impl_allWords [] [] (pr 0 65535) []:=by
 refine fct_run impl_allWords.ok rfl ?_
 simp only [go_sem]
theorem spec_l9All.fc:FCt prog F_spec_l9All [] [] (pr 0 65535) []:=by
 refine fct_run spec_l9All.ok rfl ?_
 simp only [go_sem]
theorem spec_l13Const.fc (n:Int):FCt prog F_spec_l13Const [.ro] [Ii n] (.tup [pr n n,pr n 0]) []:=by
 refine fct_run spec_l13Const.ok rfl ?_
 simp only [go_sem]
def startM:MayD:={ reg:=List.replicate 6 (0,0),bits:=List.replicate 6 (0,0),cell:=List.replicate 16 (0,65535),isset:=List.replicate 16 false }
theorem impl_StartMay.fc:FCt prog F_impl_StartMay [] [] startM.d []:=by
 refine fct_run impl_StartMay.ok rfl ?_
 have c1:(6:Int) * (16:Nat)≤70368744177664:=by omega
 have c2:(16:Int) * (1:Nat)≤70368744177664:=by omega
 simp only [go_sem,c1,c2,Int.le_refl,List.length_replicate,Nat.le_refl]
 refine fcW_bd impl_allWords.fc rfl ?_
 simp only [go_sem,c1,c2,Int.le_refl,List.length_replicate,Nat.le_refl]
 refine fcW_bd (slices_Repeat__sStretch_Stretch.fc16 (0,65535)) noRs_strs ?_
 simp only [go_sem,c1,c2,Int.le_refl,List.length_replicate,Nat.le_refl]
 rfl
theorem rep_succ {α:Type} {k:Nat} {z:α}:List.replicate k z++[z]=List.replicate (k+1) z:=List.replicate_succ'.symm
theorem rep_take {α:Type} {k:Nat} {z:α}:(List.replicate k z).take k=List.replicate k z:=List.take_of_length_le (by simp)
theorem spec_StartMay.fc:FCt prog F_spec_StartMay [] [] startM.d []:=by
 refine fct_run spec_StartMay.ok rfl ?_
 have c6:((6:Nat):Int)=6:=rfl
 have c16:((16:Nat):Int)=16:=rfl
 simp only [go_sem]
 refine R_loop (α:=Nat) (fun k s' M'=>k≤6∧s' 2=aI k∧∃ w v0 v1 w0,M'.m 128=some (.box w (.agg [if k=0 then .nil 2 else .sl 1152 v0 0 k 2,if k=0 then .nil 2 else .sl 1600 v1 0 k 2,.nil 2,.nil 1]))∧s' 1=.ptr 128 w 0 none∧M'.m 64=some (.box w0 (.agg [.nil 2,.nil 2,.nil 2,.nil 1]))∧s' 0=.ptr 64 w0 0 none ∧
  (k≠0→M'.m 1152=some (.arr v0 true 2 (List.replicate k (strD (0,0))))∧M'.m 1600=some (.arr v1 true 2 (List.replicate k (strD (0,0)))))) (fun k=>6 - k) 0
  ⟨by omega,by simp only [go_sem];rfl,_,0,0,_,by rw [if_pos rfl,if_pos rfl];simp only [go_sem];rfl,by simp only [go_sem],by simp only [go_sem];rfl,by simp only [go_sem],fun h=>absurd rfl h⟩ ?_
 rintro k s' M' ⟨hk,h2,w,v0,v1,w0,hm,h1,hm0,h0,hq⟩ ho
 clear ho
 unfold spec_StartMay.b0
 by_cases hlt:k < 6
 · have hi':(k:Int) < 6:=by omega
   have hw:IntKind.i64.wrap (k+1)=((k+1:Nat):Int):=by rw [wrap_in (by omega) (by omega)];omega
   have hb:(k+1) * 16≤70368744177664:=by omega
   simp only [go_sem,hi',h2,hm,h1,hm0,h0]
   refine fcW_bd (spec_l13Const.fc 0) rfl ?_
   by_cases hk0:k=0
   · subst hk0
     rw [if_pos rfl,if_pos rfl] at hm
     simp only [go_sem,hw,h2,hm,h1,hm0,h0]
     refine ⟨1,by dsimp only;omega,by omega,by simp only [go_sem,h2,hm,h1,hm0,h0];try rfl,w,_,_,w0,by rw [if_neg (Nat.succ_ne_zero 0),if_neg (Nat.succ_ne_zero 0)];simp only [go_sem,h2,hm,h1,hm0,h0];rfl,by simp only [go_sem,h2,hm,h1,hm0,h0],by simp only [go_sem,h2,hm,h1,hm0,h0],by simp only [go_sem,h2,hm,h1,hm0,h0],fun _=>⟨by simp only [go_sem,h2,hm,h1,hm0,h0];rfl,by simp only [go_sem,h2,hm,h1,hm0,h0];rfl⟩⟩
   · rw [if_neg hk0,if_neg hk0] at hm
     obtain ⟨q0,q1⟩:=hq hk0
     simp only [go_sem,hw,q0,q1,List.length_replicate,Nat.le_refl,hb,rep_take,rep_succ,h2,hm,h1,hm0,h0]
     refine ⟨k+1,by dsimp only;omega,by omega,by simp only [go_sem,h2,hm,h1,hm0,h0],w,_,_,w0,by rw [if_neg (Nat.succ_ne_zero k),if_neg (Nat.succ_ne_zero k)];simp only [go_sem,h2,hm,h1,hm0,h0];rfl,by simp only [go_sem,h2,hm,h1,hm0,h0],by simp only [go_sem,h2,hm,h1,hm0,h0],by simp only [go_sem,h2,hm,h1,hm0,h0],fun _=>⟨by simp only [go_sem,h2,hm,h1,hm0,h0];try exact congrArg (fun z=>some (Obj.arr _ true 2 z)) rep_succ,by simp only [go_sem,h2,hm,h1,hm0,h0];try exact congrArg (fun z=>some (Obj.arr _ true 2 z)) rep_succ⟩⟩
 obtain rfl:k=6:=by omega
 obtain ⟨q0,q1⟩:=hq (by omega)
 rw [if_neg (by omega),if_neg (by omega)] at hm
 simp only [go_sem,c6,h2,hm,h1,hm0,h0]
 refine R_loop (α:=Nat) (fun k s' M'=>k≤16∧s' 5=aI k∧(∃ w v2 v3 w0,M'.m 128=some (.box w (.agg [.sl 1152 v0 0 6 2,.sl 1600 v1 0 6 2,if k=0 then .nil 2 else .sl 2432 v2 0 k 2,if k=0 then .nil 1 else .sl 2816 v3 0 k 1]))∧s' 1=.ptr 128 w 0 none∧M'.m 64=some (.box w0 (.agg [.nil 2,.nil 2,.nil 2,.nil 1]))∧s' 0=.ptr 64 w0 0 none ∧
  (k≠0→M'.m 2432=some (.arr v2 true 2 (List.replicate k (strD (0,65535))))∧M'.m 2816=some (.arr v3 true 1 (List.replicate k (Bb false)))))∧M'.m 1152=some (.arr v0 true 2 (List.replicate 6 (strD (0,0))))∧M'.m 1600=some (.arr v1 true 2 (List.replicate 6 (strD (0,0))))) (fun k=>16 - k) 0
  ⟨by omega,by simp only [go_sem,h2,hm,h1,hm0,h0];rfl,⟨_,0,0,_,by rw [if_pos rfl,if_pos rfl];simp only [go_sem,h2,hm,h1,hm0,h0];rfl,by simp only [go_sem,h2,hm,h1,hm0,h0],by simp only [go_sem,h2,hm,h1,hm0,h0];rfl,by simp only [go_sem,h2,hm,h1,hm0,h0],fun h=>absurd rfl h⟩,by simp only [go_sem,q0,h2,hm,h1,hm0,h0],by simp only [go_sem,q1,h2,hm,h1,hm0,h0]⟩ ?_
 clear hm h1 hm0 h0 hq q0 q1
 rintro k s2 M2 ⟨hk,h5,⟨w,v2,v3,w0,hm,h1,hm0,h0,hq⟩,p0,p1⟩ ho
 clear ho
 unfold spec_StartMay.b1
 by_cases hlt:k < 16
 · have hi':(k:Int) < 16:=by omega
   have hw:IntKind.i64.wrap (k+1)=((k+1:Nat):Int):=by rw [wrap_in (by omega) (by omega)];omega
   have hb:(k+1) * 16≤70368744177664:=by omega
   have hb1:(k+1) * 1≤70368744177664:=by omega
   by_cases hk0:k=0
   · subst hk0
     rw [if_pos rfl,if_pos rfl] at hm
     simp only [go_sem,hi',h2,hm,h1,hm0,h0,h5,hm,h1,hm0,h0,p0,p1]
     refine fcW_bd spec_l9All.fc rfl ?_
     simp only [go_sem,hw,h2,hm,h1,hm0,h0,h5,hm,h1,hm0,h0,p0,p1]
     refine ⟨1,by dsimp only;omega,by omega,by simp only [go_sem,h2,hm,h1,hm0,h0,h5,hm,h1,hm0,h0,p0,p1];try rfl,⟨w,_,_,w0,by rw [if_neg (Nat.succ_ne_zero 0),if_neg (Nat.succ_ne_zero 0)];simp only [go_sem,h2,hm,h1,hm0,h0,h5,hm,h1,hm0,h0,p0,p1];rfl,by simp only [go_sem,h2,hm,h1,hm0,h0,h5,hm,h1,hm0,h0,p0,p1],by simp only [go_sem,h2,hm,h1,hm0,h0,h5,hm,h1,hm0,h0,p0,p1],by simp only [go_sem,h2,hm,h1,hm0,h0,h5,hm,h1,hm0,h0,p0,p1],fun _=>⟨by simp only [go_sem,h2,hm,h1,hm0,h0,h5,hm,h1,hm0,h0,p0,p1];rfl,by simp only [go_sem,h2,hm,h1,hm0,h0,h5,hm,h1,hm0,h0,p0,p1];rfl⟩⟩,by simp only [go_sem,h2,hm,h1,hm0,h0,h5,hm,h1,hm0,h0,p0,p1],by simp only [go_sem,h2,hm,h1,hm0,h0,h5,hm,h1,hm0,h0,p0,p1]⟩
   · rw [if_neg hk0,if_neg hk0] at hm
     obtain ⟨q2,q3⟩:=hq hk0
     simp only [go_sem,hi',q2,q3,h2,hm,h1,hm0,h0,h5,hm,h1,hm0,h0,p0,p1]
     refine fcW_bd spec_l9All.fc rfl ?_
     simp only [go_sem,hw,q2,q3,List.length_replicate,Nat.le_refl,hb,hb1,rep_take,rep_succ,h2,hm,h1,hm0,h0,h5,hm,h1,hm0,h0,p0,p1]
     refine ⟨k+1,by dsimp only;omega,by omega,by simp only [go_sem,h2,hm,h1,hm0,h0,h5,hm,h1,hm0,h0,p0,p1],⟨w,_,_,w0,by rw [if_neg (Nat.succ_ne_zero k),if_neg (Nat.succ_ne_zero k)];simp only [go_sem,h2,hm,h1,hm0,h0,h5,hm,h1,hm0,h0,p0,p1];rfl,by simp only [go_sem,h2,hm,h1,hm0,h0,h5,hm,h1,hm0,h0,p0,p1],by simp only [go_sem,h2,hm,h1,hm0,h0,h5,hm,h1,hm0,h0,p0,p1],by simp only [go_sem,h2,hm,h1,hm0,h0,h5,hm,h1,hm0,h0,p0,p1],fun _=>⟨by simp only [go_sem,h2,hm,h1,hm0,h0,h5,hm,h1,hm0,h0,p0,p1];try exact congrArg (fun z=>some (Obj.arr _ true 2 z)) rep_succ,by simp only [go_sem,h2,hm,h1,hm0,h0,h5,hm,h1,hm0,h0,p0,p1];try exact congrArg (fun z=>some (Obj.arr _ true 1 z)) rep_succ⟩⟩,by simp only [go_sem,h2,hm,h1,hm0,h0,h5,hm,h1,hm0,h0,p0,p1],by simp only [go_sem,h2,hm,h1,hm0,h0,h5,hm,h1,hm0,h0,p0,p1]⟩
 obtain rfl:k=16:=by omega
 obtain ⟨q2,q3⟩:=hq (by omega)
 rw [if_neg (by omega),if_neg (by omega)] at hm
 simp only [go_sem,c16,q2,q3,List.length_replicate,Nat.le_refl,h2,hm,h1,hm0,h0,h5,hm,h1,hm0,h0,p0,p1]
 rfl
structure MachD where
 pc:Int
 regs:List Int
 cells:List Int
 isset:List Bool
 deriving DecidableEq
abbrev MachD.d (x:MachD):D:=.agg [Ii x.pc,ints x.regs,ints x.cells,bools x.isset]
theorem noRs_Machine {x:MachD}:noRs (MachD.d x)=true:=noRs_agg fun d hd=>by
 rcases List.mem_cons.1 hd with rfl|hd
 · exact rfl
 rcases List.mem_cons.1 hd with rfl|hd
 · exact noRs_ints
 rcases List.mem_cons.1 hd with rfl|hd
 · exact noRs_ints
 rcases List.mem_cons.1 hd with rfl|hd
 · exact noRs_bools
 cases hd
def wMachine (x:MachD):Nat:=x.regs.length+x.cells.length+x.isset.length
def isW (n:Int):Bool:=inB n 0 65535
theorem impl_areWords_c1.fc (n:Int):FCt prog F_impl_areWords_c1 [.ro] [Ii n] (Bb (!isW n)) []:=by
 refine fct_run impl_areWords_c1.ok rfl ?_
 simp only [go_sem]
 refine fcW_bool (impl_isWord.fc n) ?_
 simp only [go_sem]
 rfl
theorem impl_areWords.fc (l:List Int) (hl:l.length≤4294967296):FCt prog F_impl_areWords [.ro] [ints l] (Bb (l.all isW)) []:=by
 refine fct_run impl_areWords.ok rfl ?_
 simp only [go_sem]
 refine fcW_bool (slices_ContainsFunc__sint_int.fc l F_impl_areWords_c1 [] (fun n=>!isW n) hl (fun n _=>impl_areWords_c1.fc n)) ?_
 have e:l.any (fun n=>!isW n) = !l.all isW:=by rw [List.not_all_eq_any_not]
 simp only [go_sem,e,Bool.not_not]
theorem spec_l1All.fc (l:List Int) (lo hi:Int) (hl:l.length≤4294967296):FCt prog F_spec_l1All [.ro,.ro,.ro] [ints l,Ii lo,Ii hi] (Bb (l.all fun n=>inB n lo hi)) []:=by
 refine fct_run spec_l1All.ok rfl ?_
 simp only [go_sem]
 refine R_loop (α:=Nat) (fun k s' M'=>k≤l.length∧s' 11=aI k∧(l.take k).all (fun n=>inB n lo hi)=true) (fun k=>l.length - k) 0 ⟨by omega,by simp only [go_sem];rfl,by simp⟩ ?_
 rintro k s' M' ⟨hk,h11,hr⟩ ho
 unfold spec_l1All.b0
 have k1:s' 1=aI lo:=by rw [ho 1 rfl];simp only [go_sem]
 have k2:s' 2=aI hi:=by rw [ho 2 rfl];simp only [go_sem]
 have k9:s' 9=.dat none (ints l):=by rw [ho 9 rfl];simp only [go_sem]
 have k10:s' 10=aI l.length:=by rw [ho 10 rfl];simp only [go_sem]
 clear ho
 by_cases hlt:k < l.length
 · have hi':(k:Int) < l.length:=by omega
   have ga:l[k]? = some l[k]:=List.getElem?_eq_getElem hlt
   have hw:IntKind.i64.wrap (k+1)=((k+1:Nat):Int):=wrap_k hlt (by omega)
   simp only [go_sem,hi',ga,k1,k2,k9,k10,h11]
   refine fcW_bool (spec_l1In.fc l[k] lo hi) ?_
   cases hc:inB l[k] lo hi with
   | false=>simp only [go_sem,not_all (p:=fun n=>inB n lo hi) hlt hc,k1,k2,k9,k10,h11]
   | true =>
    simp only [go_sem,hw,k1,k2,k9,k10,h11]
    exact ⟨k+1,by dsimp only;omega,by omega,by simp only [go_sem,k1,k2,k9,k10,h11],all_take hlt hr hc⟩
 · have hi':¬ (k:Int) < l.length:=by omega
   obtain rfl:k=l.length:=by omega
   rw [List.take_length] at hr
   simp only [go_sem,hi',hr,k1,k2,k9,k10,h11]
structure MachOk (m:MachD):Prop where
 pc:0≤m.pc∧m.pc≤19
 regs:m.regs.length=6
 cells:m.cells.length=16
 isset:m.isset.length=16
 wr:∀ x∈m.regs,0≤x∧x≤65535
 wc:∀ x∈m.cells,0≤x∧x≤65535
def goodMach (m:MachD):Bool:=inB m.pc 0 19&&((m.regs.length:Int) == 6)&&((m.cells.length:Int) == 16)&&((m.isset.length:Int) == 16)&&m.regs.all isW&&m.cells.all isW
theorem goodMach_ok {m:MachD} (h:goodMach m=true):MachOk m:=by
 simp only [goodMach,Bool.and_eq_true,List.all_eq_true,beq_iff_eq,inB,decide_eq_true_eq,isW] at h
 exact ⟨h.1.1.1.1.1,by omega,by omega,by omega,h.1.2,h.2⟩
theorem impl_GoodMachine.fc (m:MachD) (h:wMachine m≤4194304):FCt prog F_impl_GoodMachine [.ro] [m.d] (Bb (goodMach m)) []:=by
 refine fct_run impl_GoodMachine.ok rfl ?_
 have h:=h
 unfold wMachine at h
 unfold goodMach
 simp only [go_sem]
 refine fcW_bool (impl_in.fc m.pc 0 19) ?_
 cases inB m.pc 0 19 with
 | false=>simp only [go_sem]
 | true =>
  cases b1:((m.regs.length:Int) == 6) with
  | false=>simp only [go_sem,b1]
  | true =>
   cases b2:((m.cells.length:Int) == 16) with
   | false=>simp only [go_sem,b1,b2]
   | true =>
    cases b3:((m.isset.length:Int) == 16) with
    | false=>simp only [go_sem,b1,b2,b3]
    | true =>
     simp only [go_sem,b1,b2,b3]
     refine fcW_bool (impl_areWords.fc m.regs (by omega)) ?_
     cases m.regs.all isW with
     | false=>simp only [go_sem]
     | true =>
      simp only [go_sem]
      refine fcW_bool (impl_areWords.fc m.cells (by omega)) ?_
      simp only [go_sem]
theorem spec_GoodMachine.fc (m:MachD) (h:wMachine m≤4194304):FCt prog F_spec_GoodMachine [.ro] [m.d] (Bb (goodMach m)) []:=by
 refine fct_run spec_GoodMachine.ok rfl ?_
 have h:=h
 unfold wMachine at h
 have er:∀ l:List Int,l.all isW=l.all (fun n=>inB n 0 65535):=fun l=>rfl
 unfold goodMach
 simp only [er]
 simp only [go_sem]
 refine fcW_bool (spec_l1In.fc m.pc 0 19) ?_
 cases inB m.pc 0 19 with
 | false=>simp only [go_sem]
 | true =>
  cases b1:((m.regs.length:Int) == 6) with
  | false=>simp only [go_sem,b1]
  | true =>
   simp only [go_sem,b1]
   refine fcW_bool (spec_l1All.fc m.regs 0 65535 (by omega)) ?_
   cases m.regs.all (fun n=>inB n 0 65535) with
   | false=>simp only [go_sem]
   | true =>
    cases b2:((m.cells.length:Int) == 16) with
    | false=>simp only [go_sem,b2]
    | true =>
     simp only [go_sem,b2]
     refine fcW_bool (spec_l1All.fc m.cells 0 65535 (by omega)) ?_
     cases m.cells.all (fun n=>inB n 0 65535) with
     | false=>simp only [go_sem]
     | true=>simp only [go_sem]
def regIn (m:MayD) (x:MachD) (i:Nat):Bool:=inB (x.regs.getD i 0) (m.reg.getD i (0,0)).1 (m.reg.getD i (0,0)).2&&(andNotI (x.regs.getD i 0) (m.bits.getD i (0,0)).2 == (m.bits.getD i (0,0)).1)
def cellIn (m:MayD) (x:MachD) (i:Nat):Bool:=!(x.isset.getD i false&&!inB (x.cells.getD i 0) (m.cell.getD i (0,0)).1 (m.cell.getD i (0,0)).2)&&!(m.isset.getD i false&&!x.isset.getD i false)
def inMayB (m:MayD) (x:MachD):Bool:=(List.range 6).all (regIn m x)&&(List.range 16).all (cellIn m x)
def inMayD (m:MayD) (x:MachD):D:=if goodMay m&&goodMach x then .tup [Bb (inMayB m x),Bb true] else .tup [Bb false,Bb false]
theorem all_range {p:Nat→Bool} {k:Nat} (h:(List.range k).all p=true) (h2:p k=true):(List.range (k+1)).all p=true:=by
 rw [List.range_succ,List.all_append,h];simpa using h2
theorem not_range {p:Nat→Bool} {n k:Nat} (hk:k < n) (h2:p k=false):(List.range n).all p=false:=by
 rw [← Bool.not_eq_true,List.all_eq_true]
 intro h
 have:=h k (by simpa using hk)
 rw [h2] at this;cases this
theorem getD_get {α:Type} {l:List α} {i:Nat} {d:α} (h:i < l.length):l.getD i d=l[i]:=by rw [List.getD_eq_getElem?_getD,List.getElem?_eq_getElem h];rfl
theorem impl_InMay.fc (m:MayD) (x:MachD) (hm:wMay m≤4194304) (hx:wMachine x≤4194304):FCt prog F_impl_InMay [.ro,.ro] [m.d,x.d] (inMayD m x) []:=by
 refine fct_run impl_InMay.ok rfl ?_
 unfold inMayD
 simp only [go_sem]
 refine fcW_bool (impl_GoodMay.fc m hm) ?_
 cases hgm:goodMay m with
 | false=>simp only [go_sem]
 | true =>
  simp only [go_sem]
  refine fcW_bool (impl_GoodMachine.fc x hx) ?_
  cases hgx:goodMach x with
  | false=>simp only [go_sem]
  | true =>
   have om:=goodMay_ok hgm
   have ox:=goodMach_ok hgx
   obtain ⟨m1,m2,m3,m4⟩:=m
   obtain ⟨x0,x1,x2,x3⟩:=x
   obtain ⟨l1,l2,l3,l4,_,_,_⟩:=om
   obtain ⟨_,p1,p2,p3,_,_⟩:=ox
   dsimp only at l1 l2 l3 l4 p1 p2 p3
   have i1:(m1.length:Int)=6:=by omega
   have i2:(m2.length:Int)=6:=by omega
   have i3:(m3.length:Int)=16:=by omega
   have i4:(m4.length:Int)=16:=by omega
   have j1:(x1.length:Int)=6:=by omega
   have j2:(x2.length:Int)=16:=by omega
   have j3:(x3.length:Int)=16:=by omega
   have q0:∀ b1 b2:Bool,inMayB ⟨m1,m2,m3,m4⟩ ⟨x0,x1,x2,x3⟩=((List.range 6).all (regIn ⟨m1,m2,m3,m4⟩ ⟨x0,x1,x2,x3⟩)&&(List.range 16).all (cellIn ⟨m1,m2,m3,m4⟩ ⟨x0,x1,x2,x3⟩)):=fun _ _=>rfl
   simp only [go_sem,i1,i2,i3,i4,j1,j2,j3]
   refine R_loop (α:=Nat) (fun k s' M'=>k≤6∧s' 21=aI k∧(List.range k).all (regIn ⟨m1,m2,m3,m4⟩ ⟨x0,x1,x2,x3⟩)=true∧M'.m 64=some (.box 0 (.dat none (MayD.d ⟨m1,m2,m3,m4⟩)))∧M'.m 128=some (.box 64 (.dat none (MachD.d ⟨x0,x1,x2,x3⟩)))) (fun k=>6 - k) 0
    ⟨by omega,by simp only [go_sem,i1,i2,i3,i4,j1,j2,j3];rfl,by simp,by simp only [go_sem,i1,i2,i3,i4,j1,j2,j3],by simp only [go_sem,i1,i2,i3,i4,j1,j2,j3]⟩ ?_
   rintro k s' M' ⟨hk,h21,hr,hb1,hb2⟩ ho
   unfold impl_InMay.b0
   have k2:s' 2=.ptr 64 0 0 none:=by rw [ho 2 rfl];simp only [go_sem,i1,i2,i3,i4,j1,j2,j3]
   have k3:s' 3=.ptr 128 64 0 none:=by rw [ho 3 rfl];simp only [go_sem,i1,i2,i3,i4,j1,j2,j3]
   have k19:s' 19=.dat none (ints x1):=by rw [ho 19 rfl];simp only [go_sem,i1,i2,i3,i4,j1,j2,j3]
   have k20:s' 20=aI 6:=by rw [ho 20 rfl];simp only [go_sem,i1,i2,i3,i4,j1,j2,j3]
   clear ho
   by_cases hlt:k < 6
   · have hi':(k:Int) < 6:=by omega
     have hw:IntKind.i64.wrap (k+1)=((k+1:Nat):Int):=by rw [wrap_in (by omega) (by omega)];omega
     have g1:m1[k]? = some m1[k]:=List.getElem?_eq_getElem (by omega)
     have g2:m2[k]? = some m2[k]:=List.getElem?_eq_getElem (by omega)
     have g3:x1[k]? = some x1[k]:=List.getElem?_eq_getElem (by omega)
     have hri:regIn ⟨m1,m2,m3,m4⟩ ⟨x0,x1,x2,x3⟩ k=(inB x1[k] m1[k].1 m1[k].2&&(andNotI x1[k] m2[k].2 == m2[k].1)):=by
      unfold regIn;dsimp only;rw [getD_get (by omega),getD_get (by omega),getD_get (by omega)]
     simp only [go_sem,i1,i2,i3,i4,j1,j2,j3,k2,k3,k19,k20,h21,hb1,hb2,hi',g1,g2,g3]
     refine fcW_bool (impl_in.fc x1[k] m1[k].1 m1[k].2) ?_
     cases hc:inB x1[k] m1[k].1 m1[k].2 with
     | false =>
      rw [hc,Bool.false_and] at hri
      have hf:inMayB ⟨m1,m2,m3,m4⟩ ⟨x0,x1,x2,x3⟩=false:=by unfold inMayB;rw [not_range hlt hri];rfl
      simp only [go_sem,hf,i1,i2,i3,i4,j1,j2,j3,k2,k3,k19,k20,h21,hb1,hb2,hi',g1,g2,g3]
     | true =>
      rw [hc,Bool.true_and] at hri
      simp only [go_sem,i1,i2,i3,i4,j1,j2,j3,k2,k3,k19,k20,h21,hb1,hb2,hi',g1,g2,g3]
      refine fcW_bool (impl_Known_matches.fc m2[k].1 m2[k].2 x1[k]) ?_
      cases hc2:(andNotI x1[k] m2[k].2 == m2[k].1) with
      | false =>
       rw [hc2] at hri
       have hf:inMayB ⟨m1,m2,m3,m4⟩ ⟨x0,x1,x2,x3⟩=false:=by unfold inMayB;rw [not_range hlt hri];rfl
       simp only [go_sem,hf,i1,i2,i3,i4,j1,j2,j3,k2,k3,k19,k20,h21,hb1,hb2,hi',g1,g2,g3]
      | true =>
       rw [hc2] at hri
       simp only [go_sem,hw,i1,i2,i3,i4,j1,j2,j3,k2,k3,k19,k20,h21,hb1,hb2,hi',g1,g2,g3]
       exact ⟨k+1,by dsimp only;omega,by omega,by simp only [go_sem,i1,i2,i3,i4,j1,j2,j3,k2,k3,k19,k20,h21,hb1,hb2,hi',g1,g2,g3],all_range hr hri,by simp only [go_sem,i1,i2,i3,i4,j1,j2,j3,k2,k3,k19,k20,h21,hb1,hb2,hi',g1,g2,g3],by simp only [go_sem,i1,i2,i3,i4,j1,j2,j3,k2,k3,k19,k20,h21,hb1,hb2,hi',g1,g2,g3]⟩
   obtain rfl:k=6:=by omega
   have c6:((6:Nat):Int)=6:=rfl
   simp only [go_sem,c6,i1,i2,i3,i4,j1,j2,j3,k2,k3,k19,k20,h21,hb1,hb2]
   refine R_loop (α:=Nat) (fun k s' M'=>k≤16∧s' 55=aI k∧(List.range k).all (cellIn ⟨m1,m2,m3,m4⟩ ⟨x0,x1,x2,x3⟩)=true∧M'.m 64=some (.box 0 (.dat none (MayD.d ⟨m1,m2,m3,m4⟩)))∧M'.m 128=some (.box 64 (.dat none (MachD.d ⟨x0,x1,x2,x3⟩)))) (fun k=>16 - k) 0
    ⟨by omega,by simp only [go_sem,i1,i2,i3,i4,j1,j2,j3,k2,k3,k19,k20,h21,hb1,hb2];rfl,by simp,by simp only [go_sem,i1,i2,i3,i4,j1,j2,j3,k2,k3,k19,k20,h21,hb1,hb2],by simp only [go_sem,i1,i2,i3,i4,j1,j2,j3,k2,k3,k19,k20,h21,hb1,hb2]⟩ ?_
   clear hb1 hb2
   rintro k s2 M2 ⟨hk,h55,hr2,hb1,hb2⟩ ho
   unfold impl_InMay.b1
   have g2:s2 2=.ptr 64 0 0 none:=by rw [ho 2 rfl];simp only [go_sem,i1,i2,i3,i4,j1,j2,j3,k2,k3,k19,k20,h21,hb1,hb2]
   have g3:s2 3=.ptr 128 64 0 none:=by rw [ho 3 rfl];simp only [go_sem,i1,i2,i3,i4,j1,j2,j3,k2,k3,k19,k20,h21,hb1,hb2]
   have g53:s2 53=.dat none (ints x2):=by rw [ho 53 rfl];simp only [go_sem,i1,i2,i3,i4,j1,j2,j3,k2,k3,k19,k20,h21,hb1,hb2]
   have g54:s2 54=aI 16:=by rw [ho 54 rfl];simp only [go_sem,i1,i2,i3,i4,j1,j2,j3,k2,k3,k19,k20,h21,hb1,hb2]
   clear ho
   by_cases hlt:k < 16
   · have hi':(k:Int) < 16:=by omega
     have hw:IntKind.i64.wrap (k+1)=((k+1:Nat):Int):=by rw [wrap_in (by omega) (by omega)];omega
     have f1:x2[k]? = some x2[k]:=List.getElem?_eq_getElem (by omega)
     have f2:x3[k]? = some x3[k]:=List.getElem?_eq_getElem (by omega)
     have f3:m3[k]? = some m3[k]:=List.getElem?_eq_getElem (by omega)
     have f4:m4[k]? = some m4[k]:=List.getElem?_eq_getElem (by omega)
     have hri:cellIn ⟨m1,m2,m3,m4⟩ ⟨x0,x1,x2,x3⟩ k=(!(x3[k]&&!inB x2[k] m3[k].1 m3[k].2)&&!(m4[k]&&!x3[k])):=by
      unfold cellIn;dsimp only;rw [getD_get (by omega),getD_get (by omega),getD_get (by omega),getD_get (by omega)]
     have bad:cellIn ⟨m1,m2,m3,m4⟩ ⟨x0,x1,x2,x3⟩ k=false→inMayB ⟨m1,m2,m3,m4⟩ ⟨x0,x1,x2,x3⟩=false:=fun h=>by unfold inMayB;rw [not_range (n:=16) hlt h,Bool.and_false]
     cases hx3:x3[k] with
     | false =>
      cases hm4:m4[k] with
      | false =>
       rw [hx3,hm4] at hri
       simp only [go_sem,hx3,hm4,hw,i1,i2,i3,i4,j1,j2,j3,k2,k3,k19,k20,h21,hb1,hb2,g2,g3,g53,g54,h55,hb1,hb2,hi',f1,f2,f3,f4]
       exact ⟨k+1,by dsimp only;omega,by omega,by simp only [go_sem,i1,i2,i3,i4,j1,j2,j3,k2,k3,k19,k20,h21,hb1,hb2,g2,g3,g53,g54,h55,hb1,hb2,hi',f1,f2,f3,f4],all_range hr2 hri,by simp only [go_sem,i1,i2,i3,i4,j1,j2,j3,k2,k3,k19,k20,h21,hb1,hb2,g2,g3,g53,g54,h55,hb1,hb2,hi',f1,f2,f3,f4],by simp only [go_sem,i1,i2,i3,i4,j1,j2,j3,k2,k3,k19,k20,h21,hb1,hb2,g2,g3,g53,g54,h55,hb1,hb2,hi',f1,f2,f3,f4]⟩
      | true =>
       rw [hx3,hm4] at hri
       simp only [go_sem,hx3,hm4,bad hri,i1,i2,i3,i4,j1,j2,j3,k2,k3,k19,k20,h21,hb1,hb2,g2,g3,g53,g54,h55,hb1,hb2,hi',f1,f2,f3,f4]
     | true =>
      simp only [go_sem,hx3,i1,i2,i3,i4,j1,j2,j3,k2,k3,k19,k20,h21,hb1,hb2,g2,g3,g53,g54,h55,hb1,hb2,hi',f1,f2,f3,f4]
      refine fcW_bool (impl_in.fc x2[k] m3[k].1 m3[k].2) ?_
      cases hc:inB x2[k] m3[k].1 m3[k].2 with
      | false =>
       rw [hx3,hc] at hri
       simp only [go_sem,bad hri,i1,i2,i3,i4,j1,j2,j3,k2,k3,k19,k20,h21,hb1,hb2,g2,g3,g53,g54,h55,hb1,hb2,hi',f1,f2,f3,f4]
      | true =>
       rw [hx3,hc] at hri
       cases hm4:m4[k] with
       | false =>
        rw [hm4] at hri
        simp only [go_sem,hx3,hm4,hw,i1,i2,i3,i4,j1,j2,j3,k2,k3,k19,k20,h21,hb1,hb2,g2,g3,g53,g54,h55,hb1,hb2,hi',f1,f2,f3,f4]
        exact ⟨k+1,by dsimp only;omega,by omega,by simp only [go_sem,i1,i2,i3,i4,j1,j2,j3,k2,k3,k19,k20,h21,hb1,hb2,g2,g3,g53,g54,h55,hb1,hb2,hi',f1,f2,f3,f4],all_range hr2 hri,by simp only [go_sem,i1,i2,i3,i4,j1,j2,j3,k2,k3,k19,k20,h21,hb1,hb2,g2,g3,g53,g54,h55,hb1,hb2,hi',f1,f2,f3,f4],by simp only [go_sem,i1,i2,i3,i4,j1,j2,j3,k2,k3,k19,k20,h21,hb1,hb2,g2,g3,g53,g54,h55,hb1,hb2,hi',f1,f2,f3,f4]⟩
       | true =>
        rw [hm4] at hri
        simp only [go_sem,hx3,hm4,hw,i1,i2,i3,i4,j1,j2,j3,k2,k3,k19,k20,h21,hb1,hb2,g2,g3,g53,g54,h55,hb1,hb2,hi',f1,f2,f3,f4]
        exact ⟨k+1,by dsimp only;omega,by omega,by simp only [go_sem,i1,i2,i3,i4,j1,j2,j3,k2,k3,k19,k20,h21,hb1,hb2,g2,g3,g53,g54,h55,hb1,hb2,hi',f1,f2,f3,f4],all_range hr2 hri,by simp only [go_sem,i1,i2,i3,i4,j1,j2,j3,k2,k3,k19,k20,h21,hb1,hb2,g2,g3,g53,g54,h55,hb1,hb2,hi',f1,f2,f3,f4],by simp only [go_sem,i1,i2,i3,i4,j1,j2,j3,k2,k3,k19,k20,h21,hb1,hb2,g2,g3,g53,g54,h55,hb1,hb2,hi',f1,f2,f3,f4]⟩
   obtain rfl:k=16:=by omega
   have c16:((16:Nat):Int)=16:=rfl
   have hf:inMayB ⟨m1,m2,m3,m4⟩ ⟨x0,x1,x2,x3⟩=true:=by unfold inMayB;rw [hr,hr2];rfl
   simp only [go_sem,c16,hf,i1,i2,i3,i4,j1,j2,j3,k2,k3,k19,k20,h21,hb1,hb2,g2,g3,g53,g54,h55,hb1,hb2]
theorem spec_InMay.fc (m:MayD) (x:MachD) (hm:wMay m≤4194304) (hx:wMachine x≤4194304):FCt prog F_spec_InMay [.ro,.ro] [m.d,x.d] (inMayD m x) []:=by
 refine fct_run spec_InMay.ok rfl ?_
 unfold inMayD
 simp only [go_sem]
 refine fcW_bool (spec_GoodMay.fc m hm) ?_
 cases hgm:goodMay m with
 | false=>simp only [go_sem]
 | true =>
  simp only [go_sem]
  refine fcW_bool (spec_GoodMachine.fc x hx) ?_
  cases hgx:goodMach x with
  | false=>simp only [go_sem]
  | true =>
   have om:=goodMay_ok hgm
   have ox:=goodMach_ok hgx
   obtain ⟨m1,m2,m3,m4⟩:=m
   obtain ⟨x0,x1,x2,x3⟩:=x
   obtain ⟨l1,l2,l3,l4,_,_,_⟩:=om
   obtain ⟨_,p1,p2,p3,_,_⟩:=ox
   dsimp only at l1 l2 l3 l4 p1 p2 p3
   have i1:(m1.length:Int)=6:=by omega
   have i2:(m2.length:Int)=6:=by omega
   have i3:(m3.length:Int)=16:=by omega
   have i4:(m4.length:Int)=16:=by omega
   have j1:(x1.length:Int)=6:=by omega
   have j2:(x2.length:Int)=16:=by omega
   have j3:(x3.length:Int)=16:=by omega
   have q0:∀ b1 b2:Bool,inMayB ⟨m1,m2,m3,m4⟩ ⟨x0,x1,x2,x3⟩=((List.range 6).all (regIn ⟨m1,m2,m3,m4⟩ ⟨x0,x1,x2,x3⟩)&&(List.range 16).all (cellIn ⟨m1,m2,m3,m4⟩ ⟨x0,x1,x2,x3⟩)):=fun _ _=>rfl
   simp only [go_sem,i1,i2,i3,i4,j1,j2,j3]
   refine R_loop (α:=Nat) (fun k s' M'=>k≤6∧s' 21=aI k∧(List.range k).all (regIn ⟨m1,m2,m3,m4⟩ ⟨x0,x1,x2,x3⟩)=true∧M'.m 64=some (.box 0 (.dat none (MayD.d ⟨m1,m2,m3,m4⟩)))∧M'.m 128=some (.box 64 (.dat none (MachD.d ⟨x0,x1,x2,x3⟩)))) (fun k=>6 - k) 0
    ⟨by omega,by simp only [go_sem,i1,i2,i3,i4,j1,j2,j3];rfl,by simp,by simp only [go_sem,i1,i2,i3,i4,j1,j2,j3],by simp only [go_sem,i1,i2,i3,i4,j1,j2,j3]⟩ ?_
   rintro k s' M' ⟨hk,h21,hr,hb1,hb2⟩ ho
   unfold spec_InMay.b0
   have k2:s' 2=.ptr 64 0 0 none:=by rw [ho 2 rfl];simp only [go_sem,i1,i2,i3,i4,j1,j2,j3]
   have k3:s' 3=.ptr 128 64 0 none:=by rw [ho 3 rfl];simp only [go_sem,i1,i2,i3,i4,j1,j2,j3]
   have k19:s' 19=.dat none (ints x1):=by rw [ho 19 rfl];simp only [go_sem,i1,i2,i3,i4,j1,j2,j3]
   have k20:s' 20=aI 6:=by rw [ho 20 rfl];simp only [go_sem,i1,i2,i3,i4,j1,j2,j3]
   clear ho
   by_cases hlt:k < 6
   · have hi':(k:Int) < 6:=by omega
     have hw:IntKind.i64.wrap (k+1)=((k+1:Nat):Int):=by rw [wrap_in (by omega) (by omega)];omega
     have g1:m1[k]? = some m1[k]:=List.getElem?_eq_getElem (by omega)
     have g2:m2[k]? = some m2[k]:=List.getElem?_eq_getElem (by omega)
     have g3:x1[k]? = some x1[k]:=List.getElem?_eq_getElem (by omega)
     have hri:regIn ⟨m1,m2,m3,m4⟩ ⟨x0,x1,x2,x3⟩ k=(inB x1[k] m1[k].1 m1[k].2&&(andNotI x1[k] m2[k].2 == m2[k].1)):=by
      unfold regIn;dsimp only;rw [getD_get (by omega),getD_get (by omega),getD_get (by omega)]
     simp only [go_sem,i1,i2,i3,i4,j1,j2,j3,k2,k3,k19,k20,h21,hb1,hb2,hi',g1,g2,g3]
     refine fcW_bool (spec_l1In.fc x1[k] m1[k].1 m1[k].2) ?_
     cases hc:inB x1[k] m1[k].1 m1[k].2 with
     | false =>
      rw [hc,Bool.false_and] at hri
      have hf:inMayB ⟨m1,m2,m3,m4⟩ ⟨x0,x1,x2,x3⟩=false:=by unfold inMayB;rw [not_range hlt hri];rfl
      simp only [go_sem,hf,i1,i2,i3,i4,j1,j2,j3,k2,k3,k19,k20,h21,hb1,hb2,hi',g1,g2,g3]
     | true =>
      rw [hc,Bool.true_and] at hri
      simp only [go_sem,i1,i2,i3,i4,j1,j2,j3,k2,k3,k19,k20,h21,hb1,hb2,hi',g1,g2,g3]
      refine fcW_bool (spec_l10May.fc m2[k].1 m2[k].2 x1[k]) ?_
      cases hc2:(andNotI x1[k] m2[k].2 == m2[k].1) with
      | false =>
       rw [hc2] at hri
       have hf:inMayB ⟨m1,m2,m3,m4⟩ ⟨x0,x1,x2,x3⟩=false:=by unfold inMayB;rw [not_range hlt hri];rfl
       simp only [go_sem,hf,i1,i2,i3,i4,j1,j2,j3,k2,k3,k19,k20,h21,hb1,hb2,hi',g1,g2,g3]
      | true =>
       rw [hc2] at hri
       simp only [go_sem,hw,i1,i2,i3,i4,j1,j2,j3,k2,k3,k19,k20,h21,hb1,hb2,hi',g1,g2,g3]
       exact ⟨k+1,by dsimp only;omega,by omega,by simp only [go_sem,i1,i2,i3,i4,j1,j2,j3,k2,k3,k19,k20,h21,hb1,hb2,hi',g1,g2,g3],all_range hr hri,by simp only [go_sem,i1,i2,i3,i4,j1,j2,j3,k2,k3,k19,k20,h21,hb1,hb2,hi',g1,g2,g3],by simp only [go_sem,i1,i2,i3,i4,j1,j2,j3,k2,k3,k19,k20,h21,hb1,hb2,hi',g1,g2,g3]⟩
   obtain rfl:k=6:=by omega
   have c6:((6:Nat):Int)=6:=rfl
   simp only [go_sem,c6,i1,i2,i3,i4,j1,j2,j3,k2,k3,k19,k20,h21,hb1,hb2]
   refine R_loop (α:=Nat) (fun k s' M'=>k≤16∧s' 55=aI k∧(List.range k).all (cellIn ⟨m1,m2,m3,m4⟩ ⟨x0,x1,x2,x3⟩)=true∧M'.m 64=some (.box 0 (.dat none (MayD.d ⟨m1,m2,m3,m4⟩)))∧M'.m 128=some (.box 64 (.dat none (MachD.d ⟨x0,x1,x2,x3⟩)))) (fun k=>16 - k) 0
    ⟨by omega,by simp only [go_sem,i1,i2,i3,i4,j1,j2,j3,k2,k3,k19,k20,h21,hb1,hb2];rfl,by simp,by simp only [go_sem,i1,i2,i3,i4,j1,j2,j3,k2,k3,k19,k20,h21,hb1,hb2],by simp only [go_sem,i1,i2,i3,i4,j1,j2,j3,k2,k3,k19,k20,h21,hb1,hb2]⟩ ?_
   clear hb1 hb2
   rintro k s2 M2 ⟨hk,h55,hr2,hb1,hb2⟩ ho
   unfold spec_InMay.b1
   have g2:s2 2=.ptr 64 0 0 none:=by rw [ho 2 rfl];simp only [go_sem,i1,i2,i3,i4,j1,j2,j3,k2,k3,k19,k20,h21,hb1,hb2]
   have g3:s2 3=.ptr 128 64 0 none:=by rw [ho 3 rfl];simp only [go_sem,i1,i2,i3,i4,j1,j2,j3,k2,k3,k19,k20,h21,hb1,hb2]
   have g53:s2 53=.dat none (bools x3):=by rw [ho 53 rfl];simp only [go_sem,i1,i2,i3,i4,j1,j2,j3,k2,k3,k19,k20,h21,hb1,hb2]
   have g54:s2 54=aI 16:=by rw [ho 54 rfl];simp only [go_sem,i1,i2,i3,i4,j1,j2,j3,k2,k3,k19,k20,h21,hb1,hb2]
   clear ho
   by_cases hlt:k < 16
   · have hi':(k:Int) < 16:=by omega
     have hw:IntKind.i64.wrap (k+1)=((k+1:Nat):Int):=by rw [wrap_in (by omega) (by omega)];omega
     have f1:x2[k]? = some x2[k]:=List.getElem?_eq_getElem (by omega)
     have f2:x3[k]? = some x3[k]:=List.getElem?_eq_getElem (by omega)
     have f3:m3[k]? = some m3[k]:=List.getElem?_eq_getElem (by omega)
     have f4:m4[k]? = some m4[k]:=List.getElem?_eq_getElem (by omega)
     have hri:cellIn ⟨m1,m2,m3,m4⟩ ⟨x0,x1,x2,x3⟩ k=(!(x3[k]&&!inB x2[k] m3[k].1 m3[k].2)&&!(m4[k]&&!x3[k])):=by
      unfold cellIn;dsimp only;rw [getD_get (by omega),getD_get (by omega),getD_get (by omega),getD_get (by omega)]
     have bad:cellIn ⟨m1,m2,m3,m4⟩ ⟨x0,x1,x2,x3⟩ k=false→inMayB ⟨m1,m2,m3,m4⟩ ⟨x0,x1,x2,x3⟩=false:=fun h=>by unfold inMayB;rw [not_range (n:=16) hlt h,Bool.and_false]
     cases hm4:m4[k] with
     | false =>
      cases hx3:x3[k] with
      | false =>
       rw [hx3,hm4] at hri
       simp only [go_sem,hx3,hm4,hw,i1,i2,i3,i4,j1,j2,j3,k2,k3,k19,k20,h21,hb1,hb2,g2,g3,g53,g54,h55,hb1,hb2,hi',f1,f2,f3,f4]
       exact ⟨k+1,by dsimp only;omega,by omega,by simp only [go_sem,i1,i2,i3,i4,j1,j2,j3,k2,k3,k19,k20,h21,hb1,hb2,g2,g3,g53,g54,h55,hb1,hb2,hi',f1,f2,f3,f4],all_range hr2 hri,by simp only [go_sem,i1,i2,i3,i4,j1,j2,j3,k2,k3,k19,k20,h21,hb1,hb2,g2,g3,g53,g54,h55,hb1,hb2,hi',f1,f2,f3,f4],by simp only [go_sem,i1,i2,i3,i4,j1,j2,j3,k2,k3,k19,k20,h21,hb1,hb2,g2,g3,g53,g54,h55,hb1,hb2,hi',f1,f2,f3,f4]⟩
      | true =>
       simp only [go_sem,hx3,hm4,i1,i2,i3,i4,j1,j2,j3,k2,k3,k19,k20,h21,hb1,hb2,g2,g3,g53,g54,h55,hb1,hb2,hi',f1,f2,f3,f4]
       refine fcW_bool (spec_l1In.fc x2[k] m3[k].1 m3[k].2) ?_
       rw [hx3,hm4] at hri
       cases hc:inB x2[k] m3[k].1 m3[k].2 with
       | false =>
        rw [hc] at hri
        simp only [go_sem,bad hri,i1,i2,i3,i4,j1,j2,j3,k2,k3,k19,k20,h21,hb1,hb2,g2,g3,g53,g54,h55,hb1,hb2,hi',f1,f2,f3,f4]
       | true =>
        rw [hc] at hri
        simp only [go_sem,hw,i1,i2,i3,i4,j1,j2,j3,k2,k3,k19,k20,h21,hb1,hb2,g2,g3,g53,g54,h55,hb1,hb2,hi',f1,f2,f3,f4]
        exact ⟨k+1,by dsimp only;omega,by omega,by simp only [go_sem,i1,i2,i3,i4,j1,j2,j3,k2,k3,k19,k20,h21,hb1,hb2,g2,g3,g53,g54,h55,hb1,hb2,hi',f1,f2,f3,f4],all_range hr2 hri,by simp only [go_sem,i1,i2,i3,i4,j1,j2,j3,k2,k3,k19,k20,h21,hb1,hb2,g2,g3,g53,g54,h55,hb1,hb2,hi',f1,f2,f3,f4],by simp only [go_sem,i1,i2,i3,i4,j1,j2,j3,k2,k3,k19,k20,h21,hb1,hb2,g2,g3,g53,g54,h55,hb1,hb2,hi',f1,f2,f3,f4]⟩
     | true =>
      cases hx3:x3[k] with
      | false =>
       rw [hx3,hm4] at hri
       simp only [go_sem,hx3,hm4,bad hri,i1,i2,i3,i4,j1,j2,j3,k2,k3,k19,k20,h21,hb1,hb2,g2,g3,g53,g54,h55,hb1,hb2,hi',f1,f2,f3,f4]
      | true =>
       simp only [go_sem,hx3,hm4,i1,i2,i3,i4,j1,j2,j3,k2,k3,k19,k20,h21,hb1,hb2,g2,g3,g53,g54,h55,hb1,hb2,hi',f1,f2,f3,f4]
       refine fcW_bool (spec_l1In.fc x2[k] m3[k].1 m3[k].2) ?_
       rw [hx3,hm4] at hri
       cases hc:inB x2[k] m3[k].1 m3[k].2 with
       | false =>
        rw [hc] at hri
        simp only [go_sem,bad hri,i1,i2,i3,i4,j1,j2,j3,k2,k3,k19,k20,h21,hb1,hb2,g2,g3,g53,g54,h55,hb1,hb2,hi',f1,f2,f3,f4]
       | true =>
        rw [hc] at hri
        simp only [go_sem,hw,i1,i2,i3,i4,j1,j2,j3,k2,k3,k19,k20,h21,hb1,hb2,g2,g3,g53,g54,h55,hb1,hb2,hi',f1,f2,f3,f4]
        exact ⟨k+1,by dsimp only;omega,by omega,by simp only [go_sem,i1,i2,i3,i4,j1,j2,j3,k2,k3,k19,k20,h21,hb1,hb2,g2,g3,g53,g54,h55,hb1,hb2,hi',f1,f2,f3,f4],all_range hr2 hri,by simp only [go_sem,i1,i2,i3,i4,j1,j2,j3,k2,k3,k19,k20,h21,hb1,hb2,g2,g3,g53,g54,h55,hb1,hb2,hi',f1,f2,f3,f4],by simp only [go_sem,i1,i2,i3,i4,j1,j2,j3,k2,k3,k19,k20,h21,hb1,hb2,g2,g3,g53,g54,h55,hb1,hb2,hi',f1,f2,f3,f4]⟩
   obtain rfl:k=16:=by omega
   have c16:((16:Nat):Int)=16:=rfl
   have hf:inMayB ⟨m1,m2,m3,m4⟩ ⟨x0,x1,x2,x3⟩=true:=by unfold inMayB;rw [hr,hr2];rfl
   simp only [go_sem,c16,hf,i1,i2,i3,i4,j1,j2,j3,k2,k3,k19,k20,h21,hb1,hb2,g2,g3,g53,g54,h55,hb1,hb2]
def orI (a b:Int):Int:=IntKind.i64.wrap (BitVec.ofInt IntKind.i64.bits a ||| BitVec.ofInt IntKind.i64.bits b).toNat
def xorI (a b:Int):Int:=IntKind.i64.wrap (BitVec.ofInt IntKind.i64.bits a ^^^ BitVec.ofInt IntKind.i64.bits b).toNat
def nn (a:Int):Prop:=0≤a∧a < 9223372036854775808
theorem bv_nn {a:Int} (h:nn a):(BitVec.ofInt IntKind.i64.bits a).toNat=a.toNat:=by
 obtain ⟨h1,h2⟩:=h
 show (BitVec.ofInt 64 a).toNat=a.toNat
 rw [BitVec.toNat_ofInt]
 omega
theorem wrap_nat {n:Nat} (h:n < 9223372036854775808):IntKind.i64.wrap (n:Int)=n:=wrap_in (by omega) (by omega)
theorem toN_lt {a:Int} (h:nn a):a.toNat < 2 ^ 63:=by obtain ⟨h1,h2⟩:=h;omega
theorem andI_nat {a b:Int} (ha:nn a) (hb:nn b):andI a b=((a.toNat &&& b.toNat:Nat):Int):=by
 unfold andI
 rw [BitVec.toNat_and,bv_nn ha,bv_nn hb]
 exact wrap_nat (Nat.lt_of_le_of_lt Nat.and_le_left (toN_lt ha))
theorem orI_nat {a b:Int} (ha:nn a) (hb:nn b):orI a b=((a.toNat ||| b.toNat:Nat):Int):=by
 unfold orI
 rw [BitVec.toNat_or,bv_nn ha,bv_nn hb]
 exact wrap_nat (Nat.or_lt_two_pow (toN_lt ha) (toN_lt hb))
theorem xorI_nat {a b:Int} (ha:nn a) (hb:nn b):xorI a b=((a.toNat ^^^ b.toNat:Nat):Int):=by
 unfold xorI
 rw [BitVec.toNat_xor,bv_nn ha,bv_nn hb]
 exact wrap_nat (Nat.xor_lt_two_pow (toN_lt ha) (toN_lt hb))
theorem andNot_n {a b:Nat} (ha:a < 2 ^ 64):(BitVec.ofNat 64 a &&& ~~~BitVec.ofNat 64 b).toNat=a ^^^ (a &&& b):=by
 apply Nat.eq_of_testBit_eq
 intro i
 rw [BitVec.testBit_toNat,BitVec.getLsbD_and,BitVec.getLsbD_not,BitVec.getLsbD_ofNat,BitVec.getLsbD_ofNat,Nat.testBit_xor,Nat.testBit_and]
 by_cases h:i < 64
 · simp only [h,decide_true,Bool.true_and]
   cases a.testBit i<;>cases b.testBit i<;>rfl
 · have:a.testBit i=false:=Nat.testBit_lt_two_pow (Nat.lt_of_lt_of_le ha (Nat.pow_le_pow_right (by omega) (by omega)))
   simp [h,this]
theorem bvI_nn {a:Int} (h:nn a):BitVec.ofInt IntKind.i64.bits a=BitVec.ofNat 64 a.toNat:=by
 apply BitVec.eq_of_toNat_eq
 rw [bv_nn h]
 show _=(BitVec.ofNat 64 a.toNat).toNat
 rw [BitVec.toNat_ofNat]
 obtain ⟨h1,h2⟩:=h
 omega
theorem andNotI_nat {a b:Int} (ha:nn a) (hb:nn b):andNotI a b=((a.toNat ^^^ (a.toNat &&& b.toNat):Nat):Int):=by
 unfold andNotI
 rw [bvI_nn ha,bvI_nn hb]
 have:=andNot_n (a:=a.toNat) (b:=b.toNat) (by have:=toN_lt ha;omega)
 refine (congrArg (fun z:Nat=>IntKind.i64.wrap (z:Int)) this).trans ?_
 exact wrap_nat (Nat.xor_lt_two_pow (toN_lt ha) (Nat.lt_of_le_of_lt Nat.and_le_left (toN_lt ha)))
def wd (a:Int):Prop:=0≤a∧a≤65535
theorem wd.nn {a:Int} (h:wd a):nn a:=⟨h.1,by have:=h.2;omega⟩
theorem wd.lt {a:Int} (h:wd a):a.toNat < 2 ^ 16:=by obtain ⟨h1,h2⟩:=h;omega
theorem wd_iff {a:Int}:inB a 0 65535=true↔wd a:=by simp only [inB,wd,Bool.and_eq_true,decide_eq_true_eq]
theorem andI_mask (n:Int):andI n 65535=n % 65536:=by
 unfold andI
 have e:(BitVec.ofInt IntKind.i64.bits n &&& BitVec.ofInt IntKind.i64.bits 65535).toNat=(n % 65536).toNat:=by
  rw [BitVec.toNat_and,bv_nn (a:=65535) ⟨by decide,by decide⟩]
  show (BitVec.ofInt 64 n).toNat &&& 65535=_
  rw [show (65535:Nat)=2 ^ 16 - 1 from rfl,Nat.and_two_pow_sub_one_eq_mod,BitVec.toNat_ofInt]
  omega
 rw [e,wrap_in (by omega) (by omega)]
 omega
theorem emod_wd (n:Int):wd (n % 65536):=⟨by omega,by omega⟩
theorem tmod_cases (n:Int):Int.tmod n 65536=n % 65536∨Int.tmod n 65536=n % 65536 - 65536:=by
 rcases Int.le_total 0 n with h|h
 · exact .inl (Int.tmod_eq_emod_of_nonneg h)
 · obtain ⟨m,rfl⟩:∃ m:Int,n = -m:=⟨-n,by omega⟩
   have:Int.tmod m 65536=m % 65536:=Int.tmod_eq_emod_of_nonneg (by omega)
   rw [Int.neg_tmod,this]
   omega
theorem wrap_ref {n:Int}:Int.tmod (IntKind.i64.wrap (Int.tmod n 65536+65536)) 65536=n % 65536:=by
 have h0:=tmod_cases n
 rw [wrap_in (x:=Int.tmod n 65536+65536) (by omega) (by omega),Int.tmod_eq_emod_of_nonneg (by omega)]
 omega
abbrev bI (a:Int):BitVec 64:=BitVec.ofInt 64 a
theorem wrap_bv (x:BitVec 64):IntKind.i64.wrap (x.toNat:Int)=x.toInt:=by
 rw [BitVec.toInt_eq_toNat_bmod]
 simp [IntKind.wrap,IntKind.signed,IntKind.bits,Int.bmod]
 have:=x.isLt
 split<;>split<;>omega
theorem andI_bv (a b:Int):andI a b=(bI a &&& bI b).toInt:=wrap_bv _
theorem orI_bv (a b:Int):orI a b=(bI a ||| bI b).toInt:=wrap_bv _
theorem xorI_bv (a b:Int):xorI a b=(bI a ^^^ bI b).toInt:=wrap_bv _
theorem andNotI_bv (a b:Int):andNotI a b=(bI a &&& ~~~bI b).toInt:=wrap_bv _
theorem bI_toInt (x:BitVec 64):bI x.toInt=x:=BitVec.ofInt_toInt
theorem bI_mask {i:Nat}:(bI 65535).getLsbD i=decide (i < 16):=by
 rw [show bI 65535=BitVec.ofNat 64 (2 ^ 16 - 1) from rfl,BitVec.getLsbD_ofNat,Nat.testBit_two_pow_sub_one]
 by_cases h:i < 16
 · have:i < 64:=by omega
   simp [h,this]
 · simp [h]
theorem bI_zero {i:Nat}:(bI 0).getLsbD i=false:=by rw [show bI 0=0#64 from rfl];simp
theorem bI_wd {a:Int} (h:wd a) {i:Nat} (hi:16≤i):(bI a).getLsbD i=false:=by
 rw [show bI a=BitVec.ofNat 64 a.toNat from bvI_nn h.nn,BitVec.getLsbD_ofNat]
 have:a.toNat.testBit i=false:=Nat.testBit_lt_two_pow (Nat.lt_of_lt_of_le h.lt (Nat.pow_le_pow_right (by omega) hi))
 simp [this]
theorem bI_inj {a b:Int} (ha:wd a) (hb:wd b) (h:bI a=bI b):a=b:=by
 have:(bI a).toNat=(bI b).toNat:=by rw [h]
 rw [show (bI a).toNat=a.toNat from bv_nn ha.nn,show (bI b).toNat=b.toNat from bv_nn hb.nn] at this
 have:=ha.1;have:=hb.1
 omega
theorem andI_zero {a b:Int} (h:andI a b=0):bI a &&& bI b=0#64:=by
 rw [andI_bv] at h
 have:bI (bI a &&& bI b).toInt=bI 0:=by rw [h]
 rw [bI_toInt] at this;exact this
theorem disj {a b:Int} (h:andI a b=0) (i:Nat):((bI a).getLsbD i&&(bI b).getLsbD i)=false:=by
 rw [← BitVec.getLsbD_and,andI_zero h];simp
theorem wd_of_bits {x:BitVec 64} (h:∀ i,16≤i→x.getLsbD i=false):wd x.toInt:=by
 have hl:x.toNat < 2 ^ 16:=by
  refine Nat.lt_pow_two_of_testBit _ fun i hi=>?_
  rw [← BitVec.getLsbD];exact h i hi
 rw [BitVec.toInt_eq_toNat_of_lt (by omega)]
 exact ⟨by omega,by omega⟩
theorem andI_wd {a b:Int} (h:wd a):wd (andI a b):=by
 rw [andI_bv];exact wd_of_bits fun i hi=>by rw [BitVec.getLsbD_and,bI_wd h hi,Bool.false_and]
theorem andNotI_wd {a b:Int} (h:wd a):wd (andNotI a b):=by
 rw [andNotI_bv];exact wd_of_bits fun i hi=>by rw [BitVec.getLsbD_and,bI_wd h hi,Bool.false_and]
theorem orI_wd {a b:Int} (h:wd a) (h2:wd b):wd (orI a b):=by
 rw [orI_bv];exact wd_of_bits fun i hi=>by rw [BitVec.getLsbD_or,bI_wd h hi,bI_wd h2 hi,Bool.false_or]
theorem xorI_wd {a b:Int} (h:wd a) (h2:wd b):wd (xorI a b):=by
 rw [xorI_bv];exact wd_of_bits fun i hi=>by rw [BitVec.getLsbD_xor,bI_wd h hi,bI_wd h2 hi];rfl
theorem cdW_not {A B:Prop} {t:Bool} (h1:t=false→A) (h2:t=true→B):@cdW (some (!t)) ⟨A⟩ ⟨B⟩:=by
 cases t
 · exact h1 rfl
 · exact h2 rfl
theorem gdW_not {A B:Prop} {t b:Bool} (h1:t = !b→A) (h2:t=b→B):@gdW (some (some (!t))) b ⟨A⟩ ⟨B⟩:=by
 cases t<;>cases b
 · exact h2 rfl
 · exact h1 rfl
 · exact h1 rfl
 · exact h2 rfl
theorem impl_WordOf.fc (n:Int):FCt prog F_impl_WordOf [.ro] [Ii n] (Ii (n % 65536)) []:=by
 refine fct_run impl_WordOf.ok rfl ?_
 rw [← andI_mask]
 unfold andI
 simp only [go_sem]
theorem spec_l1Wrap.fc (n:Int):FCt prog F_spec_l1Wrap [.ro] [Ii n] (Ii (n % 65536)) []:=by
 refine fct_run spec_l1Wrap.ok rfl ?_
 simp only [go_sem,Int.reduceEq]
 rw [wrap_ref]
def doI (op a b:Int):Int :=
 if op == 1 then IntKind.i64.wrap (a+b) % 65536 else if op == 2 then IntKind.i64.wrap (a - b) % 65536 else if op == 3 then IntKind.i64.wrap (a * b) % 65536
 else if op == 4 then (if b == 0 then 0 else IntKind.i64.wrap (Int.tdiv a b)) else if op == 5 then (if b == 0 then a else Int.tmod a b)
 else if op == 6 then andI a b else if op == 7 then orI a b else if op == 8 then xorI a b
 else if op == 9 then IntKind.i64.wrap (a * 2 ^ min (Int.tmod b 16).toNat IntKind.i64.bits) % 65536 else Int.fdiv a (2 ^ min (Int.tmod b 16).toNat IntKind.i64.bits)
theorem tmod16 {b:Int} (hb:0≤b):0≤Int.tmod b 16∧Int.tmod b 16 < 16:=by
 rw [Int.tmod_eq_emod_of_nonneg hb];omega
theorem wrap_u64 {n:Int} (h:0≤n) (h2:n < 18446744073709551616):IntKind.u64.wrap n=n:=by
 simp [IntKind.wrap,IntKind.signed,IntKind.bits];omega
theorem impl_do.fc (op a b:Int) (hb:0≤b):FCt prog F_impl_do [.ro,.ro,.ro] [Ii op,Ii a,Ii b] (Ii (doI op a b)) []:=by
 refine fct_run impl_do.ok rfl ?_
 have h1:¬ Int.tmod b 16 < 0:=by have:=(tmod16 hb).1;omega
 unfold doI andI orI xorI
 have h2:b=0∨b≠0:=by omega
 have h3:(b == 0)=decide (b=0):=by by_cases h:b=0<;>simp [h]
 rcases h2 with h2|h2
 · subst h2
   repeat' (first|with_reducible rfl|refine fcW_int (impl_WordOf.fc ..) ?_|with_reducible refine cdW_dec (fun _=>?_) (fun _=>?_)|refine cdW_not (fun _=>?_) (fun _=>?_)|refine cdW_any (fun _=>?_) (fun _=>?_)|with_reducible refine gdW_decT (fun _=>?_) (fun _=>?_)|with_reducible refine gdW_decF (fun _=>?_) (fun _=>?_)|refine gdW_not (fun _=>?_) (fun _=>?_)|refine gdW_any (fun _=>?_) (fun _=>?_)|simp only [go_sem,bne,iQ,iB,iX,Int.reduceLE,iN,iA,iS,iM,iQ, *]|rfl)
 · repeat' (first|with_reducible rfl|refine fcW_int (impl_WordOf.fc ..) ?_|with_reducible refine cdW_dec (fun _=>?_) (fun _=>?_)|refine cdW_not (fun _=>?_) (fun _=>?_)|refine cdW_any (fun _=>?_) (fun _=>?_)|with_reducible refine gdW_decT (fun _=>?_) (fun _=>?_)|with_reducible refine gdW_decF (fun _=>?_) (fun _=>?_)|refine gdW_not (fun _=>?_) (fun _=>?_)|refine gdW_any (fun _=>?_) (fun _=>?_)|simp only [go_sem,bne,iQ,iB,iX,Int.reduceLE,iN,iA,iS,iM,iQ,decide_false, *]|rfl)
theorem spec_l1Do.fc (op a b:Int) (hb:0≤b):FCt prog F_spec_l1Do [.ro,.ro,.ro] [Ii op,Ii a,Ii b] (Ii (doI op a b)) []:=by
 refine fct_run spec_l1Do.ok rfl ?_
 have h1:¬ Int.tmod b 16 < 0:=by have:=(tmod16 hb).1;omega
 have h4:IntKind.u64.wrap (Int.tmod b 16)=Int.tmod b 16:=wrap_u64 (tmod16 hb).1 (by have:=(tmod16 hb).2;omega)
 unfold doI andI orI xorI
 have h2:b=0∨b≠0:=by omega
 have h3:(b == 0)=decide (b=0):=by by_cases h:b=0<;>simp [h]
 rcases h2 with h2|h2
 · subst h2
   repeat' (first|with_reducible rfl|refine fcW_int (spec_l1Wrap.fc ..) ?_|with_reducible refine cdW_dec (fun _=>?_) (fun _=>?_)|refine cdW_not (fun _=>?_) (fun _=>?_)|refine cdW_any (fun _=>?_) (fun _=>?_)|with_reducible refine gdW_decT (fun _=>?_) (fun _=>?_)|with_reducible refine gdW_decF (fun _=>?_) (fun _=>?_)|refine gdW_not (fun _=>?_) (fun _=>?_)|refine gdW_any (fun _=>?_) (fun _=>?_)|simp only [go_sem,bne,iQ,iB,iX,Int.reduceLE,iN,iA,iS,iM,iQ, *]|rfl)
 · repeat' (first|with_reducible rfl|refine fcW_int (spec_l1Wrap.fc ..) ?_|with_reducible refine cdW_dec (fun _=>?_) (fun _=>?_)|refine cdW_not (fun _=>?_) (fun _=>?_)|refine cdW_any (fun _=>?_) (fun _=>?_)|with_reducible refine gdW_decT (fun _=>?_) (fun _=>?_)|with_reducible refine gdW_decF (fun _=>?_) (fun _=>?_)|refine gdW_not (fun _=>?_) (fun _=>?_)|refine gdW_any (fun _=>?_) (fun _=>?_)|simp only [go_sem,bne,iQ,iB,iX,Int.reduceLE,iN,iA,iS,iM,iQ,decide_false, *]|rfl)
def mnI (a b:Int):Int:=if b < a then b else a
def mxI (a b:Int):Int:=if b > a then b else a
def joinS (a b:Int×Int):Int×Int:=(mnI a.1 b.1,mxI a.2 b.2)
theorem impl_joinStretch.fc (a b:Int×Int):FCt prog F_impl_joinStretch [.ro,.ro] [strD a,strD b] (strD (joinS a b)) []:=by
 refine fct_run impl_joinStretch.ok rfl ?_
 unfold joinS mnI mxI
 repeat' (first|with_reducible rfl|with_reducible refine cdW_dec (fun _=>?_) (fun _=>?_)|refine cdW_not (fun _=>?_) (fun _=>?_)|refine cdW_any (fun _=>?_) (fun _=>?_)|with_reducible refine gdW_decT (fun _=>?_) (fun _=>?_)|with_reducible refine gdW_decF (fun _=>?_) (fun _=>?_)|refine gdW_not (fun _=>?_) (fun _=>?_)|refine gdW_any (fun _=>?_) (fun _=>?_)|simp only [go_sem,bne,iQ,iB,iX,Int.reduceLE,iN,iA,iS,iM, *]|rfl)
theorem spec_l9Join.fc (a b:Int×Int):FCt prog F_spec_l9Join [.ro,.ro] [strD a,strD b] (strD (joinS a b)) []:=by
 refine fct_run spec_l9Join.ok rfl ?_
 unfold joinS mnI mxI
 repeat' (first|with_reducible rfl|refine fcW_int (spec_l1Least.fc ..) ?_|refine fcW_int (spec_l1Most.fc ..) ?_|with_reducible refine cdW_dec (fun _=>?_) (fun _=>?_)|refine cdW_not (fun _=>?_) (fun _=>?_)|refine cdW_any (fun _=>?_) (fun _=>?_)|with_reducible refine gdW_decT (fun _=>?_) (fun _=>?_)|with_reducible refine gdW_decF (fun _=>?_) (fun _=>?_)|refine gdW_not (fun _=>?_) (fun _=>?_)|refine gdW_any (fun _=>?_) (fun _=>?_)|simp only [go_sem,bne,iQ,iB,iX,Int.reduceLE,iN,iA,iS,iM, *]|rfl)
def endsI (lo hi:Int):Int×Int:=if lo / 65536 != hi / 65536 then (0,65535) else (lo % 65536,hi % 65536)
theorem shr16 (n:Int):Int.fdiv n (2 ^ min 16 64)=n / 65536:=by
 rw [show (2:Int) ^ min 16 64=65536 by decide,Int.fdiv_eq_ediv_of_nonneg _ (by decide)]
theorem impl_wrap.fc (a b:Int):FCt prog F_impl_wrap [.ro,.ro] [Ii a,Ii b] (strD (endsI a b)) []:=by
 refine fct_run impl_wrap.ok rfl ?_
 unfold endsI
 rw [← shr16,← shr16]
 repeat' (first|with_reducible rfl|refine fcW_int (impl_WordOf.fc ..) ?_|refine fcW_bd (impl_allWords.fc) rfl ?_|with_reducible refine cdW_dec (fun _=>?_) (fun _=>?_)|refine cdW_not (fun _=>?_) (fun _=>?_)|refine cdW_any (fun _=>?_) (fun _=>?_)|with_reducible refine gdW_decT (fun _=>?_) (fun _=>?_)|with_reducible refine gdW_decF (fun _=>?_) (fun _=>?_)|refine gdW_not (fun _=>?_) (fun _=>?_)|refine gdW_any (fun _=>?_) (fun _=>?_)|simp only [go_sem,bne,iQ,iB,iX,Int.reduceLE,iN,iA,iS,iM, *]|rfl)
theorem spec_l9Floor.fc (n:Int) (h:-4611686018427387904≤n∧n≤4611686018427387904):FCt prog F_spec_l9Floor [.ro] [Ii n] (Ii (n / 65536)) []:=by
 refine fct_run spec_l9Floor.ok rfl ?_
 have h1:IntKind.i64.wrap (n - n % 65536)=n - n % 65536:=wrap_in (by omega) (by omega)
 have h2:IntKind.i64.wrap (Int.tdiv (n - n % 65536) 65536)=n / 65536:=by
  have:n - n % 65536=65536 * (n / 65536):=by omega
  rw [this,Int.mul_tdiv_cancel_left _ (by decide),wrap_in (by omega) (by omega)]
 repeat' (first|with_reducible rfl|refine fcW_int (spec_l1Wrap.fc ..) ?_|with_reducible refine cdW_dec (fun _=>?_) (fun _=>?_)|refine cdW_not (fun _=>?_) (fun _=>?_)|refine cdW_any (fun _=>?_) (fun _=>?_)|with_reducible refine gdW_decT (fun _=>?_) (fun _=>?_)|with_reducible refine gdW_decF (fun _=>?_) (fun _=>?_)|refine gdW_not (fun _=>?_) (fun _=>?_)|refine gdW_any (fun _=>?_) (fun _=>?_)|simp only [go_sem,bne,iQ,iB,iX,Int.reduceLE,iN,iA,iS,iM, *]|rfl)
theorem spec_l9Ends.fc (a b:Int) (h:-4611686018427387904≤a∧a≤4611686018427387904) (h2:-4611686018427387904≤b∧b≤4611686018427387904):FCt prog F_spec_l9Ends [.ro,.ro] [Ii a,Ii b] (strD (endsI a b)) []:=by
 refine fct_run spec_l9Ends.ok rfl ?_
 unfold endsI
 repeat' (first|with_reducible rfl|refine fcW_int (spec_l9Floor.fc a h) ?_|refine fcW_int (spec_l9Floor.fc b h2) ?_|refine fcW_int (spec_l1Wrap.fc ..) ?_|refine fcW_bd (spec_l9All.fc) rfl ?_|with_reducible refine cdW_dec (fun _=>?_) (fun _=>?_)|refine cdW_not (fun _=>?_) (fun _=>?_)|refine cdW_any (fun _=>?_) (fun _=>?_)|with_reducible refine gdW_decT (fun _=>?_) (fun _=>?_)|with_reducible refine gdW_decF (fun _=>?_) (fun _=>?_)|refine gdW_not (fun _=>?_) (fun _=>?_)|refine gdW_any (fun _=>?_) (fun _=>?_)|simp only [go_sem,bne,iQ,iB,iX,Int.reduceLE,iN,iA,iS,iM, *]|rfl)
def onesW (n k:Int):Int:=if h:0≤k∧k < n then onesW n (2 * k+1) else k
 termination_by (n - k).toNat
 decreasing_by omega
theorem onesW_go {n k:Int} (h0:0≤k) (h:k < n):onesW n k=onesW n (2 * k+1):=by rw [onesW,dif_pos ⟨h0,h⟩]
theorem onesW_end {n k:Int} (h:¬ k < n):onesW n k=k:=by rw [onesW,dif_neg (fun c=>h c.2)]
theorem impl_ones.fc (n:Int) (hn:n≤65535):FCt prog F_impl_ones [.ro] [Ii n] (Ii (onesW n 0)) []:=by
 refine fct_run impl_ones.ok rfl ?_
 simp only [go_sem]
 refine R_loop (α:=Int) (fun k s' M'=>0≤k∧k≤131071∧s' 3=aI k∧onesW n 0=onesW n k) (fun k=>(n - k).toNat) 0 ⟨by omega,by omega,by simp only [go_sem],rfl⟩ ?_
 rintro k s' M' ⟨h0,h1,h3,hr⟩ ho
 unfold impl_ones.b0
 have j0:s' 0=aI n:=by rw [ho 0 rfl];simp only [go_sem]
 clear ho
 by_cases hlt:k < n
 · have w1:IntKind.i64.wrap (2 * k)=2 * k:=wrap_in (by omega) (by omega)
   have w2:IntKind.i64.wrap (2 * k+1)=2 * k+1:=wrap_in (by omega) (by omega)
   simp only [go_sem,hlt,w1,w2,j0,h3]
   exact ⟨2 * k+1,by dsimp only;omega,by omega,by omega,by simp only [go_sem,j0,h3],by rw [hr,onesW_go h0 hlt]⟩
 · rw [hr,onesW_end hlt]
   simp only [go_sem,hlt,j0,h3]
theorem spec_l9Ones.fc (n:Int) (hn:n≤65535):FCt prog F_spec_l9Ones [.ro] [Ii n] (Ii (onesW n 0)) []:=by
 refine fct_run spec_l9Ones.ok rfl ?_
 simp only [go_sem]
 refine R_loop (α:=Int) (fun k s' M'=>0≤k∧k≤131071∧s' 3=aI k∧onesW n 0=onesW n k) (fun k=>(n - k).toNat) 0 ⟨by omega,by omega,by simp only [go_sem],rfl⟩ ?_
 rintro k s' M' ⟨h0,h1,h3,hr⟩ ho
 unfold spec_l9Ones.b0
 have j0:s' 0=aI n:=by rw [ho 0 rfl];simp only [go_sem]
 clear ho
 by_cases hlt:k < n
 · have w1:IntKind.i64.wrap (2 * k)=2 * k:=wrap_in (by omega) (by omega)
   have w2:IntKind.i64.wrap (2 * k+1)=2 * k+1:=wrap_in (by omega) (by omega)
   simp only [go_sem,hlt,w1,w2,j0,h3]
   exact ⟨2 * k+1,by dsimp only;omega,by omega,by omega,by simp only [go_sem,j0,h3],by rw [hr,onesW_go h0 hlt]⟩
 · rw [hr,onesW_end hlt]
   simp only [go_sem,hlt,j0,h3]
set_option maxHeartbeats 8000000
structure SOk (a:Int×Int):Prop where
 lo:0≤a.1
 le:a.1≤a.2
 hi:a.2≤65535
theorem gS_ok {a:Int×Int} (h:gS a=true):SOk a:=by
 simp only [gS,goodS,inB,Bool.and_eq_true,decide_eq_true_eq] at h
 exact ⟨by omega,by omega,by omega⟩
theorem ok_gS {a:Int×Int} (h:SOk a):gS a=true:=by
 obtain ⟨h1,h2,h3⟩:=h
 simp only [gS,goodS,inB,Bool.and_eq_true,decide_eq_true_eq]
 omega
def shP (b:Int):Int:=2 ^ min (Int.tmod b 16).toNat 64
theorem shP_in {b:Int} (hb:0≤b):1≤shP b∧shP b≤32768:=by
 have h:=tmod16 hb
 unfold shP
 generalize hr:(Int.tmod b 16).toNat=r
 have:r < 16:=by omega
 clear hr h hb
 have:r=0∨r=1∨r=2∨r=3∨r=4∨r=5∨r=6∨r=7∨r=8∨r=9∨r=10∨r=11∨r=12∨r=13∨r=14∨r=15:=by omega
 rcases this with rfl|rfl|rfl|rfl|rfl|rfl|rfl|rfl|rfl|rfl|rfl|rfl|rfl|rfl|rfl|rfl<;>decide
theorem mul_in {a b A B:Int} (h0:0≤a) (h1:a≤A) (h2:0≤b) (h3:b≤B):0≤a * b∧a * b≤A * B :=
 ⟨Int.mul_nonneg h0 h2,Int.mul_le_mul h1 h3 h2 (by omega)⟩
theorem tdiv_in {a b:Int} (h0:0≤a) (h:0≤b):0≤Int.tdiv a b∧Int.tdiv a b≤a:=by
 rw [Int.tdiv_eq_ediv_of_nonneg h0]
 exact ⟨Int.ediv_nonneg h0 h,Int.ediv_le_self b h0⟩
def modS (a b:Int×Int):Int×Int:=if a.2 < b.1 then a else if b.1 == 0 then (0,a.2) else (0,mnI a.2 (b.2 - 1))
def shS (op:Int) (a b:Int×Int):Int×Int :=
 if op == 9 then (if b.1 == b.2 then endsI (a.1 * shP b.1) (a.2 * shP b.1) else (0,65535)) else
 (if b.1 == b.2 then (Int.tdiv a.1 (shP b.1),Int.tdiv a.2 (shP b.1)) else (0,a.2))
def stI (op:Int) (a b:Int×Int):Int×Int :=
 if op == 1 then endsI (a.1+b.1) (a.2+b.2) else
 if op == 2 then endsI (a.1 - b.2) (a.2 - b.1) else
 if op == 3 then endsI (a.1 * b.1) (a.2 * b.2) else
 if op == 4 then (if b.1 == 0 then (0,a.2) else (Int.tdiv a.1 b.2,Int.tdiv a.2 b.1)) else
 if op == 5 then modS a b else
 if op == 6 then (0,mnI a.2 b.2) else
 if op == 7 then (mxI a.1 b.1,onesW (mxI a.2 b.2) 0) else
 if op == 8 then (0,onesW (mxI a.2 b.2) 0) else shS op a b
theorem mxI_le {a b:Int} (h:a≤65535) (h2:b≤65535):mxI a b≤65535:=by unfold mxI;split<;>omega
theorem impl_stretched.fc (op:Int) (a b:Int×Int) (ha:SOk a) (hb:SOk b):FCt prog F_impl_stretched [.ro,.ro,.ro] [Ii op,strD a,strD b] (strD (stI op a b)) []:=by
 refine fct_run impl_stretched.ok rfl ?_
 obtain ⟨a1,a2⟩:=a
 obtain ⟨b1,b2⟩:=b
 obtain ⟨p1,p2,p3⟩:=ha
 obtain ⟨q1,q2,q3⟩:=hb
 dsimp only at p1 p2 p3 q1 q2 q3
 have sp:=shP_in q1
 have h1:¬ Int.tmod b1 16 < 0:=by have:=(tmod16 q1).1;omega
 have m1:IntKind.i64.wrap (1 * 2 ^ min (Int.tmod b1 16).toNat 64)=shP b1:=by
  rw [show (1:Int) * 2 ^ min (Int.tmod b1 16).toNat 64=shP b1 by rw [Int.one_mul];rfl]
  exact wrap_in (by omega) (by omega)
 have w1:IntKind.i64.wrap (a1+b1)=a1+b1:=wrap_in (by omega) (by omega)
 have w2:IntKind.i64.wrap (a2+b2)=a2+b2:=wrap_in (by omega) (by omega)
 have w3:IntKind.i64.wrap (a1 - b2)=a1 - b2:=wrap_in (by omega) (by omega)
 have w4:IntKind.i64.wrap (a2 - b1)=a2 - b1:=wrap_in (by omega) (by omega)
 have w5:IntKind.i64.wrap (a1 * b1)=a1 * b1:=by have:=mul_in (A:=65535) (B:=65535) p1 (by omega) q1 (by omega);exact wrap_in (by omega) (by omega)
 have w6:IntKind.i64.wrap (a2 * b2)=a2 * b2:=by have:=mul_in (a:=a2) (b:=b2) (A:=65535) (B:=65535) (by omega) (by omega) (by omega) (by omega);exact wrap_in (by omega) (by omega)
 have w7:IntKind.i64.wrap (a1 * shP b1)=a1 * shP b1:=by have:=mul_in (a:=a1) (b:=shP b1) (A:=65535) (B:=65535) p1 (by omega) (by omega) (by omega);exact wrap_in (by omega) (by omega)
 have w8:IntKind.i64.wrap (a2 * shP b1)=a2 * shP b1:=by have:=mul_in (a:=a2) (b:=shP b1) (A:=65535) (B:=65535) (by omega) (by omega) (by omega) (by omega);exact wrap_in (by omega) (by omega)
 have w9:IntKind.i64.wrap (Int.tdiv a1 b2)=Int.tdiv a1 b2:=by have:=tdiv_in (a:=a1) (b:=b2) (by omega) (by omega);exact wrap_in (by omega) (by omega)
 have w10:IntKind.i64.wrap (Int.tdiv a2 b1)=Int.tdiv a2 b1:=by have:=tdiv_in (a:=a2) (b:=b1) (by omega) (by omega);exact wrap_in (by omega) (by omega)
 have w11:IntKind.i64.wrap (Int.tdiv a1 (shP b1))=Int.tdiv a1 (shP b1):=by have:=tdiv_in (a:=a1) (b:=shP b1) (by omega) (by omega);exact wrap_in (by omega) (by omega)
 have w12:IntKind.i64.wrap (Int.tdiv a2 (shP b1))=Int.tdiv a2 (shP b1):=by have:=tdiv_in (a:=a2) (b:=shP b1) (by omega) (by omega);exact wrap_in (by omega) (by omega)
 have w13:IntKind.i64.wrap (b2 - 1)=b2 - 1:=wrap_in (by omega) (by omega)
 have n1:¬ shP b1=0:=by omega
 have o:=mxI_le (a:=a2) (b:=b2) (by omega) (by omega)
 have o2:(if b2 > a2 then b2 else a2)=mxI a2 b2:=rfl
 have o3:(if b1 > a1 then b1 else a1)=mxI a1 b1:=rfl
 clear sp
 unfold stI modS shS
 rcases (show b1=0∨(¬ b1=0∧¬ b2=0) by omega) with h2|⟨h2,h3⟩
 · have h4:(b1 == 0)=true:=by simpa using h2
   clear h2
   repeat' (first|with_reducible rfl|refine fcW_bd (impl_wrap.fc ..) rfl ?_|refine fcW_bd (impl_allWords.fc) rfl ?_|refine fcW_int (impl_ones.fc _ o) ?_|with_reducible refine cdW_dec (fun _=>?_) (fun _=>?_)|refine cdW_not (fun _=>?_) (fun _=>?_)|refine cdW_any (fun _=>?_) (fun _=>?_)|with_reducible refine gdW_decT (fun _=>?_) (fun _=>?_)|with_reducible refine gdW_decF (fun _=>?_) (fun _=>?_)|refine gdW_not (fun _=>?_) (fun _=>?_)|refine gdW_any (fun _=>?_) (fun _=>?_)|simp only [go_sem,bne,iQ,iB,iX,Int.reduceLE,iN,iA,iS,iM,mnI,o2, *]|rfl)
 · have h4:(b1 == 0)=false:=by simpa using h2
   repeat' (first|with_reducible rfl|refine fcW_bd (impl_wrap.fc ..) rfl ?_|refine fcW_bd (impl_allWords.fc) rfl ?_|refine fcW_int (impl_ones.fc _ o) ?_|with_reducible refine cdW_dec (fun _=>?_) (fun _=>?_)|refine cdW_not (fun _=>?_) (fun _=>?_)|refine cdW_any (fun _=>?_) (fun _=>?_)|with_reducible refine gdW_decT (fun _=>?_) (fun _=>?_)|with_reducible refine gdW_decF (fun _=>?_) (fun _=>?_)|refine gdW_not (fun _=>?_) (fun _=>?_)|refine gdW_any (fun _=>?_) (fun _=>?_)|simp only [go_sem,bne,iQ,iB,iX,Int.reduceLE,iN,iA,iS,iM,mnI,o2, *]|rfl)
theorem spec_l9Mod.fc (a b:Int×Int) (ha:SOk a) (hb:SOk b):FCt prog F_spec_l9Mod [.ro,.ro] [strD a,strD b] (strD (modS a b)) []:=by
 refine fct_run spec_l9Mod.ok rfl ?_
 obtain ⟨a1,a2⟩:=a
 obtain ⟨b1,b2⟩:=b
 obtain ⟨p1,p2,p3⟩:=ha
 obtain ⟨q1,q2,q3⟩:=hb
 dsimp only at p1 p2 p3 q1 q2 q3
 have w13:IntKind.i64.wrap (b2 - 1)=b2 - 1:=wrap_in (by omega) (by omega)
 unfold modS
 rcases (show b1=0∨b1 > 0 by omega) with h2|h2
 · have h4:(b1 == 0)=true:=by simpa using h2
   have h5:¬ b1 > 0:=by omega
   clear h2
   repeat' (first|with_reducible rfl|refine fcW_int (spec_l1Least.fc ..) ?_|with_reducible refine cdW_dec (fun _=>?_) (fun _=>?_)|refine cdW_not (fun _=>?_) (fun _=>?_)|refine cdW_any (fun _=>?_) (fun _=>?_)|with_reducible refine gdW_decT (fun _=>?_) (fun _=>?_)|with_reducible refine gdW_decF (fun _=>?_) (fun _=>?_)|refine gdW_not (fun _=>?_) (fun _=>?_)|refine gdW_any (fun _=>?_) (fun _=>?_)|simp only [go_sem,bne,iQ,iB,iX,Int.reduceLE,iN,iA,iS,iM,mnI, *]|rfl)
 · have h4:(b1 == 0)=false:=by simp;omega
   repeat' (first|with_reducible rfl|refine fcW_int (spec_l1Least.fc ..) ?_|with_reducible refine cdW_dec (fun _=>?_) (fun _=>?_)|refine cdW_not (fun _=>?_) (fun _=>?_)|refine cdW_any (fun _=>?_) (fun _=>?_)|with_reducible refine gdW_decT (fun _=>?_) (fun _=>?_)|with_reducible refine gdW_decF (fun _=>?_) (fun _=>?_)|refine gdW_not (fun _=>?_) (fun _=>?_)|refine gdW_any (fun _=>?_) (fun _=>?_)|simp only [go_sem,bne,iQ,iB,iX,Int.reduceLE,iN,iA,iS,iM,mnI, *]|rfl)
theorem fdivP {a:Int} {b:Int} (ha:0≤a) (hb:0≤b):Int.fdiv a b=Int.tdiv a b:=by
 rw [Int.fdiv_eq_ediv_of_nonneg _ hb,Int.tdiv_eq_ediv_of_nonneg ha]
theorem spec_l9Shift.fc (op:Int) (a b:Int×Int) (ha:SOk a) (hb:SOk b):FCt prog F_spec_l9Shift [.ro,.ro,.ro] [Ii op,strD a,strD b] (strD (shS op a b)) []:=by
 refine fct_run spec_l9Shift.ok rfl ?_
 obtain ⟨a1,a2⟩:=a
 obtain ⟨b1,b2⟩:=b
 obtain ⟨p1,p2,p3⟩:=ha
 obtain ⟨q1,q2,q3⟩:=hb
 dsimp only at p1 p2 p3 q1 q2 q3
 have sp:=shP_in q1
 have h1:¬ Int.tmod b1 16 < 0:=by have:=(tmod16 q1).1;omega
 have hu:IntKind.u64.wrap (Int.tmod b1 16)=Int.tmod b1 16:=wrap_u64 (tmod16 q1).1 (by have:=(tmod16 q1).2;omega)
 have sa:=mul_in (a:=a1) (b:=shP b1) (A:=65535) (B:=65535) p1 (by omega) (by omega) (by omega)
 have sb:=mul_in (a:=a2) (b:=shP b1) (A:=65535) (B:=65535) (by omega) (by omega) (by omega) (by omega)
 have w7:IntKind.i64.wrap (a1 * 2 ^ min (Int.tmod b1 16).toNat 64)=a1 * shP b1:=wrap_in (x:=a1 * shP b1) (by omega) (by omega)
 have w8:IntKind.i64.wrap (a2 * 2 ^ min (Int.tmod b1 16).toNat 64)=a2 * shP b1:=wrap_in (x:=a2 * shP b1) (by omega) (by omega)
 have w9:Int.fdiv a1 (2 ^ min (Int.tmod b1 16).toNat 64)=Int.tdiv a1 (shP b1):=fdivP p1 (by show 0≤shP b1;omega)
 have w10:Int.fdiv a2 (2 ^ min (Int.tmod b1 16).toNat 64)=Int.tdiv a2 (shP b1):=fdivP (by omega) (by show 0≤shP b1;omega)
 have c:=spec_l9Ends.fc (a1 * shP b1) (a2 * shP b1) (by omega) (by omega)
 clear sp sa sb
 unfold shS
 repeat' (first|with_reducible rfl|refine fcW_bd (c) rfl ?_|refine fcW_bd (spec_l9All.fc) rfl ?_|with_reducible refine cdW_dec (fun _=>?_) (fun _=>?_)|refine cdW_not (fun _=>?_) (fun _=>?_)|refine cdW_any (fun _=>?_) (fun _=>?_)|with_reducible refine gdW_decT (fun _=>?_) (fun _=>?_)|with_reducible refine gdW_decF (fun _=>?_) (fun _=>?_)|refine gdW_not (fun _=>?_) (fun _=>?_)|refine gdW_any (fun _=>?_) (fun _=>?_)|simp only [go_sem,bne,iQ,iB,iX,Int.reduceLE,iN,iA,iS,iM, *]|rfl)
theorem spec_l9Do.fc (op:Int) (a b:Int×Int) (ha:SOk a) (hb:SOk b):FCt prog F_spec_l9Do [.ro,.ro,.ro] [Ii op,strD a,strD b] (strD (stI op a b)) []:=by
 refine fct_run spec_l9Do.ok rfl ?_
 have cm:=spec_l9Mod.fc a b ha hb
 have cs:=spec_l9Shift.fc op a b ha hb
 obtain ⟨a1,a2⟩:=a
 obtain ⟨b1,b2⟩:=b
 obtain ⟨p1,p2,p3⟩:=ha
 obtain ⟨q1,q2,q3⟩:=hb
 dsimp only at p1 p2 p3 q1 q2 q3
 have w1:IntKind.i64.wrap (a1+b1)=a1+b1:=wrap_in (by omega) (by omega)
 have w2:IntKind.i64.wrap (a2+b2)=a2+b2:=wrap_in (by omega) (by omega)
 have w3:IntKind.i64.wrap (a1 - b2)=a1 - b2:=wrap_in (by omega) (by omega)
 have w4:IntKind.i64.wrap (a2 - b1)=a2 - b1:=wrap_in (by omega) (by omega)
 have s5:=mul_in (A:=65535) (B:=65535) p1 (show a1≤65535 by omega) q1 (show b1≤65535 by omega)
 have s6:=mul_in (a:=a2) (b:=b2) (A:=65535) (B:=65535) (by omega) (by omega) (by omega) (by omega)
 have w5:IntKind.i64.wrap (a1 * b1)=a1 * b1:=wrap_in (by omega) (by omega)
 have w6:IntKind.i64.wrap (a2 * b2)=a2 * b2:=wrap_in (by omega) (by omega)
 have w9:IntKind.i64.wrap (Int.tdiv a1 b2)=Int.tdiv a1 b2:=by have:=tdiv_in (a:=a1) (b:=b2) (by omega) (by omega);exact wrap_in (by omega) (by omega)
 have w10:IntKind.i64.wrap (Int.tdiv a2 b1)=Int.tdiv a2 b1:=by have:=tdiv_in (a:=a2) (b:=b1) (by omega) (by omega);exact wrap_in (by omega) (by omega)
 have c1:=spec_l9Ends.fc (a1+b1) (a2+b2) (by omega) (by omega)
 have c2:=spec_l9Ends.fc (a1 - b2) (a2 - b1) (by omega) (by omega)
 have c3:=spec_l9Ends.fc (a1 * b1) (a2 * b2) (by omega) (by omega)
 have o:=mxI_le (a:=a2) (b:=b2) (by omega) (by omega)
 have o2:(if b2 > a2 then b2 else a2)=mxI a2 b2:=rfl
 have o3:(if b1 > a1 then b1 else a1)=mxI a1 b1:=rfl
 have c4:=spec_l9Ones.fc (mxI a2 b2) o
 clear s5 s6
 unfold stI
 rcases (show b1=0∨(¬ b1=0∧¬ b2=0) by omega) with h2|⟨h2,h3⟩
 · have h4:(b1 == 0)=true:=by simpa using h2
   clear h2
   repeat' (first|with_reducible rfl|refine fcW_bd (c1) rfl ?_|refine fcW_bd (c2) rfl ?_|refine fcW_bd (c3) rfl ?_|refine fcW_int (c4) ?_|refine fcW_bd (cm) rfl ?_|refine fcW_bd (cs) rfl ?_|refine fcW_int (spec_l1Least.fc ..) ?_|refine fcW_int (spec_l1Most.fc ..) ?_|with_reducible refine cdW_dec (fun _=>?_) (fun _=>?_)|refine cdW_not (fun _=>?_) (fun _=>?_)|refine cdW_any (fun _=>?_) (fun _=>?_)|with_reducible refine gdW_decT (fun _=>?_) (fun _=>?_)|with_reducible refine gdW_decF (fun _=>?_) (fun _=>?_)|refine gdW_not (fun _=>?_) (fun _=>?_)|refine gdW_any (fun _=>?_) (fun _=>?_)|simp only [go_sem,bne,iQ,iB,iX,Int.reduceLE,iN,iA,iS,iM,mnI,o2,o3, *]|rfl)
 · have h4:(b1 == 0)=false:=by simpa using h2
   repeat' (first|with_reducible rfl|refine fcW_bd (c1) rfl ?_|refine fcW_bd (c2) rfl ?_|refine fcW_bd (c3) rfl ?_|refine fcW_int (c4) ?_|refine fcW_bd (cm) rfl ?_|refine fcW_bd (cs) rfl ?_|refine fcW_int (spec_l1Least.fc ..) ?_|refine fcW_int (spec_l1Most.fc ..) ?_|with_reducible refine cdW_dec (fun _=>?_) (fun _=>?_)|refine cdW_not (fun _=>?_) (fun _=>?_)|refine cdW_any (fun _=>?_) (fun _=>?_)|with_reducible refine gdW_decT (fun _=>?_) (fun _=>?_)|with_reducible refine gdW_decF (fun _=>?_) (fun _=>?_)|refine gdW_not (fun _=>?_) (fun _=>?_)|refine gdW_any (fun _=>?_) (fun _=>?_)|simp only [go_sem,bne,iQ,iB,iX,Int.reduceLE,iN,iA,iS,iM,mnI,o2,o3, *]|rfl)
structure KOk (a:Int×Int):Prop where
 v:wd a.1
 m:wd a.2
 dj:andI a.1 a.2=0
theorem gK_ok {a:Int×Int} (h:gK a=true):KOk a:=by
 simp only [gK,goodK,Bool.and_eq_true,wd_iff,beq_iff_eq] at h
 exact ⟨h.1.1,h.1.2,h.2⟩
theorem ok_gK {a:Int×Int} (h:KOk a):gK a=true:=by
 obtain ⟨h1,h2,h3⟩:=h
 simp only [gK,goodK,Bool.and_eq_true,wd_iff,beq_iff_eq]
 exact ⟨⟨h1,h2⟩,h3⟩
def knN (v m:Int):Int×Int:=(andNotI v m,m)
theorem impl_known.fc (v m:Int):FCt prog F_impl_known [.ro,.ro] [Ii v,Ii m] (knownD (knN v m)) []:=by
 refine fct_run impl_known.ok rfl ?_
 unfold knN andNotI
 repeat' (first|with_reducible rfl|with_reducible refine cdW_dec (fun _=>?_) (fun _=>?_)|refine cdW_not (fun _=>?_) (fun _=>?_)|refine cdW_any (fun _=>?_) (fun _=>?_)|with_reducible refine gdW_decT (fun _=>?_) (fun _=>?_)|with_reducible refine gdW_decF (fun _=>?_) (fun _=>?_)|refine gdW_not (fun _=>?_) (fun _=>?_)|refine gdW_any (fun _=>?_) (fun _=>?_)|simp only [go_sem,bne,iQ,iB,iX,Int.reduceLE,iN,iA,iS,iM, *]|rfl)
theorem spec_l10Not.fc (v m:Int):FCt prog F_spec_l10Not [.ro,.ro] [Ii v,Ii m] (knownD (knN v m)) []:=by
 refine fct_run spec_l10Not.ok rfl ?_
 unfold knN andNotI
 repeat' (first|with_reducible rfl|with_reducible refine cdW_dec (fun _=>?_) (fun _=>?_)|refine cdW_not (fun _=>?_) (fun _=>?_)|refine cdW_any (fun _=>?_) (fun _=>?_)|with_reducible refine gdW_decT (fun _=>?_) (fun _=>?_)|with_reducible refine gdW_decF (fun _=>?_) (fun _=>?_)|refine gdW_not (fun _=>?_) (fun _=>?_)|refine gdW_any (fun _=>?_) (fun _=>?_)|simp only [go_sem,bne,iQ,iB,iX,Int.reduceLE,iN,iA,iS,iM, *]|rfl)
theorem impl_unknown.fc:FCt prog F_impl_unknown [] [] (knownD (0,65535)) []:=by
 refine fct_run impl_unknown.ok rfl ?_
 repeat' (first|with_reducible rfl|with_reducible refine cdW_dec (fun _=>?_) (fun _=>?_)|refine cdW_not (fun _=>?_) (fun _=>?_)|refine cdW_any (fun _=>?_) (fun _=>?_)|with_reducible refine gdW_decT (fun _=>?_) (fun _=>?_)|with_reducible refine gdW_decF (fun _=>?_) (fun _=>?_)|refine gdW_not (fun _=>?_) (fun _=>?_)|refine gdW_any (fun _=>?_) (fun _=>?_)|simp only [go_sem,bne,iQ,iB,iX,Int.reduceLE,iN,iA,iS,iM, *]|rfl)
def joinK (a b:Int×Int):Int×Int:=knN a.1 (orI (orI a.2 b.2) (xorI a.1 b.1))
theorem impl_joinKnown.fc (a b:Int×Int):FCt prog F_impl_joinKnown [.ro,.ro] [knownD a,knownD b] (knownD (joinK a b)) []:=by
 refine fct_run impl_joinKnown.ok rfl ?_
 unfold joinK orI xorI
 repeat' (first|with_reducible rfl|refine fcW_bd (impl_known.fc ..) rfl ?_|with_reducible refine cdW_dec (fun _=>?_) (fun _=>?_)|refine cdW_not (fun _=>?_) (fun _=>?_)|refine cdW_any (fun _=>?_) (fun _=>?_)|with_reducible refine gdW_decT (fun _=>?_) (fun _=>?_)|with_reducible refine gdW_decF (fun _=>?_) (fun _=>?_)|refine gdW_not (fun _=>?_) (fun _=>?_)|refine gdW_any (fun _=>?_) (fun _=>?_)|simp only [go_sem,bne,iQ,iB,iX,Int.reduceLE,iN,iA,iS,iM, *]|rfl)
theorem spec_l10Join.fc (a b:Int×Int):FCt prog F_spec_l10Join [.ro,.ro] [knownD a,knownD b] (knownD (joinK a b)) []:=by
 refine fct_run spec_l10Join.ok rfl ?_
 unfold joinK knN orI xorI andNotI
 repeat' (first|with_reducible rfl|with_reducible refine cdW_dec (fun _=>?_) (fun _=>?_)|refine cdW_not (fun _=>?_) (fun _=>?_)|refine cdW_any (fun _=>?_) (fun _=>?_)|with_reducible refine gdW_decT (fun _=>?_) (fun _=>?_)|with_reducible refine gdW_decF (fun _=>?_) (fun _=>?_)|refine gdW_not (fun _=>?_) (fun _=>?_)|refine gdW_any (fun _=>?_) (fun _=>?_)|simp only [go_sem,bne,iQ,iB,iX,Int.reduceLE,iN,iA,iS,iM, *]|rfl)
def meetKb (a b:Int×Int):Bool:=!(andNotI (xorI a.1 b.1) (orI a.2 b.2) == 0)
def meetK (a b:Int×Int):Int×Int:=if meetKb a b then (0,0) else (orI a.1 b.1,andI a.2 b.2)
theorem nots (a b c:Int):andNotI (andNotI a b) c=andNotI a (orI b c):=by
 simp only [andNotI_bv,orI_bv,bI_toInt]
 congr 1
 apply BitVec.eq_of_getLsbD_eq
 intro i hi
 simp only [BitVec.getLsbD_and,BitVec.getLsbD_not,BitVec.getLsbD_or]
 cases (bI a).getLsbD i<;>cases (bI b).getLsbD i<;>cases (bI c).getLsbD i<;>simp
theorem meet_kn {a b:Int×Int} (ha:KOk a) (hb:KOk b):knN (orI a.1 b.1) (andI a.2 b.2)=(orI a.1 b.1,andI a.2 b.2):=by
 unfold knN
 refine congrArg (·,_) ?_
 simp only [andNotI_bv,orI_bv,andI_bv,bI_toInt]
 congr 1
 apply BitVec.eq_of_getLsbD_eq
 intro i hi
 have h1:=disj ha.dj i
 have h2:=disj hb.dj i
 simp only [BitVec.getLsbD_and,BitVec.getLsbD_not,BitVec.getLsbD_or]
 revert h1 h2
 cases (bI a.1).getLsbD i<;>cases (bI a.2).getLsbD i<;>cases (bI b.1).getLsbD i<;>cases (bI b.2).getLsbD i<;>simp [hi]
theorem impl_meetKnown.fc (a b:Int×Int) (ha:KOk a) (hb:KOk b):FCt prog F_impl_meetKnown [.ro,.ro] [knownD a,knownD b] (.tup [knownD (meetK a b),Bb (!meetKb a b)]) []:=by
 refine fct_run impl_meetKnown.ok rfl ?_
 have e:=meet_kn ha hb
 unfold meetK meetKb
 rw [← nots,← e]
 unfold xorI andNotI orI andI
 repeat' (first|with_reducible rfl|refine fcW_bd (impl_known.fc ..) rfl ?_|with_reducible refine cdW_dec (fun _=>?_) (fun _=>?_)|refine cdW_not (fun _=>?_) (fun _=>?_)|refine cdW_any (fun _=>?_) (fun _=>?_)|with_reducible refine gdW_decT (fun _=>?_) (fun _=>?_)|with_reducible refine gdW_decF (fun _=>?_) (fun _=>?_)|refine gdW_not (fun _=>?_) (fun _=>?_)|refine gdW_any (fun _=>?_) (fun _=>?_)|simp only [go_sem,bne,iQ,iB,iX,Int.reduceLE,iN,iA,iS,iM, *]|rfl)
theorem spec_l10Meet.fc (a b:Int×Int):FCt prog F_spec_l10Meet [.ro,.ro] [knownD a,knownD b] (.tup [knownD (meetK a b),Bb (!meetKb a b)]) []:=by
 refine fct_run spec_l10Meet.ok rfl ?_
 unfold meetK meetKb xorI andNotI orI andI
 repeat' (first|with_reducible rfl|with_reducible refine cdW_dec (fun _=>?_) (fun _=>?_)|refine cdW_not (fun _=>?_) (fun _=>?_)|refine cdW_any (fun _=>?_) (fun _=>?_)|with_reducible refine gdW_decT (fun _=>?_) (fun _=>?_)|with_reducible refine gdW_decF (fun _=>?_) (fun _=>?_)|refine gdW_not (fun _=>?_) (fun _=>?_)|refine gdW_any (fun _=>?_) (fun _=>?_)|simp only [go_sem,bne,iQ,iB,iX,Int.reduceLE,iN,iA,iS,iM, *]|rfl)
def mayK (k:Int×Int) (x:Int):Int:=if x == 1 then orI k.1 k.2 else andNotI 65535 k.1
theorem impl_Known_may.fc (k:Int×Int) (x:Int):FCt prog F_impl_Known_may [.ro,.ro] [knownD k,Ii x] (Ii (mayK k x)) []:=by
 refine fct_run impl_Known_may.ok rfl ?_
 unfold mayK orI andNotI
 repeat' (first|with_reducible rfl|with_reducible refine cdW_dec (fun _=>?_) (fun _=>?_)|refine cdW_not (fun _=>?_) (fun _=>?_)|refine cdW_any (fun _=>?_) (fun _=>?_)|with_reducible refine gdW_decT (fun _=>?_) (fun _=>?_)|with_reducible refine gdW_decF (fun _=>?_) (fun _=>?_)|refine gdW_not (fun _=>?_) (fun _=>?_)|refine gdW_any (fun _=>?_) (fun _=>?_)|simp only [go_sem,bne,iQ,iB,iX,Int.reduceLE,iN,iA,iS,iM, *]|rfl)
def bwS (op:Int) (a b:Int×Int) (p:Int×Int) (x y:Int):Int×Int :=
 if doI op x y == 1 then (p.1,orI p.2 (andI (mayK a x) (mayK b y))) else (orI p.1 (andI (mayK a x) (mayK b y)),p.2)
def bwN (op:Int) (a b:Int×Int):Nat→Int×Int
 | 0=>(0,0)
 | n+1=>bwS op a b (bwN op a b n) ((n / 2:Nat):Int) ((n % 2:Nat):Int)
def bitK (op:Int) (a b:Int×Int):Int×Int:=knN (bwN op a b 4).2 (andI (bwN op a b 4).1 (bwN op a b 4).2)
theorem impl_bitwise.fc0 (op:Int) (a b:Int×Int):FCt prog F_impl_bitwise [.ro,.ro,.ro] [Ii op,knownD a,knownD b] (knownD (bitK op a b)) []:=by
 refine fct_run impl_bitwise.ok rfl ?_
 simp only [go_sem]
 refine R_loop (α:=Nat) (fun i s' M'=>i≤2∧s' 12=aI i∧s' 7=aI (bwN op a b (2 * i)).1∧s' 8=aI (bwN op a b (2 * i)).2∧M'.m 64=some (.box 0 (.dat none (knownD a)))∧M'.m 128=some (.box 64 (.dat none (knownD b)))∧M'.m 192=some (.box 128 (.agg [aI 0,aI 0]))) (fun i=>2 - i) 0
  ⟨by omega,by simp only [go_sem];rfl,by simp only [go_sem];rfl,by simp only [go_sem];rfl,by simp only [go_sem],by simp only [go_sem],by simp only [go_sem]⟩ ?_
 rintro i s' M' ⟨hi,h12,h7,h8,m1,m2,m3⟩ ho
 unfold impl_bitwise.b1
 have j0:s' 0=aI op:=by rw [ho 0 rfl];simp only [go_sem]
 have j4:s' 4=.ptr 64 0 0 none:=by rw [ho 4 rfl];simp only [go_sem]
 have j5:s' 5=.ptr 128 64 0 none:=by rw [ho 5 rfl];simp only [go_sem]
 have j6:s' 6=.ptr 192 128 0 none:=by rw [ho 6 rfl];simp only [go_sem]
 clear ho
 by_cases hlt:i < 2
 · have hi':(i:Int) < 2:=by omega
   have hw:IntKind.i64.wrap (i+1)=((i+1:Nat):Int):=by rw [wrap_in (by omega) (by omega)];omega
   simp only [go_sem,hi',j0,j4,j5,j6,h12,h7,h8,m1,m2,m3]
   refine R_loop (α:=Nat) (fun y s' M'=>y≤2∧s' 15=aI y∧s' 7=aI (bwN op a b (2 * i+y)).1∧s' 8=aI (bwN op a b (2 * i+y)).2∧M'.m 64=some (.box 0 (.dat none (knownD a)))∧M'.m 128=some (.box 64 (.dat none (knownD b)))∧M'.m 192=some (.box 128 (.agg [aI 0,aI 0]))) (fun y=>2 - y) 0
    ⟨by omega,by simp only [go_sem,j0,j4,j5,j6,h12,h7,h8,m1,m2,m3];rfl,by simp only [go_sem,j0,j4,j5,j6,h12,h7,h8,m1,m2,m3];rfl,by simp only [go_sem,j0,j4,j5,j6,h12,h7,h8,m1,m2,m3];rfl,by simp only [go_sem,j0,j4,j5,j6,h12,h7,h8,m1,m2,m3],by simp only [go_sem,j0,j4,j5,j6,h12,h7,h8,m1,m2,m3],by simp only [go_sem,j0,j4,j5,j6,h12,h7,h8,m1,m2,m3]⟩ ?_
   rintro y s2 M2 ⟨hy,k15,k7,k8,n1,n2,n3⟩ ho
   unfold impl_bitwise.b0
   have g0:s2 0=aI op:=by rw [ho 0 rfl];simp only [go_sem,j0,j4,j5,j6,h12,h7,h8,m1,m2,m3]
   have g4:s2 4=.ptr 64 0 0 none:=by rw [ho 4 rfl];simp only [go_sem,j0,j4,j5,j6,h12,h7,h8,m1,m2,m3]
   have g5:s2 5=.ptr 128 64 0 none:=by rw [ho 5 rfl];simp only [go_sem,j0,j4,j5,j6,h12,h7,h8,m1,m2,m3]
   have g6:s2 6=.ptr 192 128 0 none:=by rw [ho 6 rfl];simp only [go_sem,j0,j4,j5,j6,h12,h7,h8,m1,m2,m3]
   have g9:s2 9=aI i:=by rw [ho 9 rfl];simp only [go_sem,j0,j4,j5,j6,h12,h7,h8,m1,m2,m3]
   have g12:s2 12=aI i:=by rw [ho 12 rfl];simp only [go_sem,j0,j4,j5,j6,h12,h7,h8,m1,m2,m3]
   clear ho
   by_cases hly:y < 2
   · have hy':(y:Int) < 2:=by omega
     have hwy:IntKind.i64.wrap (y+1)=((y+1:Nat):Int):=by rw [wrap_in (by omega) (by omega)];omega
     have e1:(2 * i+y) / 2=i:=by omega
     have e2:(2 * i+y) % 2=y:=by omega
     have st:bwN op a b (2 * i+(y+1))=bwS op a b (bwN op a b (2 * i+y)) i y:=by
      show bwN op a b (2 * i+y+1)=_
      simp only [bwN,e1,e2]
     simp only [go_sem,hy',j0,j4,j5,j6,h12,h7,h8,m1,m2,m3,g0,g4,g5,g6,g9,g12,k15,k7,k8,n1,n2,n3]
     refine fcW_int (impl_Known_may.fc a i) ?_
     simp only [go_sem,j0,j4,j5,j6,h12,h7,h8,m1,m2,m3,g0,g4,g5,g6,g9,g12,k15,k7,k8,n1,n2,n3]
     refine fcW_int (impl_Known_may.fc b y) ?_
     simp only [go_sem,j0,j4,j5,j6,h12,h7,h8,m1,m2,m3,g0,g4,g5,g6,g9,g12,k15,k7,k8,n1,n2,n3]
     refine fcW_int (impl_do.fc op i y (by omega)) ?_
     simp only [go_sem,j0,j4,j5,j6,h12,h7,h8,m1,m2,m3,g0,g4,g5,g6,g9,g12,k15,k7,k8,n1,n2,n3]
     cases hd:(doI op i y == 1) with
     | true =>
      simp only [go_sem,hd,hwy,j0,j4,j5,j6,h12,h7,h8,m1,m2,m3,g0,g4,g5,g6,g9,g12,k15,k7,k8,n1,n2,n3]
      exact ⟨y+1,by dsimp only;omega,by omega,by simp only [go_sem,j0,j4,j5,j6,h12,h7,h8,m1,m2,m3,g0,g4,g5,g6,g9,g12,k15,k7,k8,n1,n2,n3],by simp only [go_sem,st,bwS,hd,j0,j4,j5,j6,h12,h7,h8,m1,m2,m3,g0,g4,g5,g6,g9,g12,k15,k7,k8,n1,n2,n3],by simp only [go_sem,st,bwS,hd,j0,j4,j5,j6,h12,h7,h8,m1,m2,m3,g0,g4,g5,g6,g9,g12,k15,k7,k8,n1,n2,n3];rfl,by simp only [go_sem,j0,j4,j5,j6,h12,h7,h8,m1,m2,m3,g0,g4,g5,g6,g9,g12,k15,k7,k8,n1,n2,n3],by simp only [go_sem,j0,j4,j5,j6,h12,h7,h8,m1,m2,m3,g0,g4,g5,g6,g9,g12,k15,k7,k8,n1,n2,n3],by simp only [go_sem,j0,j4,j5,j6,h12,h7,h8,m1,m2,m3,g0,g4,g5,g6,g9,g12,k15,k7,k8,n1,n2,n3]⟩
     | false =>
      simp only [go_sem,hd,hwy,j0,j4,j5,j6,h12,h7,h8,m1,m2,m3,g0,g4,g5,g6,g9,g12,k15,k7,k8,n1,n2,n3]
      exact ⟨y+1,by dsimp only;omega,by omega,by simp only [go_sem,j0,j4,j5,j6,h12,h7,h8,m1,m2,m3,g0,g4,g5,g6,g9,g12,k15,k7,k8,n1,n2,n3],by simp only [go_sem,st,bwS,hd,j0,j4,j5,j6,h12,h7,h8,m1,m2,m3,g0,g4,g5,g6,g9,g12,k15,k7,k8,n1,n2,n3];rfl,by simp only [go_sem,st,bwS,hd,j0,j4,j5,j6,h12,h7,h8,m1,m2,m3,g0,g4,g5,g6,g9,g12,k15,k7,k8,n1,n2,n3],by simp only [go_sem,j0,j4,j5,j6,h12,h7,h8,m1,m2,m3,g0,g4,g5,g6,g9,g12,k15,k7,k8,n1,n2,n3],by simp only [go_sem,j0,j4,j5,j6,h12,h7,h8,m1,m2,m3,g0,g4,g5,g6,g9,g12,k15,k7,k8,n1,n2,n3],by simp only [go_sem,j0,j4,j5,j6,h12,h7,h8,m1,m2,m3,g0,g4,g5,g6,g9,g12,k15,k7,k8,n1,n2,n3]⟩
   · have hy':¬ (y:Int) < 2:=by omega
     obtain rfl:y=2:=by omega
     have hwy:IntKind.i64.wrap (i+1)=((i+1:Nat):Int):=by rw [wrap_in (by omega) (by omega)];omega
     simp only [go_sem,hy',hwy,Int.lt_irrefl,j0,j4,j5,j6,h12,h7,h8,m1,m2,m3,g0,g4,g5,g6,g9,g12,k15,k7,k8,n1,n2,n3]
     exact ⟨i+1,by dsimp only;omega,by omega,by simp only [go_sem,j0,j4,j5,j6,h12,h7,h8,m1,m2,m3,g0,g4,g5,g6,g9,g12,k15,k7,k8,n1,n2,n3],by simp only [go_sem,j0,j4,j5,j6,h12,h7,h8,m1,m2,m3,g0,g4,g5,g6,g9,g12,k15,k7,k8,n1,n2,n3];rfl,by simp only [go_sem,j0,j4,j5,j6,h12,h7,h8,m1,m2,m3,g0,g4,g5,g6,g9,g12,k15,k7,k8,n1,n2,n3];rfl,by simp only [go_sem,j0,j4,j5,j6,h12,h7,h8,m1,m2,m3,g0,g4,g5,g6,g9,g12,k15,k7,k8,n1,n2,n3],by simp only [go_sem,j0,j4,j5,j6,h12,h7,h8,m1,m2,m3,g0,g4,g5,g6,g9,g12,k15,k7,k8,n1,n2,n3],by simp only [go_sem,j0,j4,j5,j6,h12,h7,h8,m1,m2,m3,g0,g4,g5,g6,g9,g12,k15,k7,k8,n1,n2,n3]⟩
 · obtain rfl:i=2:=by omega
   have c2:((2:Nat):Int)=2:=rfl
   simp only [go_sem,c2,Int.lt_irrefl,j0,j4,j5,j6,h12,h7,h8,m1,m2,m3]
   refine fcW_bd (impl_known.fc ..) rfl ?_
   simp only [go_sem,j0,j4,j5,j6,h12,h7,h8,m1,m2,m3]
   rfl
def kbI (op:Int) (a b:Int×Int):Int×Int :=
 if op == 6 then (andI a.1 b.1,andNotI (andI (orI a.1 a.2) (orI b.1 b.2)) (andI a.1 b.1)) else
 if op == 7 then (orI a.1 b.1,andNotI (orI a.2 b.2) (orI a.1 b.1)) else knN (xorI a.1 b.1) (orI a.2 b.2)
theorem spec_l10Bits.fc (op:Int) (a b:Int×Int):FCt prog F_spec_l10Bits [.ro,.ro,.ro] [Ii op,knownD a,knownD b] (knownD (kbI op a b)) []:=by
 refine fct_run spec_l10Bits.ok rfl ?_
 unfold kbI knN andI orI xorI andNotI
 repeat' (first|with_reducible rfl|refine fcW_bd (spec_l10Not.fc ..) rfl ?_|with_reducible refine cdW_dec (fun _=>?_) (fun _=>?_)|refine cdW_not (fun _=>?_) (fun _=>?_)|refine cdW_any (fun _=>?_) (fun _=>?_)|with_reducible refine gdW_decT (fun _=>?_) (fun _=>?_)|with_reducible refine gdW_decF (fun _=>?_) (fun _=>?_)|refine gdW_not (fun _=>?_) (fun _=>?_)|refine gdW_any (fun _=>?_) (fun _=>?_)|simp only [go_sem,bne,iQ,iB,iX,Int.reduceLE,iN,iA,iS,iM,knN,andNotI, *]|rfl)
theorem bw4 (op:Int) (a b:Int×Int):bwN op a b 4=bwS op a b (bwS op a b (bwS op a b (bwS op a b (0,0) 0 0) 0 1) 1 0) 1 1:=rfl
theorem may0 (k:Int×Int):mayK k 0=andNotI 65535 k.1:=rfl
theorem may1 (k:Int×Int):mayK k 1=orI k.1 k.2:=rfl
theorem bitK_eq {op:Int} {a b:Int×Int} (ho:op=6∨op=7∨op=8) (ha:KOk a) (hb:KOk b):bitK op a b=kbI op a b:=by
 have bits:∀ i,(bI a.1).getLsbD i=true→i < 16:=fun i h=>Nat.lt_of_not_le fun hi=>by rw [bI_wd ha.v hi] at h;cases h
 have bits2:∀ i,(bI b.1).getLsbD i=true→i < 16:=fun i h=>Nat.lt_of_not_le fun hi=>by rw [bI_wd hb.v hi] at h;cases h
 have bits3:∀ i,(bI a.2).getLsbD i=true→i < 16:=fun i h=>Nat.lt_of_not_le fun hi=>by rw [bI_wd ha.m hi] at h;cases h
 have bits4:∀ i,(bI b.2).getLsbD i=true→i < 16:=fun i h=>Nat.lt_of_not_le fun hi=>by rw [bI_wd hb.m hi] at h;cases h
 rcases ho with rfl|rfl|rfl
 · have d00:(doI 6 0 0 == 1)=false:=by decide
   have d01:(doI 6 0 1 == 1)=false:=by decide
   have d10:(doI 6 1 0 == 1)=false:=by decide
   have d11:(doI 6 1 1 == 1)=true:=by decide
   simp only [bitK,kbI,knN,bw4,bwS,d00,d01,d10,d11,may0,may1,if_true,Bool.false_eq_true,if_false,Int.reduceBEq]
   simp only [andNotI_bv,orI_bv,andI_bv,bI_toInt]
   refine Prod.ext (congrArg BitVec.toInt (BitVec.eq_of_getLsbD_eq fun i hi=>?_)) (congrArg BitVec.toInt (BitVec.eq_of_getLsbD_eq fun i hi=>?_)) <;>
   · have h1:=disj ha.dj i
     have h2:=disj hb.dj i
     have q1:=bits i
     have q2:=bits2 i
     have q3:=bits3 i
     have q4:=bits4 i
     simp only [BitVec.getLsbD_and,BitVec.getLsbD_not,BitVec.getLsbD_or,bI_mask,bI_zero]
     revert h1 h2 q1 q2 q3 q4
     cases (bI a.1).getLsbD i<;>cases (bI a.2).getLsbD i<;>cases (bI b.1).getLsbD i<;>cases (bI b.2).getLsbD i<;>simp_all
 · have d00:(doI 7 0 0 == 1)=false:=by decide
   have d01:(doI 7 0 1 == 1)=true:=by decide
   have d10:(doI 7 1 0 == 1)=true:=by decide
   have d11:(doI 7 1 1 == 1)=true:=by decide
   simp only [bitK,kbI,knN,bw4,bwS,d00,d01,d10,d11,may0,may1,if_true,Bool.false_eq_true,if_false,Int.reduceBEq]
   simp only [andNotI_bv,orI_bv,andI_bv,bI_toInt]
   refine Prod.ext (congrArg BitVec.toInt (BitVec.eq_of_getLsbD_eq fun i hi=>?_)) (congrArg BitVec.toInt (BitVec.eq_of_getLsbD_eq fun i hi=>?_)) <;>
   · have h1:=disj ha.dj i
     have h2:=disj hb.dj i
     have q1:=bits i
     have q2:=bits2 i
     have q3:=bits3 i
     have q4:=bits4 i
     simp only [BitVec.getLsbD_and,BitVec.getLsbD_not,BitVec.getLsbD_or,bI_mask,bI_zero]
     revert h1 h2 q1 q2 q3 q4
     cases (bI a.1).getLsbD i<;>cases (bI a.2).getLsbD i<;>cases (bI b.1).getLsbD i<;>cases (bI b.2).getLsbD i<;>simp_all
 · have d00:(doI 8 0 0 == 1)=false:=by decide
   have d01:(doI 8 0 1 == 1)=true:=by decide
   have d10:(doI 8 1 0 == 1)=true:=by decide
   have d11:(doI 8 1 1 == 1)=false:=by decide
   simp only [bitK,kbI,knN,bw4,bwS,d00,d01,d10,d11,may0,may1,if_true,Bool.false_eq_true,if_false,Int.reduceBEq]
   simp only [andNotI_bv,orI_bv,andI_bv,xorI_bv,bI_toInt]
   refine Prod.ext (congrArg BitVec.toInt (BitVec.eq_of_getLsbD_eq fun i hi=>?_)) (congrArg BitVec.toInt (BitVec.eq_of_getLsbD_eq fun i hi=>?_)) <;>
   · have h1:=disj ha.dj i
     have h2:=disj hb.dj i
     have q1:=bits i
     have q2:=bits2 i
     have q3:=bits3 i
     have q4:=bits4 i
     simp only [BitVec.getLsbD_and,BitVec.getLsbD_not,BitVec.getLsbD_or,BitVec.getLsbD_xor,bI_mask,bI_zero]
     revert h1 h2 q1 q2 q3 q4
     cases (bI a.1).getLsbD i<;>cases (bI a.2).getLsbD i<;>cases (bI b.1).getLsbD i<;>cases (bI b.2).getLsbD i<;>simp_all
theorem impl_bitwise.fc {op:Int} {a b:Int×Int} (ho:op=6∨op=7∨op=8) (ha:KOk a) (hb:KOk b):FCt prog F_impl_bitwise [.ro,.ro,.ro] [Ii op,knownD a,knownD b] (knownD (kbI op a b)) [] :=
 bitK_eq ho ha hb▸impl_bitwise.fc0 op a b
def kdI (op:Int) (a b:Int×Int):Int×Int :=
 if op == 6 then kbI op a b else if op == 7 then kbI op a b else if op == 8 then kbI op a b else
 if op == 1 then knN (IntKind.i64.wrap (a.1+b.1) % 65536) (orI (orI a.2 b.2) (xorI (IntKind.i64.wrap (a.1+b.1) % 65536) (IntKind.i64.wrap (IntKind.i64.wrap (IntKind.i64.wrap (a.1+a.2)+b.1)+b.2) % 65536))) else
 if op == 2 then knN (IntKind.i64.wrap (a.1 - b.1) % 65536) (orI (orI a.2 b.2) (xorI (IntKind.i64.wrap (IntKind.i64.wrap (a.1 - b.1) % 65536+a.2) % 65536) (IntKind.i64.wrap (IntKind.i64.wrap (a.1 - b.1) % 65536 - b.2) % 65536))) else
 if op == 9 then (if b.2 == 0 then (doI op a.1 b.1,doI op a.2 b.1) else (0,65535)) else
 if op == 10 then (if b.2 == 0 then (doI op a.1 b.1,doI op a.2 b.1) else (0,65535)) else
 if a.2 == 0 then (if b.2 == 0 then (doI op a.1 b.1,0) else (0,65535)) else (0,65535)
theorem impl_doKnown.fc (op:Int) (a b:Int×Int) (ha:KOk a) (hb:KOk b):FCt prog F_impl_doKnown [.ro,.ro,.ro] [Ii op,knownD a,knownD b] (knownD (kdI op a b)) []:=by
 refine fct_run impl_doKnown.ok rfl ?_
 have cb:=fun h=>impl_bitwise.fc (op:=op) h ha hb
 have hv:=hb.v.1
 clear ha hb
 unfold kdI orI xorI
 rcases (show (op=6∨op=7∨op=8)∨(¬ op=6∧¬ op=7∧¬ op=8) by omega) with h|h
 · have cb:=cb h
   rcases h with rfl|rfl|rfl<;>repeat' (first|with_reducible rfl|refine fcW_bd (cb) rfl ?_|with_reducible refine cdW_dec (fun _=>?_) (fun _=>?_)|refine cdW_not (fun _=>?_) (fun _=>?_)|refine cdW_any (fun _=>?_) (fun _=>?_)|with_reducible refine gdW_decT (fun _=>?_) (fun _=>?_)|with_reducible refine gdW_decF (fun _=>?_) (fun _=>?_)|refine gdW_not (fun _=>?_) (fun _=>?_)|refine gdW_any (fun _=>?_) (fun _=>?_)|simp only [go_sem,bne,iQ,iB,iX,Int.reduceLE,iN,iA,iS,iM, *]|rfl)
 · have h6:(op == 6)=false:=by simpa using h.1
   have h7:(op == 7)=false:=by simpa using h.2.1
   have h8:(op == 8)=false:=by simpa using h.2.2
   clear cb h
   repeat' (first|with_reducible rfl|refine fcW_int (impl_WordOf.fc ..) ?_|refine fcW_bd (impl_known.fc ..) rfl ?_|refine fcW_bd (impl_unknown.fc) rfl ?_|refine fcW_int (impl_do.fc _ _ _ hv) ?_|refine fcW_bd (impl_exact.fc ..) rfl ?_|with_reducible refine cdW_dec (fun _=>?_) (fun _=>?_)|refine cdW_not (fun _=>?_) (fun _=>?_)|refine cdW_any (fun _=>?_) (fun _=>?_)|with_reducible refine gdW_decT (fun _=>?_) (fun _=>?_)|with_reducible refine gdW_decF (fun _=>?_) (fun _=>?_)|refine gdW_not (fun _=>?_) (fun _=>?_)|refine gdW_any (fun _=>?_) (fun _=>?_)|simp only [go_sem,bne,iQ,iB,iX,Int.reduceLE,iN,iA,iS,iM, *]|rfl)
theorem spec_l10Do.fc (op:Int) (a b:Int×Int) (hb:KOk b):FCt prog F_spec_l10Do [.ro,.ro,.ro] [Ii op,knownD a,knownD b] (knownD (kdI op a b)) []:=by
 refine fct_run spec_l10Do.ok rfl ?_
 have hv:=hb.v.1
 clear hb
 unfold kdI orI xorI
 repeat' (first|with_reducible rfl|refine fcW_int (spec_l1Wrap.fc ..) ?_|refine fcW_bd (spec_l10Bits.fc ..) rfl ?_|refine fcW_bd (spec_l10Not.fc ..) rfl ?_|refine fcW_int (spec_l1Do.fc _ _ _ hv) ?_|with_reducible refine cdW_dec (fun _=>?_) (fun _=>?_)|refine cdW_not (fun _=>?_) (fun _=>?_)|refine cdW_any (fun _=>?_) (fun _=>?_)|with_reducible refine gdW_decT (fun _=>?_) (fun _=>?_)|with_reducible refine gdW_decF (fun _=>?_) (fun _=>?_)|refine gdW_not (fun _=>?_) (fun _=>?_)|refine gdW_any (fun _=>?_) (fun _=>?_)|simp only [go_sem,bne,iQ,iB,iX,Int.reduceLE,iN,iA,iS,iM, *]|rfl)
end Go.Vm.YtmbhjcgikblpiaaGreat
