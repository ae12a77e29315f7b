/- What the functions that the law reaches return: part 1 (the conditions stand at each). -/
import Derived.Test.YtmbhjcgikblpiaaGreatIrb
import Derived.Tactics
import Derived.Tactics2
import Derived.StillTactics
import Derived.Laws.Pointers
open Int renaming reduceEq → iQ, reduceBEq → iB, reduceBNe → iX, reduceNeg → iN, reduceAdd → iA, reduceSub → iS, reduceMul → iM
attribute [go_sem_proc] Nat.reduceEqDiff Nat.reduceAdd Nat.reduceMul Nat.reduceBEq Int.reduceToNat Nat.reduceSub Nat.reduceLT Nat.reduceLeDiff Int.reduceLE Int.reduceLT reduceCtorEq
attribute [go_sem_proc ↓] reduceIte
attribute [go_sem] Option.getD_none
namespace Go.Vm
open Go
set_option linter.unusedSimpArgs false
set_option linter.unusedVariables false
abbrev Ii (n:Int):D:=.int .i64 n
abbrev Bb (b:Bool):D:=.bool b
abbrev ints (l:List Int):D:=.sl 1 (l.map Ii)
abbrev aI (n:Int):AV:=.dat none (.int .i64 n)
abbrev aB (b:Bool):AV:=.dat none (.bool b)
def i64 (n:Int):Prop:=-9223372036854775808≤n∧n≤9223372036854775807
theorem Zbc {k m:Nat} (h:k < m) (hm:m≤9223372036854775807):IntKind.i64.wrap ((k:Int)+1)=((k+1:Nat):Int):=by
 rw [Zaj (by omega) (by omega)];rfl
theorem Zbg {α:Type} {l:List α} {k:Nat} (h:k < l.length):l.take (k+1)=l.take k++[l[k]]:=by
 rw [List.take_succ_eq_append_getElem h]
theorem ZeL {α:Type} {p:α→Bool} {l:List α} {k:Nat} (h:k < l.length) (h1:(l.take k).all p=true) (h2:p l[k]=true):(l.take (k+1)).all p=true:=by
 rw [Zbg h,List.all_append,h1];simpa using h2
theorem ZmH {α:Type} {p:α→Bool} {l:List α} {k:Nat} (h:k < l.length) (h2:p l[k]=false):l.all p=false:=by
 rw [← Bool.not_eq_true,List.all_eq_true]
 intro hh
 have:=hh _ (List.getElem_mem h)
 rw [h2] at this;cases this
section
variable {α:Type} {f:α→D} {z:D} {l:List α} {k:Nat}
theorem Zaa:(l.map f).take l.length=l.map f:=by rw [List.take_of_length_le (by simp)]
end
def ovr {α:Type} (A B:List α) (k:Nat):List α:=A.take k++B.drop k
section
variable {α:Type} {A B:List α} {k:Nat}
theorem Zfp:ovr A B 0=B:=by simp [ovr]
theorem Zhm (h:A.length=B.length):ovr A B B.length=A:=by simp [ovr,← h]
theorem ZpJ (h:A.length=B.length) (hk:k < B.length):(ovr A B k)[k]? = B[k]?:=by
 have e:(A.take k).length=k:=by rw [List.length_take];omega
 rw [ovr,List.getElem?_append_right (by omega),e,Nat.sub_self,List.getElem?_drop];rfl
theorem ZpY {x:α} (h:A.length=B.length) (hk:k < B.length) (hx:A[k]? = some x):(ovr A B k).set k x=ovr A B (k+1):=by
 have e:(A.take k).length=k:=by rw [List.length_take];omega
 have hd:B.drop k=B[k]::B.drop (k+1):=List.drop_eq_getElem_cons hk
 have hkA:k < A.length:=by omega
 have hx':A[k]=x:=by rw [List.getElem?_eq_getElem hkA] at hx;exact Option.some.inj hx
 rw [ovr,ovr,List.set_append_right _ _ (by omega),e,Nat.sub_self,hd,List.set_cons_zero,Zbg hkA,hx',List.append_assoc];rfl
end
def RowAt (x:AV) (M:Mem) (nm sz:Nat) (ds:List D):Prop:=(ds=[]∧x=.nil sz)∨∃ v,x=.sl nm v 0 ds.length sz∧M.m nm=some (.arr v true sz ds)
theorem RowAt.nil {M:Mem} {nm sz:Nat}:RowAt (.nil sz) M nm sz []:=.inl ⟨rfl,rfl⟩
theorem RowAt.sl {x:AV} {M:Mem} {nm sz v n:Nat} {ds:List D} (hx:x=.sl nm v 0 n sz) (hn:n=ds.length) (hm:M.m nm=some (.arr v true sz ds)):RowAt x M nm sz ds:=.inr ⟨v,by rw [hx,hn],hm⟩
section
variable {α:Type} {f:Int→α→α} {c:α→Nat}
end
theorem ZfW:∀ {ds:List D},(∀ d∈ds,noRs d=true)→noRsL ds=true
 | [],_=>rfl
 | d::ds,h=>by simp only [noRsL,Bool.and_eq_true];exact ⟨h d List.mem_cons_self,ZfW fun x hx=>h x (List.mem_cons_of_mem _ hx)⟩
theorem ZeZ {sz:Nat} {ds:List D} (h:∀ d∈ds,noRs d=true):noRs (.sl sz ds)=true:=by simp only [noRs];exact ZfW h
theorem ZaY {l:List Int}:noRs (ints l)=true:=ZeZ (by simp [noRs])
section
variable {P:Program} {s:Nat→AV} {M:Mem} {nb ib:Nat}
theorem Zis:∀ (caps:List D),frzR s M ((caps.map bindC).map X.k)=some caps
 | []=>rfl
 | c::caps=>by simp only [List.map_cons,frzR,ev_k,Ziz,Zis caps]
theorem Zkd:∀ (xs ys:List X),frzR s M (xs++ys)=match frzR s M xs,frzR s M ys with|some a,some b=>some (a++b)|_,_=>none
 | [],ys=>by simp only [List.nil_append,frzR];cases frzR s M ys<;>rfl
 | x::xs,ys=>by
  simp only [List.cons_append,frzR,Zkd xs ys]
  cases frz M 8 (x.ev s)<;>cases frzR s M xs<;>cases frzR s M ys<;>rfl
theorem Zqw {f:FuncId} {caps:List D} {args:List X} {ds:List D} {K:AV→Mem→(Nat→Bool)→Prop} (ha:frzR s M args=some ds)
 (h:@fcW P f (args.map (fun _=>Md.ro)++caps.map fun _=>Md.ro) (ds++caps) false ((args++(caps.map bindC).map X.k).all fun x=>coldA (x.ev s)) nb ib M ⟨K⟩):@cW P (.clo f (caps.map bindC)) s M nb ib false args ⟨K⟩:=by
 rw [Zqs,ZtX,Zkd,ha,Zis]
 have e:((args++(caps.map bindC).map X.k).map fun _=>Md.ro)=(args.map (fun _=>Md.ro)++caps.map fun _=>Md.ro):=by simp [List.map_map,Function.comp_def]
 rw [e]
 exact h
end
def idxB {α:Type} (p:α→Bool) (l:List α):Int:=match l.findIdx? p with
 | some i=>i
 | none=>-1
theorem Zii {α:Type} {p:α→Bool} {l:List α} (h:l.all (fun x=>!p x)=true):idxB p l = -1:=by
 unfold idxB
 rw [List.findIdx?_eq_none_iff.2 (fun x hx=>by simpa using List.all_eq_true.1 h x hx)]
theorem Zit {α:Type} {p:α→Bool} {l:List α} {k:Nat} (hk:k < l.length) (h:(l.take k).all (fun x=>!p x)=true) (hp:p l[k]=true):idxB p l=k:=by
 unfold idxB
 rw [List.findIdx?_eq_some_iff_getElem.2 ⟨hk,hp,fun j hj=>by
  have:=List.all_eq_true.1 h l[j] (by rw [List.mem_take_iff_getElem];exact ⟨j,by omega,rfl⟩)
  simpa using this⟩]
theorem Zjg {α:Type} {p:α→Bool} {l:List α}:decide (0≤idxB p l)=l.any p:=by
 unfold idxB
 cases h:l.findIdx? p with
 | none =>
  rw [List.findIdx?_eq_none_iff] at h
  rw [List.any_eq_false.2 (fun x hx=>by simp [h x hx])];rfl
 | some i =>
  rw [List.findIdx?_eq_some_iff_getElem] at h
  obtain ⟨hi,hp,_⟩:=h
  rw [List.any_eq_true.2 ⟨l[i],List.getElem_mem hi,hp⟩]
  simp
end Go.Vm
namespace Go.Vm.YtmbhjcgikblpiaaGreat
open Go Go.Vm
set_option maxRecDepth 10000
set_option maxHeartbeats 4000000
set_option linter.unusedSimpArgs false
set_option linter.unusedVariables false
def inB (n lo hi:Int):Bool:=decide (lo≤n)&&decide (n≤hi)
theorem impl_in.fc (n lo hi:Int):FCt prog Zc8 [.ro,.ro,.ro] [Ii n,Ii lo,Ii hi] (Bb (inB n lo hi)) []:=by
 refine Zak impl_in.ok rfl ?_
 unfold inB
 by_cases h:lo≤n
 · simp only [go_sem,ge_iff_le,h]
 · simp only [go_sem,ge_iff_le,h]
theorem spec_l1In.fc (n lo hi:Int):FCt prog ZaO [.ro,.ro,.ro] [Ii n,Ii lo,Ii hi] (Bb (inB n lo hi)) []:=by
 refine Zak spec_l1In.ok rfl ?_
 unfold inB
 by_cases h:lo≤n
 · simp only [go_sem,ge_iff_le,h]
 · simp only [go_sem,ge_iff_le,h]
structure RuleD where
 ifs:List Int
 thn:Int
 deriving DecidableEq
abbrev RuleD.d (r:RuleD):D:=.agg [ints r.ifs,Ii r.thn]
abbrev rules (l:List RuleD):D:=.sl 2 (l.map RuleD.d)
abbrev pr (a b:Int):D:=.agg [Ii a,Ii b]
def goodS (a b:Int):Bool:=inB a 0 65535&&inB b 0 65535&&decide (a≤b)
def andI (a b:Int):Int:=IntKind.i64.wrap (BitVec.ofInt IntKind.i64.bits a &&& BitVec.ofInt IntKind.i64.bits b).toNat
def andNotI (a b:Int):Int:=IntKind.i64.wrap (BitVec.ofInt IntKind.i64.bits a &&& ~~~BitVec.ofInt IntKind.i64.bits b).toNat
def goodK (a b:Int):Bool:=inB a 0 65535&&inB b 0 65535&&(andI a b == 0)
theorem spec_l10May.fc (a b n:Int):FCt prog Zdc [.ro,.ro] [pr a b,Ii n] (Bb (andNotI n b == a)) []:=by
 refine Zak spec_l10May.ok rfl ?_
 unfold andNotI
 simp only [go_sem]
theorem impl_Known_matches.fc (a b n:Int):FCt prog ZbD [.ro,.ro] [pr a b,Ii n] (Bb (andNotI n b == a)) []:=by
 refine Zak impl_Known_matches.ok rfl ?_
 unfold andNotI
 simp only [go_sem]
theorem impl_exact.fc (n:Int):FCt prog ZbM [.ro] [Ii n] (pr n 0) []:=by
 refine Zak impl_exact.ok rfl ?_
 simp only [go_sem]
theorem spec_l1Most.fc (a b:Int):FCt prog ZaT [.ro,.ro] [Ii a,Ii b] (Ii (if b > a then b else a)) []:=by
 refine Zak spec_l1Most.ok rfl ?_
 by_cases h:a > b
 · have e:(if b > a then b else a)=a:=by split<;>omega
   simp only [go_sem,h,e]
 · have e:(if b > a then b else a)=b:=by split<;>omega
   simp only [go_sem,h,e]
theorem spec_l1Least.fc (a b:Int):FCt prog ZaM [.ro,.ro] [Ii a,Ii b] (Ii (if b < a then b else a)) []:=by
 refine Zak spec_l1Least.ok rfl ?_
 by_cases h:a < b
 · have e:(if b < a then b else a)=a:=by split<;>omega
   simp only [go_sem,h,e]
 · have e:(if b < a then b else a)=b:=by split<;>omega
   simp only [go_sem,h,e]
def redu (a b v m:Int):D :=
 let lo:=if v > a then v else a
 let hi:=if IntKind.i64.wrap (v+m) < b then IntKind.i64.wrap (v+m) else b
 if lo > hi then .tup [pr 0 0,pr 0 0,Bb false] else
 if lo < hi then .tup [pr lo hi,pr v m,Bb true] else
 if andNotI lo m == v then .tup [pr lo hi,pr lo 0,Bb true] else .tup [pr 0 0,pr 0 0,Bb false]
theorem impl_reduceBoth.fc (a b v m:Int):FCt prog ZbA [.ro,.ro] [pr a b,pr v m] (redu a b v m) []:=by
 refine Zak impl_reduceBoth.ok rfl ?_
 unfold redu
 generalize hlo:(if v > a then v else a)=lo
 generalize hhi:(if IntKind.i64.wrap (v+m) < b then IntKind.i64.wrap (v+m) else b)=hi
 dsimp only
 simp only [go_sem,hlo,hhi]
 by_cases h1:lo > hi
 · simp only [go_sem,h1]
 · by_cases h2:lo < hi
   · simp only [go_sem,h1,h2]
   · simp only [go_sem,h1,h2]
     refine Zap (impl_Known_matches.fc ..) ?_
     cases h3:(andNotI lo m == v)
     · simp only [go_sem,h1,h2]
     · simp only [go_sem]
       refine Zj6 (impl_exact.fc _) rfl rfl (by omega) rfl ?_
       simp only [go_sem,h1,h2]
theorem spec_l13Reduce.fc (a b v m:Int):FCt prog ZbH [.ro,.ro] [pr a b,pr v m] (redu a b v m) []:=by
 refine Zak spec_l13Reduce.ok rfl ?_
 unfold redu
 generalize hlo:(if v > a then v else a)=lo
 generalize hhi:(if IntKind.i64.wrap (v+m) < b then IntKind.i64.wrap (v+m) else b)=hi
 dsimp only
 simp only [go_sem]
 refine Zam (spec_l1Most.fc ..) ?_
 simp only [go_sem]
 refine Zam (spec_l1Least.fc ..) ?_
 simp only [go_sem,hlo,hhi]
 by_cases h1:lo > hi
 · simp only [go_sem,h1]
 · by_cases h2:lo < hi
   · have h3:(lo == hi)=false:=by simp;omega
     simp only [go_sem,h1,h2,h3]
   · obtain rfl:lo=hi:=by omega
     simp only [go_sem,h1,h2]
     refine Zap (spec_l10May.fc ..) ?_
     cases h3:(andNotI lo m == v)
     · simp only [go_sem,h1,h2]
     · simp only [go_sem,h1,h2]
abbrev arcD (a:Int×Int):D:=pr a.1 a.2
abbrev arcs (l:List (Int×Int)):D:=.sl 2 (l.map arcD)
theorem slices_IndexFunc__sint_int.fc (l:List Int) (f:FuncId) (caps:List D) (p:Int→Bool) (hl:l.length≤4294967296)
 (h:∀ x∈l,FCt prog f (.ro::caps.map fun _=>.ro) (Ii x::caps) (Bb (p x)) []):FCt prog ZaS [.ro,.ro] [ints l,.clo f caps] (Ii (idxB p l)) []:=by
 refine Zak slices_IndexFunc__sint_int.ok rfl ?_
 simp only [go_sem]
 refine ZaI (α:=Nat) (fun k s' M'=>k≤l.length∧s' 8=aI k∧(l.take k).all (fun x=>!p x)=true) (fun k=>l.length - k) 0 ⟨by omega,by simp only [go_sem];rfl,by simp⟩ ?_
 rintro k s' M' ⟨hk,h8,hr⟩ ho
 have h0:s' 0=.dat none (ints l):=by rw [ho 0 rfl];simp only [go_sem]
 have h1:s' 1=.clo f (caps.map bindC):=by rw [ho 1 rfl];simp only [go_sem]
 have h7:s' 7=aI l.length:=by rw [ho 7 rfl];simp only [go_sem]
 clear ho
 unfold slices_IndexFunc__sint_int.b0
 by_cases hlt:k < l.length
 · have hi':(k:Int) < l.length:=by omega
   have ga:l[k]? = some l[k]:=List.getElem?_eq_getElem hlt
   have hw:IntKind.i64.wrap (k+1)=((k+1:Nat):Int):=Zbc hlt (by omega)
   simp only [go_sem,h0,h1,h7,h8,hi',ga]
   refine Zqw (ds:=[Ii l[k]]) (by simp only [go_sem]) ?_
   refine Zap (h _ (List.getElem_mem hlt)) ?_
   cases hp:p l[k] with
   | true=>simp only [go_sem,Zit hlt hr hp]
   | false =>
    simp only [go_sem,h8,hw]
    exact ⟨k+1,by dsimp only;omega,by omega,by simp only [go_sem],ZeL hlt hr (by simp [hp])⟩
 · have hi':¬ (k:Int) < l.length:=by omega
   rw [List.take_of_length_le (by omega)] at hr
   simp only [go_sem,h0,h1,h7,h8,hi',Zii hr]
theorem slices_ContainsFunc__sint_int.fc (l:List Int) (f:FuncId) (caps:List D) (p:Int→Bool) (hl:l.length≤4294967296)
 (h:∀ x∈l,FCt prog f (.ro::caps.map fun _=>.ro) (Ii x::caps) (Bb (p x)) []):FCt prog ZaL [.ro,.ro] [ints l,.clo f caps] (Bb (l.any p)) []:=by
 refine Zak slices_ContainsFunc__sint_int.ok rfl ?_
 simp only [go_sem]
 refine Zam (slices_IndexFunc__sint_int.fc l f caps p hl h) ?_
 simp only [go_sem,ge_iff_le,Zjg]
def putK (l:List Int) (x:Int):Nat:=l.findIdx (fun y=>!decide (y < x))
def putI (l:List Int) (x:Int):List Int:=if l[putK l x]? = some x then l else l.take (putK l x)++x::l.drop (putK l x)
theorem ZpV {l:List Int} {x:Int} {k:Nat} (hk:k < l.length) (h:(l.take k).all (fun y=>decide (y < x))=true) (h2:¬ l[k] < x):putK l x=k:=by
 unfold putK
 rw [List.findIdx_eq hk]
 refine ⟨by simp [h2],fun j hj=>?_⟩
 have:=List.all_eq_true.1 h l[j] (by rw [List.mem_take_iff_getElem];exact ⟨j,by omega,rfl⟩)
 simpa using this
theorem Znw {l:List Int} {x:Int} (h:l.all (fun y=>decide (y < x))=true):putK l x=l.length:=by
 unfold putK
 rw [List.findIdx_eq_length]
 intro y hy
 have:=List.all_eq_true.1 h y hy
 simpa using this
theorem allSc {l:List Int}:(l.map Ii).all isSc=true:=by
 rw [List.all_eq_true];intro d hd;obtain ⟨x,_,rfl⟩:=List.mem_map.1 hd;rfl
theorem ZnX {l:List Int} {k:Nat} (hk:k≤l.length):(l.take k).length=k:=by rw [List.length_take];omega
theorem Zob (l:List Int) (x:Int):(putI l x).length≤l.length+1:=by
 unfold putI
 split
 · omega
 · simp;omega
abbrev bools (l:List Bool):D:=.sl 1 (l.map Bb)
def hasI (so:List Int) (x:Int):Bool:=so.any (· == x)
def listI (n:Nat) (p:Nat→Bool):List Int:=((List.range n).filter p).map fun (i:Nat)=>(i:Int)
theorem ZcC {l:List Bool}:noRs (bools l)=true:=ZeZ (by
 intro d hd;obtain ⟨x,_,rfl⟩:=List.mem_map.1 hd;rfl)
theorem allScB {l:List Bool}:(l.map Bb).all isSc=true:=by
 rw [List.all_eq_true];intro d hd;obtain ⟨x,_,rfl⟩:=List.mem_map.1 hd;rfl
theorem slices_Clone__sbool_bool.fc (b:Bool) (l:List Bool) (hl:l.length≤4294967296):FCt prog ZaJ [.ro] [bools (b::l)] (bools (b::l)) []:=by
 refine Zak slices_Clone__sbool_bool.ok rfl ?_
 have hb:(l.length+1) * 1≤70368744177664:=by omega
 have htk:(l.map Bb).take l.length=l.map Bb:=List.take_of_length_le (by simp)
 simp only [go_sem,allScB,hb,Nat.zero_le,htk]
 rfl
theorem slices_Clone__sbool_bool.fc1 (l:List Bool) (h:0 < l.length) (hl:l.length≤4294967296):FCt prog ZaJ [.ro] [bools l] (bools l) []:=by
 cases l with
 | nil=>simp at h
 | cons b l=>exact slices_Clone__sbool_bool.fc b l (by simpa using Nat.le_of_succ_le hl)
def segI (a b:Nat) (p:Nat→Bool):List Int:=((List.range' a b).filter p).map fun (i:Nat)=>(i:Int)
theorem ZeH (n:Nat) (p:Nat→Bool):listI n p=segI 0 n p:=by simp only [listI,segI,List.range_eq_range']
theorem ZdX {a b c:Nat} {p:Nat→Bool}:segI a (b+c) p=segI a b p++segI (a+b) c p:=by
 simp only [segI]
 rw [← List.range'_append_1,List.filter_append,List.map_append]
theorem Zjl {a b:Nat} {p:Nat→Bool} {x:Int} (h:x∈segI a b p):∃ i:Nat,x=i∧a≤i∧i < a+b∧p i=true:=by
 simp only [segI,List.mem_map,List.mem_filter,List.mem_range'_1] at h
 obtain ⟨i,⟨hi,hp⟩,rfl⟩:=h
 exact ⟨i,rfl,hi.1,hi.2,hp⟩
theorem Ze4 {a b:Nat} {p q:Nat→Bool} (h:∀ i,a≤i→i < a+b→p i=q i):segI a b p=segI a b q:=by
 simp only [segI]
 congr 1
 exact List.filter_congr fun i hi=>by rw [List.mem_range'_1] at hi;exact h i hi.1 hi.2
theorem Zjt {A C:List Int} {x:Int} (hA:∀ y∈A,y < x) (hC:∀ y∈C,¬ y < x):putK (A++C) x=A.length:=by
 unfold putK
 have h1:A.findIdx (fun y=>!decide (y < x))=A.length:=by
  rw [List.findIdx_eq_length];intro y hy;simp [hA y hy]
 rw [List.findIdx_append,h1,if_neg (by omega)]
 cases C with
 | nil=>simp
 | cons c C =>
  have:=hC c List.mem_cons_self
  simp only [List.findIdx_cons,this,decide_false,Bool.not_false,cond_true,Nat.zero_add]
theorem ZjZ {A C:List Int} {x:Int} (hA:∀ y∈A,y < x) (hC:∀ y∈C,x < y):putI (A++C) x=A++x::C∧putI (A++x::C) x=A++x::C:=by
 constructor
 · unfold putI
   rw [Zjt hA (fun y hy=>by have:=hC y hy;omega)]
   have:(A++C)[A.length]?≠some x:=by
    rw [List.getElem?_append_right (Nat.le_refl _),Nat.sub_self]
    cases C with
    | nil=>simp
    | cons c C=>have:=hC c List.mem_cons_self;simp;omega
   rw [if_neg this]
   simp
 · unfold putI
   rw [Zjt hA (fun y hy=>by
    rcases List.mem_cons.1 hy with rfl|hy
    · omega
    · have:=hC y hy;omega)]
   simp
theorem Zl8 {n:Nat} {p:Nat→Bool} {x:Nat} (hx:x < n):putI (listI n p) x=listI n (fun i=>if i=x then true else p i):=by
 obtain ⟨m,rfl⟩:∃ m,n=x+(1+m):=⟨n - x - 1,by omega⟩
 rw [ZeH,ZeH,ZdX (p:=p),ZdX (p:=p) (b:=1),ZdX (p:=fun i=>if i=x then true else p i),ZdX (p:=fun i=>if i=x then true else p i) (b:=1)]
 simp only [Nat.zero_add]
 have hA:∀ q,∀ y∈segI 0 x q,y < (x:Int):=fun q y hy=>by obtain ⟨i,rfl,_,h,_⟩:=Zjl hy;omega
 have hC:∀ q,∀ y∈segI (x+1) m q,(x:Int) < y:=fun q y hy=>by obtain ⟨i,rfl,h,_,_⟩:=Zjl hy;omega
 have e1:segI 0 x (fun i=>if i=x then true else p i)=segI 0 x p:=Ze4 fun i _ h=>by rw [if_neg (by omega)]
 have e2:segI (x+1) m (fun i=>if i=x then true else p i)=segI (x+1) m p:=Ze4 fun i h _=>by rw [if_neg (by omega)]
 have e3:segI x 1 (fun i=>if i=x then true else p i)=[(x:Int)]:=by simp [segI]
 rw [e1,e2,e3]
 cases hp:p x with
 | true =>
  have e4:segI x 1 p=[(x:Int)]:=by simp [segI,hp]
  rw [e4]
  exact (ZjZ (hA p) (hC p)).2
 | false =>
  have e4:segI x 1 p=[]:=by simp [segI,hp]
  rw [e4,List.nil_append]
  exact (ZjZ (hA p) (hC p)).1
theorem ZiX {n:Nat} {p q:Nat→Bool} (h:∀ i,i < n→p i=q i):listI n p=listI n q:=by
 rw [ZeH,ZeH];exact Ze4 fun i _ hi=>h i (by omega)
theorem Zfr {fs:List D} (h:∀ d∈fs,noRs d=true):noRs (.agg fs)=true:=by simp only [noRs];exact ZfW h
theorem hasSl {α:Type} {f:α→D} {p:α→Prop} {T:Ty} (one:∀ x,HasTy T x→∃ a,x=f a∧p a) {d:D} (h:HasTy (.sl T) d):∃ l:List α,d=.sl T.cells (l.map f)∧l.length≤9223372036854775807∧∀ a∈l,p a:=by
 simp only [HasTy] at h
 obtain ⟨xs,rfl,hl,h⟩:=h
 have:∀ xs:List D,(∀ x∈xs,HasTy T x)→∃ l:List α,xs=l.map f∧∀ a∈l,p a:=by
  intro xs
  induction xs with
  | nil=>intro _;exact ⟨[],rfl,by simp⟩
  | cons x xs ih =>
   intro h
   obtain ⟨a,rfl,hp⟩:=one x (h x List.mem_cons_self)
   obtain ⟨l,rfl,hl⟩:=ih fun y hy=>h y (List.mem_cons_of_mem _ hy)
   exact ⟨a::l,rfl,fun b hb=>by
    rcases List.mem_cons.1 hb with rfl|hb
    · exact hp
    · exact hl b hb⟩
 obtain ⟨l,rfl,hp⟩:=this xs h
 exact ⟨l,rfl,by simpa [maxLen] using hl,hp⟩
theorem Zdv {a b:D} (h1:noRs a=true) (h2:noRs b=true):noRs (.tup [a,b])=true:=by simp only [noRs,noRsL,h1,h2,Bool.and_self]
theorem Zpt {a b c:D} (h1:noRs a=true) (h2:noRs b=true) (h3:noRs c=true):noRs (.tup [a,b,c])=true:=by simp only [noRs,noRsL,h1,h2,h3,Bool.and_self]
theorem spec_l1Put.fco (l:List Int) (x:Int) (hl:l.length≤4294967296):FCt prog ZdP [.co,.ro] [ints l,Ii x] (ints (putI l x)) []:=by
 refine Zak spec_l1Put_co.ok rfl ?_
 simp only [go_sem]
 refine ZtF (fun e s' M'=>e=.ex 0∧s' 5=aI (putK l x)∧M'.m 0=some (.arr 0 true 1 (l.map Ii))∧putK l x≤l.length) ?_ ?_
 · refine ZaI (α:=Nat) (fun k s' M'=>k≤l.length∧s' 5=aI k∧M'.m 0=some (.arr 0 true 1 (l.map Ii))∧(l.take k).all (fun y=>decide (y < x))=true) (fun k=>l.length - k) 0 ⟨by omega,by simp only [go_sem];rfl,by simp only [go_sem],by simp⟩ ?_
   rintro k s' M' ⟨hk,h5,hm,hr⟩ ho
   unfold spec_l1Put_co.b0
   have k0:s' 0=.sl 0 0 0 l.length 1:=by rw [ho 0 rfl];simp only [go_sem]
   have k1:s' 1=aI x:=by rw [ho 1 rfl];simp only [go_sem]
   clear ho
   by_cases hlt:k < l.length
   · have hi':(k:Int) < l.length:=by omega
     have ga:l[k]? = some l[k]:=List.getElem?_eq_getElem hlt
     have hw:IntKind.i64.wrap (k+1)=((k+1:Nat):Int):=Zbc hlt (by omega)
     by_cases hc:l[k] < x
     · simp only [go_sem,hi',ga,hc,hw,k0,k1,h5,hm]
       exact ⟨k+1,by dsimp only;omega,by omega,by simp only [go_sem,k0,k1,h5,hm],by simp only [go_sem,k0,k1,h5,hm],ZeL hlt hr (by simpa using hc)⟩
     · have hp:=ZpV hlt hr hc
       simp only [go_sem,hi',ga,hc,hp,k0,k1,h5,hm]
       exact hk
   · have hi':¬ (k:Int) < l.length:=by omega
     rw [List.take_of_length_le (by omega)] at hr
     have hp:=Znw hr
     obtain rfl:k=l.length:=by omega
     simp only [go_sem,hi',hp,k0,k1,h5,hm]
 · rintro e s' M' ⟨rfl,h5,hm,hk⟩ ho
   have k0:s' 0=.sl 0 0 0 l.length 1:=by rw [ho 0 rfl];simp only [go_sem]
   have k1:s' 1=aI x:=by rw [ho 1 rfl];simp only [go_sem]
   clear ho
   have hle:(putK l x:Int)≤l.length:=by omega
   have hlt2:=ZnX hk
   have hb1:putK l x * 8≤70368744177664:=by omega
   have hb2:(putK l x+1) * 8≤70368744177664:=by omega
   have hb3:(putK l x+1+(l.length - putK l x)) * 8≤70368744177664:=by omega
   have ht1:(l.take (putK l x)).take (putK l x)=l.take (putK l x):=by rw [List.take_take,Nat.min_self]
   have hl1:((l.take (putK l x)).map Ii++[D.int IntKind.i64 x]).length=putK l x+1:=by rw [List.length_append,List.length_map,hlt2];rfl
   have ht2:((l.take (putK l x)).map Ii++[D.int IntKind.i64 x]).take (putK l x+1)=(l.take (putK l x)).map Ii++[D.int IntKind.i64 x]:=List.take_of_length_le (by omega)
   have hl2:((l.take (putK l x)).map Ii++[D.int IntKind.i64 x]++(l.drop (putK l x)).map Ii).length=putK l x+1+(l.length - putK l x):=by rw [List.length_append,hl1,List.length_map,List.length_drop]
   have ht3:((l.take (putK l x)).map Ii++[D.int IntKind.i64 x]++(l.drop (putK l x)).map Ii).take (putK l x+1+(l.length - putK l x))=(l.take (putK l x)).map Ii++[D.int IntKind.i64 x]++(l.drop (putK l x)).map Ii:=List.take_of_length_le (by omega)
   have ht4:(l.drop (putK l x)).take (l.length - putK l x)=l.drop (putK l x):=List.take_of_length_le (by simp)
   have hsm:putK l x+(l.length - putK l x)=l.length:=by omega
   have hsi:((l.length:Int) - (putK l x:Int)).toNat=l.length - putK l x:=by omega
   by_cases hlt:putK l x < l.length
   · have hi':(putK l x:Int) < l.length:=by omega
     have ga:l[putK l x]? = some l[putK l x]:=List.getElem?_eq_getElem hlt
     simp only [go_sem,hi',ga,k0,k1,h5,hm,hle,hlt2,hb1,hb2,hb3,ht1,hl1,ht2,hl2,ht3,ht4,hsm,hsi,hk,Zaa,Int.sub_zero,List.drop_zero]
     cases hc:(l[putK l x] == x) with
     | true =>
      have e:putI l x=l:=by unfold putI;rw [ga,if_pos (by simpa using hc)]
      simp only [go_sem,e,k0,k1,h5,hm,hle,hlt2,hb1,hb2,hb3,ht1,hl1,ht2,hl2,ht3,ht4,hsm,hsi,hk,Zaa,Int.sub_zero,List.drop_zero]
     | false =>
      have e:putI l x=l.take (putK l x)++x::l.drop (putK l x):=by unfold putI;rw [ga,if_neg (by simpa using hc)]
      simp only [go_sem,← List.map_take,← List.map_drop,allSc,Nat.zero_le,List.take_length,List.length_drop,Int.le_refl,k0,k1,h5,hm,hle,hlt2,hb1,hb2,hb3,ht1,hl1,ht2,hl2,ht3,ht4,hsm,hsi,hk,Zaa,Int.sub_zero,List.drop_zero]
      rw [e]
      simp
   · have hi':¬ (putK l x:Int) < l.length:=by omega
     have e:putI l x=l.take (putK l x)++x::l.drop (putK l x):=by
      unfold putI
      rw [List.getElem?_eq_none (by omega),if_neg (by simp)]
     simp only [go_sem,hi',← List.map_take,← List.map_drop,allSc,Nat.zero_le,List.take_length,List.length_drop,Int.le_refl,k0,k1,h5,hm,hle,hlt2,hb1,hb2,hb3,ht1,hl1,ht2,hl2,ht3,ht4,hsm,hsi,hk,Zaa,Int.sub_zero,List.drop_zero]
     rw [e]
     simp
theorem ZnI {l:List Int} {x y:Int}:y∈putI l x↔y=x∨y∈l:=by
 unfold putI
 split
 · rename_i h
   have:=List.mem_of_getElem? h
   constructor
   · exact .inr
   · rintro (rfl|h)
     · exact this
     · exact h
 · rw [List.mem_append,List.mem_cons]
   have:y∈l↔y∈l.take (putK l x)∨y∈l.drop (putK l x):=by rw [← List.mem_append,List.take_append_drop]
   rw [this]
   constructor
   · rintro (h|rfl|h)
     · exact .inr (.inl h)
     · exact .inl rfl
     · exact .inr (.inr h)
   · rintro (rfl|h|h)
     · exact .inr (.inl rfl)
     · exact .inl h
     · exact .inr (.inr h)
theorem ZjT {l:List Int} {x:Int}:hasI l x=true↔x∈l:=by
 unfold hasI
 rw [List.any_eq_true]
 exact ⟨fun ⟨y,h,e⟩=>by rw [← (by simpa using e:y=x)];exact h,fun h=>⟨x,h,by simp⟩⟩
theorem Zhp {l:List Int} {x y:Int}:hasI (putI l x) y=(decide (y=x)||hasI l y):=by
 rw [Bool.eq_iff_iff,ZjT,ZnI,Bool.or_eq_true,decide_eq_true_eq,ZjT]
def lackN (n:Nat) (so:List Int):Nat:=((List.range (n+1)).filter fun (i:Nat)=>!hasI so (i:Int)).length
theorem Zmk {α:Type} {p q:α→Bool} {l:List α} {z:α} (hz:z∈l) (hp:p z=true) (hq:q z=false) (h:∀ y,q y=true→p y=true):(l.filter q).length < (l.filter p).length:=by
 have e:l.filter q=(l.filter p).filter q:=by
  rw [List.filter_filter]
  refine List.filter_congr fun y _=>?_
  cases hh:q y with
  | false=>simp
  | true=>simp [h y hh]
 rw [e]
 exact List.length_filter_lt_length_iff_exists.2 ⟨z,List.mem_filter.2 ⟨hz,hp⟩,by simp [hq]⟩
theorem Zon {n:Nat} {so:List Int} {x:Int} (hx:0≤x∧x≤n) (h:hasI so x=false):lackN n (putI so x)+1≤lackN n so:=by
 unfold lackN
 have e:((x.toNat:Nat):Int)=x:=by omega
 refine Nat.succ_le_of_lt (Zmk (z:=x.toNat) (by simp;omega) ?_ ?_ fun y hy=>?_)
 · rw [e,h];rfl
 · rw [e,Zhp];simp
 · rw [Zhp] at hy;simp at hy;simp [hy.2]
theorem ZlM {n:Nat} {so:List Int}:lackN n so≤n+1:=by
 unfold lackN
 exact Nat.le_trans (List.length_filter_le _ _) (by simp)
def readyR (so:List Int) (r:RuleD):Bool:=decide (r.thn > 0)&&!hasI so r.thn&&r.ifs.all (hasI so)
def ruleAt (l:List RuleD) (i:Nat):RuleD:=l.getD i ⟨[],0⟩
def leastI (l:List RuleD):Nat→List Int→List Int→List Int×List Int
 | 0,so,ap=>(so,ap)
 | f+1,so,ap=>match l.findIdx? (readyR so) with
  | none=>(so,ap)
  | some i=>leastI l f (putI so (ruleAt l i).thn) (ap++[(i:Int)])
theorem Zff {l:List RuleD} {i:Nat} (h:i < l.length):ruleAt l i=l[i]:=by
 unfold ruleAt;rw [List.getD_eq_getElem?_getD,List.getElem?_eq_getElem h];rfl
theorem Zg8 {l:List RuleD} {so:List Int} {i:Nat} (h:l.findIdx? (readyR so)=some i):i < l.length∧readyR so (ruleAt l i)=true:=by
 rw [List.findIdx?_eq_some_iff_getElem] at h
 obtain ⟨hi,h,_⟩:=h
 exact ⟨hi,by rw [Zff hi];exact h⟩
theorem Zgc {so:List Int} {r:RuleD} (h:readyR so r=true):0 < r.thn∧hasI so r.thn=false:=by
 simp only [readyR,Bool.and_eq_true,decide_eq_true_eq,Bool.not_eq_true'] at h
 exact ⟨h.1.1,h.1.2⟩
theorem ZdY {n:Nat} {l:List RuleD} {so:List Int} {i:Nat} (hr:∀ r∈l,r.thn≤n) (h:l.findIdx? (readyR so)=some i):lackN n (putI so (ruleAt l i).thn)+1≤lackN n so:=by
 obtain ⟨hi,h⟩:=Zg8 h
 have:=Zgc h
 exact Zon ⟨by omega,hr _ (by rw [Zff hi];exact List.getElem_mem hi)⟩ this.2
theorem ZkB {n:Nat} {l:List RuleD} (hr:∀ r∈l,r.thn≤n):∀ (f g:Nat) (so ap:List Int),lackN n so≤f→lackN n so≤g→leastI l f so ap=leastI l g so ap:=by
 intro f
 induction f with
 | zero =>
  intro g so ap hf hg
  cases g with
  | zero=>rfl
  | succ g =>
   simp only [leastI]
   cases h:l.findIdx? (readyR so) with
   | none=>rfl
   | some i=>have:=ZdY hr h;omega
 | succ f ih =>
  intro g so ap hf hg
  cases g with
  | zero =>
   simp only [leastI]
   cases h:l.findIdx? (readyR so) with
   | none=>rfl
   | some i=>have:=ZdY hr h;omega
  | succ g =>
   simp only [leastI]
   cases h:l.findIdx? (readyR so) with
   | none=>rfl
   | some i =>
    have:=ZdY hr h
    exact ih g _ _ (by omega) (by omega)
def leastP (l:List RuleD):List Int×List Int:=leastI l 14 [] []
theorem Zk8 {n:Nat} {l:List RuleD} (hn:n≤12) (hr:∀ r∈l,r.thn≤n) {so ap:List Int} {i:Nat} (h:l.findIdx? (readyR so)=some i):leastI l 14 (putI so (ruleAt l i).thn) (ap++[(i:Int)])=leastI l 14 so ap:=by
 have h1:leastI l 15 so ap=leastI l 14 (putI so (ruleAt l i).thn) (ap++[(i:Int)]):=by simp only [leastI,h]
 have hl:=ZlM (n:=n) (so:=so)
 rw [← h1]
 exact ZkB hr _ _ _ _ (by omega) (by omega)
structure LeastOk (n:Nat) (l:List RuleD) (so ap:List Int):Prop where
 same:leastI l 14 so ap=leastP l
 sort:so=listI (n+1) fun i=>hasI so (i:Int)
 few:so.length≤ap.length
 left:ap.length+lackN n so≤n+1
 apl:∀ i∈ap,0≤i∧i < l.length∧0 < (ruleAt l i.toNat).thn
theorem LeastOk.start {n:Nat} {l:List RuleD}:LeastOk n l [] [] where
 same:=rfl
 sort:=by
  have:listI (n+1) (fun i=>hasI [] (i:Int))=[]:=by
   unfold listI;rw [List.filter_eq_nil_iff.2 (by intro i _;simp [hasI])];rfl
  rw [this]
 few:=by simp
 left:=by have:=ZlM (n:=n) (so:=[]);simpa using this
 apl:=by simp
theorem LeastOk.next {n:Nat} {l:List RuleD} {so ap:List Int} (hn:n≤12) (hr:∀ r∈l,r.thn≤n) (h:LeastOk n l so ap) {i:Nat} (hi:l.findIdx? (readyR so)=some i):LeastOk n l (putI so (ruleAt l i).thn) (ap++[(i:Int)]) where
 same:=by rw [Zk8 hn hr hi];exact h.same
 sort:=by
  obtain ⟨h1,h2⟩:=Zg8 hi
  have h3:=Zgc h2
  have h4:(ruleAt l i).thn≤n:=hr _ (by rw [Zff h1];exact List.getElem_mem h1)
  have hp:=Zl8 (n:=n+1) (p:=fun i=>hasI so (i:Int)) (x:=(ruleAt l i).thn.toNat) (by omega)
  rw [← h.sort,show (((ruleAt l i).thn.toNat:Nat):Int)=(ruleAt l i).thn by omega] at hp
  rw [hp]
  refine ZiX fun j hj=>?_
  rw [← hp,Zhp]
  by_cases e:j=(ruleAt l i).thn.toNat
  · rw [if_pos e];simp;omega
  · rw [if_neg e]
    have:¬ ((j:Int)=(ruleAt l i).thn):=by omega
    simp [this]
 few:=by have:=Zob so (ruleAt l i).thn;have:=h.few;simp;omega
 left:=by have:=ZdY hr hi;have:=h.left;simp;omega
 apl:=fun j hj=>by
  rcases List.mem_append.1 hj with hj|hj
  · exact h.apl j hj
  · obtain ⟨h1,h2⟩:=Zg8 hi
    have:j=i:=by simpa using hj
    subst this
    exact ⟨by omega,by omega,by rw [Int.toNat_natCast];exact (Zgc h2).1⟩
theorem LeastOk.len {n:Nat} {l:List RuleD} {so ap:List Int} (h:LeastOk n l so ap) (hn:n≤12):so.length≤13∧ap.length≤13:=by
 have:=h.few;have:=h.left;omega
theorem slices_Index__sint_int.fc (l:List Int) (x:Int) (hl:l.length≤4294967296):FCt prog Zba [.ro,.ro] [ints l,Ii x] (Ii (idxB (fun y=>x == y) l)) []:=by
 refine Zak slices_Index__sint_int.ok rfl ?_
 simp only [go_sem]
 refine ZaI (α:=Nat) (fun k s' M'=>k≤l.length∧s' 8=aI k∧(l.take k).all (fun y=>!(x == y))=true) (fun k=>l.length - k) 0 ⟨by omega,by simp only [go_sem];rfl,by simp⟩ ?_
 rintro k s' M' ⟨hk,h8,hr⟩ ho
 unfold slices_Index__sint_int.b0
 have k0:s' 0=.dat none (ints l):=by rw [ho 0 rfl];simp only [go_sem]
 have k1:s' 1=aI x:=by rw [ho 1 rfl];simp only [go_sem]
 have k7:s' 7=aI l.length:=by rw [ho 7 rfl];simp only [go_sem]
 clear ho
 by_cases hlt:k < l.length
 · have hi':(k:Int) < l.length:=by omega
   have ga:l[k]? = some l[k]:=List.getElem?_eq_getElem hlt
   have hw:IntKind.i64.wrap (k+1)=((k+1:Nat):Int):=Zbc hlt (by omega)
   simp only [go_sem,hi',ga,k0,k1,k7,h8]
   cases hc:(x == l[k]) with
   | true=>simp only [go_sem,Zit (p:=fun y=>x == y) hlt hr hc,k0,k1,k7,h8]
   | false =>
    simp only [go_sem,hw,k0,k1,k7,h8]
    exact ⟨k+1,by dsimp only;omega,by omega,by simp only [go_sem,k0,k1,k7,h8],ZeL hlt hr (by rw [hc];rfl)⟩
 · have hi':¬ (k:Int) < l.length:=by omega
   obtain rfl:k=l.length:=by omega
   rw [List.take_length] at hr
   simp only [go_sem,hi',Zii hr,k0,k1,k7,h8]
theorem slices_Contains__sint_int.fc (l:List Int) (x:Int) (hl:l.length≤4294967296):FCt prog ZaX [.ro,.ro] [ints l,Ii x] (Bb (l.any (· == x))) []:=by
 refine Zak slices_Contains__sint_int.ok rfl ?_
 have e:l.any (fun y=>x == y)=l.any (· == x):=by congr 1;funext y;rw [Bool.beq_comm]
 simp only [go_sem]
 refine Zam (slices_Index__sint_int.fc l x hl) ?_
 simp only [go_sem,ge_iff_le,Zjg,e]
abbrev strD (x:(Int×Int)):D:=.agg [Ii x.1,Ii x.2]
abbrev knownD (x:(Int×Int)):D:=.agg [Ii x.1,Ii x.2]
abbrev strs (l:List (Int×Int)):D:=.sl 2 (l.map strD)
theorem ZdQ {l:List (Int×Int)}:noRs (strs l)=true:=ZeZ (by
 intro d hd
 obtain ⟨x,_,rfl⟩:=List.mem_map.1 hd
 exact rfl)
abbrev knowns (l:List (Int×Int)):D:=.sl 2 (l.map knownD)
theorem ZfU {l:List (Int×Int)}:noRs (knowns l)=true:=ZeZ (by
 intro d hd
 obtain ⟨x,_,rfl⟩:=List.mem_map.1 hd
 exact rfl)
structure MayD where
 reg:List (Int×Int)
 bits:List (Int×Int)
 cell:List (Int×Int)
 isset:List Bool
 deriving DecidableEq
abbrev MayD.d (x:MayD):D:=.agg [strs x.reg,knowns x.bits,strs x.cell,bools x.isset]
theorem Zar {x:MayD}:noRs (MayD.d x)=true:=Zfr fun d hd=>by
 rcases List.mem_cons.1 hd with rfl|hd
 · exact ZdQ
 rcases List.mem_cons.1 hd with rfl|hd
 · exact ZfU
 rcases List.mem_cons.1 hd with rfl|hd
 · exact ZdQ
 rcases List.mem_cons.1 hd with rfl|hd
 · exact ZcC
 cases hd
def gS (x:Int×Int):Bool:=goodS x.1 x.2
def gK (x:Int×Int):Bool:=goodK x.1 x.2
structure MayOk (m:MayD):Prop where
 reg:m.reg.length=6
 bits:m.bits.length=6
 cell:m.cell.length=16
 isset:m.isset.length=16
 gr:∀ x∈m.reg,gS x=true
 gb:∀ x∈m.bits,gK x=true
 gc:∀ x∈m.cell,gS x=true
theorem Zou {a b:Nat}:((a:Int) == (b:Int))=decide (a=b):=by
 by_cases h:a=b
 · subst h;simp
 · have:((a:Int) == (b:Int))=false:=by rw [beq_eq_false_iff_ne];omega
   rw [this];simp [h]
theorem bits_Mul64.fc16:FCt prog ZdM [.ro,.ro] [.int .u64 1,.int .u64 16] (.tup [.int .u64 0,.int .u64 16]) []:=by
 refine Zak bits_Mul64.ok rfl ?_
 simp only [go_sem]
 rfl
theorem bits_Mul.fc16:FCt prog Zfd [.ro,.ro] [.int .u64 1,.int .u64 16] (.tup [.int .u64 0,.int .u64 16]) []:=by
 refine Zak bits_Mul.ok rfl ?_
 simp only [go_sem]
 refine Zal bits_Mul64.fc16 rfl ?_
 simp only [go_sem]
theorem slices_Repeat__sStretch_Stretch.fc16 (x:(Int×Int)):FCt prog ZaE [.ro,.ro] [strs [x],Ii 16] (strs (List.replicate 16 x)) []:=by
 refine Zak slices_Repeat__sStretch_Stretch.ok rfl ?_
 have w1:IntKind.u64.wrap ((1:Nat):Int)=1:=by decide
 have w2:IntKind.u64.wrap 16=16:=by decide
 have w3:IntKind.i64.wrap 16=16:=by decide
 have hd1:¬ ((0:Int) > 0):=by omega
 have hd2:¬ ((16:Int) > 9223372036854775807):=by omega
 have hd3:¬ ((16:Int) < 0):=by omega
 have hb:(16:Int) * (16:Nat)≤70368744177664:=by omega
 simp only [go_sem,w1,w2,w3,hd1,hd2,hd3]
 refine Zal bits_Mul.fc16 rfl ?_
 have hz1:((List.replicate 16 (D.agg [.int .i64 0,.int .i64 0])).take 1).all isSc=true:=rfl
 simp only [go_sem,w1,w2,w3,hd1,hd2,hd3,hb,Int.le_refl,List.length_replicate,hz1]
 have hsc:∀ (a b:Nat),(((List.replicate a (strD x)++List.replicate b (D.agg [.int .i64 0,.int .i64 0]))).all isSc)=true:=fun a b=>List.all_eq_true.2 fun d hd=>by
  rcases List.mem_append.1 hd with h|h
  · rw [List.eq_of_mem_replicate h];rfl
  · rw [List.eq_of_mem_replicate h];rfl
 refine ZaI (α:=Nat) (fun c s' M'=>1≤c∧c≤16∧s' 8=aI c∧∃ v,s' 7=.sl 1728 v 0 16 2∧M'.m 1728=some (.arr v true 2 (List.replicate c (strD x)++List.replicate (16 - c) (D.agg [.int .i64 0,.int .i64 0])))) (fun c=>16 - c) 1
  ⟨by omega,by omega,by simp only [go_sem];rfl,_,by simp only [go_sem];rfl,by simp only [go_sem];rfl⟩ ?_
 rintro c s' M' ⟨hc1,hc,h8,v,h7,hm⟩ ho
 clear ho
 unfold slices_Repeat__sStretch_Stretch.b0
 have hR:(List.replicate c (strD x)).all isSc=true:=by have:=hsc c 0;simpa using this
 have hrl:(List.replicate c (strD x)++List.replicate (16 - c) (D.agg [.int .i64 0,.int .i64 0])).length=16:=by simp;omega
 have hrt:(List.replicate c (strD x)++List.replicate (16 - c) (D.agg [.int .i64 0,.int .i64 0])).take c=List.replicate c (strD x):=by rw [List.take_append_of_le_length (by simp)];exact List.take_of_length_le (by simp)
 have hrs:∀ a b,(((List.replicate c (strD x)++List.replicate (16 - c) (D.agg [.int .i64 0,.int .i64 0])).drop a).take b).all isSc=true:=fun a b=>List.all_eq_true.2 fun d hd=>List.all_eq_true.1 (hsc c (16 - c)) d (List.mem_of_mem_drop (List.mem_of_mem_take hd))
 have hyl:((List.replicate c (strD x)).take (16 - c)).length=min c (16 - c):=by simp [Nat.min_comm]
 by_cases hlt:c < 16
 · have hi':(c:Int) < 16:=by omega
   have heq:List.replicate c (strD x)++(List.replicate c (strD x)).take (16 - c)++(List.replicate c (strD x)++List.replicate (16 - c) (D.agg [.int .i64 0,.int .i64 0])).drop (c+min c (16 - c))=List.replicate (c+min c (16 - c)) (strD x)++List.replicate (16 - (c+min c (16 - c))) (D.agg [.int .i64 0,.int .i64 0]):=by
    rw [List.drop_append,List.take_replicate,List.drop_replicate,List.drop_replicate,List.length_replicate]
    have e0:c - (c+min c (16 - c))=0:=by omega
    have e1:16 - c - (c+min c (16 - c) - c)=16 - (c+min c (16 - c)):=by omega
    rw [e0,e1,Nat.min_comm (16 - c) c,List.replicate_append_replicate]
    simp
   have q1:(c:Int)≤16:=by omega
   have q2:(((16:Nat):Int) - (c:Int)).toNat=16 - c:=by omega
   have q3:¬ 16 - c=0:=by omega
   have q4:c+min c (16 - c)≤16:=by omega
   have q5:IntKind.i64.wrap ((c:Int)+((min c (16 - c):Nat):Int))=((c+min c (16 - c):Nat):Int):=by rw [Zaj (by omega) (by omega)];omega
   have q6:((16:Nat):Int)=16:=rfl
   have q7:((16:Int) - (c:Int)).toNat=16 - c:=by omega
   have q8:c≤16:=hc
   generalize hrow:List.replicate c (strD x)++List.replicate (16 - c) (D.agg [.int .i64 0,.int .i64 0])=row at hm hrl hrt hrs heq
   simp only [go_sem,h8,h7,hm,hi',hrl,hrt,hrs,hR,hyl,q1,q2,q3,q4,q5,q6,q7,q8,List.length_replicate,Nat.zero_add,Nat.zero_le,Int.le_refl]
   refine ⟨c+min c (16 - c),by dsimp only;omega,by omega,q4,by simp only [go_sem],v,by simp only [go_sem,h7],by simp only [go_sem,heq]⟩
 · have hi':¬ (c:Int) < 16:=by omega
   obtain rfl:c=16:=by omega
   have e:List.replicate 16 (strD x)++List.replicate (16 - 16) (D.agg [.int .i64 0,.int .i64 0])=(List.replicate 16 x).map strD:=by rw [Nat.sub_self,List.replicate_zero,List.append_nil,List.map_replicate]
   rw [e] at hm hrl
   have e2:((List.replicate 16 x).map strD).take 16=(List.replicate 16 x).map strD:=List.take_of_length_le (by omega)
   have e3:(List.replicate 16 x).length=16:=by simp
   have q6:((16:Nat):Int)=16:=rfl
   have q7:¬ ((16:Int) < 16):=by omega
   simp only [go_sem,h8,h7,hm,q6,q7,e2,e3]
theorem impl_allWords.fc:FCt prog Zbw [] [] (pr 0 65535) []:=by
 refine Zak impl_allWords.ok rfl ?_
 simp only [go_sem]
theorem spec_l9All.fc:FCt prog Zcn [] [] (pr 0 65535) []:=by
 refine Zak spec_l9All.ok rfl ?_
 simp only [go_sem]
theorem spec_l13Const.fc (n:Int):FCt prog Zbt [.ro] [Ii n] (.tup [pr n n,pr n 0]) []:=by
 refine Zak spec_l13Const.ok rfl ?_
 simp only [go_sem]
def startM:MayD:={ reg:=List.replicate 6 (0,0),bits:=List.replicate 6 (0,0),cell:=List.replicate 16 (0,65535),isset:=List.replicate 16 false }
theorem impl_StartMay.fc:FCt prog ZbP [] [] startM.d []:=by
 refine Zak impl_StartMay.ok rfl ?_
 have c1:(6:Int) * (16:Nat)≤70368744177664:=by omega
 have c2:(16:Int) * (1:Nat)≤70368744177664:=by omega
 simp only [go_sem,c1,c2,Int.le_refl,List.length_replicate,Nat.le_refl]
 refine Zal impl_allWords.fc rfl ?_
 simp only [go_sem,c1,c2,Int.le_refl,List.length_replicate,Nat.le_refl]
 refine Zal (slices_Repeat__sStretch_Stretch.fc16 (0,65535)) ZdQ ?_
 simp only [go_sem,c1,c2,Int.le_refl,List.length_replicate,Nat.le_refl]
 rfl
theorem Zd6 {α:Type} {k:Nat} {z:α}:List.replicate k z++[z]=List.replicate (k+1) z:=List.replicate_succ'.symm
theorem ZjO {α:Type} {k:Nat} {z:α}:(List.replicate k z).take k=List.replicate k z:=List.take_of_length_le (by simp)
theorem spec_StartMay.fc:FCt prog ZcE [] [] startM.d []:=by
 refine Zak spec_StartMay.ok rfl ?_
 have c6:((6:Nat):Int)=6:=rfl
 have c16:((16:Nat):Int)=16:=rfl
 simp only [go_sem]
 refine ZaI (α:=Nat) (fun k s' M'=>k≤6∧s' 2=aI k∧∃ w v0 v1 w0,M'.m 128=some (.box w (.agg [if k=0 then .nil 2 else .sl 1152 v0 0 k 2,if k=0 then .nil 2 else .sl 1600 v1 0 k 2,.nil 2,.nil 1]))∧s' 1=.ptr 128 w 0 none∧M'.m 64=some (.box w0 (.agg [.nil 2,.nil 2,.nil 2,.nil 1]))∧s' 0=.ptr 64 w0 0 none ∧
  (k≠0→M'.m 1152=some (.arr v0 true 2 (List.replicate k (strD (0,0))))∧M'.m 1600=some (.arr v1 true 2 (List.replicate k (strD (0,0)))))) (fun k=>6 - k) 0
  ⟨by omega,by simp only [go_sem];rfl,_,0,0,_,by rw [if_pos rfl,if_pos rfl];simp only [go_sem];rfl,by simp only [go_sem],by simp only [go_sem];rfl,by simp only [go_sem],fun h=>absurd rfl h⟩ ?_
 rintro k s' M' ⟨hk,h2,w,v0,v1,w0,hm,h1,hm0,h0,hq⟩ ho
 clear ho
 unfold spec_StartMay.b0
 by_cases hlt:k < 6
 · have hi':(k:Int) < 6:=by omega
   have hw:IntKind.i64.wrap (k+1)=((k+1:Nat):Int):=by rw [Zaj (by omega) (by omega)];omega
   have hb:(k+1) * 16≤70368744177664:=by omega
   simp only [go_sem,hi',h2,hm,h1,hm0,h0]
   refine Zal (spec_l13Const.fc 0) rfl ?_
   by_cases hk0:k=0
   · subst hk0
     rw [if_pos rfl,if_pos rfl] at hm
     simp only [go_sem,hw,h2,hm,h1,hm0,h0]
     refine ⟨1,by dsimp only;omega,by omega,by simp only [go_sem,h2,hm,h1,hm0,h0];try rfl,w,_,_,w0,by rw [if_neg (Nat.succ_ne_zero 0),if_neg (Nat.succ_ne_zero 0)];simp only [go_sem,h2,hm,h1,hm0,h0];rfl,by simp only [go_sem,h2,hm,h1,hm0,h0],by simp only [go_sem,h2,hm,h1,hm0,h0],by simp only [go_sem,h2,hm,h1,hm0,h0],fun _=>⟨by simp only [go_sem,h2,hm,h1,hm0,h0];rfl,by simp only [go_sem,h2,hm,h1,hm0,h0];rfl⟩⟩
   · rw [if_neg hk0,if_neg hk0] at hm
     obtain ⟨q0,q1⟩:=hq hk0
     simp only [go_sem,hw,q0,q1,List.length_replicate,Nat.le_refl,hb,ZjO,Zd6,h2,hm,h1,hm0,h0]
     refine ⟨k+1,by dsimp only;omega,by omega,by simp only [go_sem,h2,hm,h1,hm0,h0],w,_,_,w0,by rw [if_neg (Nat.succ_ne_zero k),if_neg (Nat.succ_ne_zero k)];simp only [go_sem,h2,hm,h1,hm0,h0];rfl,by simp only [go_sem,h2,hm,h1,hm0,h0],by simp only [go_sem,h2,hm,h1,hm0,h0],by simp only [go_sem,h2,hm,h1,hm0,h0],fun _=>⟨by simp only [go_sem,h2,hm,h1,hm0,h0];try exact congrArg (fun z=>some (Obj.arr _ true 2 z)) Zd6,by simp only [go_sem,h2,hm,h1,hm0,h0];try exact congrArg (fun z=>some (Obj.arr _ true 2 z)) Zd6⟩⟩
 obtain rfl:k=6:=by omega
 obtain ⟨q0,q1⟩:=hq (by omega)
 rw [if_neg (by omega),if_neg (by omega)] at hm
 simp only [go_sem,c6,h2,hm,h1,hm0,h0]
 refine ZaI (α:=Nat) (fun k s' M'=>k≤16∧s' 5=aI k∧(∃ w v2 v3 w0,M'.m 128=some (.box w (.agg [.sl 1152 v0 0 6 2,.sl 1600 v1 0 6 2,if k=0 then .nil 2 else .sl 2432 v2 0 k 2,if k=0 then .nil 1 else .sl 2816 v3 0 k 1]))∧s' 1=.ptr 128 w 0 none∧M'.m 64=some (.box w0 (.agg [.nil 2,.nil 2,.nil 2,.nil 1]))∧s' 0=.ptr 64 w0 0 none ∧
  (k≠0→M'.m 2432=some (.arr v2 true 2 (List.replicate k (strD (0,65535))))∧M'.m 2816=some (.arr v3 true 1 (List.replicate k (Bb false)))))∧M'.m 1152=some (.arr v0 true 2 (List.replicate 6 (strD (0,0))))∧M'.m 1600=some (.arr v1 true 2 (List.replicate 6 (strD (0,0))))) (fun k=>16 - k) 0
  ⟨by omega,by simp only [go_sem,h2,hm,h1,hm0,h0];rfl,⟨_,0,0,_,by rw [if_pos rfl,if_pos rfl];simp only [go_sem,h2,hm,h1,hm0,h0];rfl,by simp only [go_sem,h2,hm,h1,hm0,h0],by simp only [go_sem,h2,hm,h1,hm0,h0];rfl,by simp only [go_sem,h2,hm,h1,hm0,h0],fun h=>absurd rfl h⟩,by simp only [go_sem,q0,h2,hm,h1,hm0,h0],by simp only [go_sem,q1,h2,hm,h1,hm0,h0]⟩ ?_
 clear hm h1 hm0 h0 hq q0 q1
 rintro k s2 M2 ⟨hk,h5,⟨w,v2,v3,w0,hm,h1,hm0,h0,hq⟩,p0,p1⟩ ho
 clear ho
 unfold spec_StartMay.b1
 by_cases hlt:k < 16
 · have hi':(k:Int) < 16:=by omega
   have hw:IntKind.i64.wrap (k+1)=((k+1:Nat):Int):=by rw [Zaj (by omega) (by omega)];omega
   have hb:(k+1) * 16≤70368744177664:=by omega
   have hb1:(k+1) * 1≤70368744177664:=by omega
   by_cases hk0:k=0
   · subst hk0
     rw [if_pos rfl,if_pos rfl] at hm
     simp only [go_sem,hi',h2,hm,h1,hm0,h0,h5,hm,h1,hm0,h0,p0,p1]
     refine Zal spec_l9All.fc rfl ?_
     simp only [go_sem,hw,h2,hm,h1,hm0,h0,h5,hm,h1,hm0,h0,p0,p1]
     refine ⟨1,by dsimp only;omega,by omega,by simp only [go_sem,h2,hm,h1,hm0,h0,h5,hm,h1,hm0,h0,p0,p1];try rfl,⟨w,_,_,w0,by rw [if_neg (Nat.succ_ne_zero 0),if_neg (Nat.succ_ne_zero 0)];simp only [go_sem,h2,hm,h1,hm0,h0,h5,hm,h1,hm0,h0,p0,p1];rfl,by simp only [go_sem,h2,hm,h1,hm0,h0,h5,hm,h1,hm0,h0,p0,p1],by simp only [go_sem,h2,hm,h1,hm0,h0,h5,hm,h1,hm0,h0,p0,p1],by simp only [go_sem,h2,hm,h1,hm0,h0,h5,hm,h1,hm0,h0,p0,p1],fun _=>⟨by simp only [go_sem,h2,hm,h1,hm0,h0,h5,hm,h1,hm0,h0,p0,p1];rfl,by simp only [go_sem,h2,hm,h1,hm0,h0,h5,hm,h1,hm0,h0,p0,p1];rfl⟩⟩,by simp only [go_sem,h2,hm,h1,hm0,h0,h5,hm,h1,hm0,h0,p0,p1],by simp only [go_sem,h2,hm,h1,hm0,h0,h5,hm,h1,hm0,h0,p0,p1]⟩
   · rw [if_neg hk0,if_neg hk0] at hm
     obtain ⟨q2,q3⟩:=hq hk0
     simp only [go_sem,hi',q2,q3,h2,hm,h1,hm0,h0,h5,hm,h1,hm0,h0,p0,p1]
     refine Zal spec_l9All.fc rfl ?_
     simp only [go_sem,hw,q2,q3,List.length_replicate,Nat.le_refl,hb,hb1,ZjO,Zd6,h2,hm,h1,hm0,h0,h5,hm,h1,hm0,h0,p0,p1]
     refine ⟨k+1,by dsimp only;omega,by omega,by simp only [go_sem,h2,hm,h1,hm0,h0,h5,hm,h1,hm0,h0,p0,p1],⟨w,_,_,w0,by rw [if_neg (Nat.succ_ne_zero k),if_neg (Nat.succ_ne_zero k)];simp only [go_sem,h2,hm,h1,hm0,h0,h5,hm,h1,hm0,h0,p0,p1];rfl,by simp only [go_sem,h2,hm,h1,hm0,h0,h5,hm,h1,hm0,h0,p0,p1],by simp only [go_sem,h2,hm,h1,hm0,h0,h5,hm,h1,hm0,h0,p0,p1],by simp only [go_sem,h2,hm,h1,hm0,h0,h5,hm,h1,hm0,h0,p0,p1],fun _=>⟨by simp only [go_sem,h2,hm,h1,hm0,h0,h5,hm,h1,hm0,h0,p0,p1];try exact congrArg (fun z=>some (Obj.arr _ true 2 z)) Zd6,by simp only [go_sem,h2,hm,h1,hm0,h0,h5,hm,h1,hm0,h0,p0,p1];try exact congrArg (fun z=>some (Obj.arr _ true 1 z)) Zd6⟩⟩,by simp only [go_sem,h2,hm,h1,hm0,h0,h5,hm,h1,hm0,h0,p0,p1],by simp only [go_sem,h2,hm,h1,hm0,h0,h5,hm,h1,hm0,h0,p0,p1]⟩
 obtain rfl:k=16:=by omega
 obtain ⟨q2,q3⟩:=hq (by omega)
 rw [if_neg (by omega),if_neg (by omega)] at hm
 simp only [go_sem,c16,q2,q3,List.length_replicate,Nat.le_refl,h2,hm,h1,hm0,h0,h5,hm,h1,hm0,h0,p0,p1]
 rfl
structure MachD where
 pc:Int
 regs:List Int
 cells:List Int
 isset:List Bool
 deriving DecidableEq
abbrev MachD.d (x:MachD):D:=.agg [Ii x.pc,ints x.regs,ints x.cells,bools x.isset]
theorem ZcO {x:MachD}:noRs (MachD.d x)=true:=Zfr fun d hd=>by
 rcases List.mem_cons.1 hd with rfl|hd
 · exact rfl
 rcases List.mem_cons.1 hd with rfl|hd
 · exact ZaY
 rcases List.mem_cons.1 hd with rfl|hd
 · exact ZaY
 rcases List.mem_cons.1 hd with rfl|hd
 · exact ZcC
 cases hd
theorem spec_l1All.fc (l:List Int) (lo hi:Int) (hl:l.length≤4294967296):FCt prog ZdC [.ro,.ro,.ro] [ints l,Ii lo,Ii hi] (Bb (l.all fun n=>inB n lo hi)) []:=by
 refine Zak spec_l1All.ok rfl ?_
 simp only [go_sem]
 refine ZaI (α:=Nat) (fun k s' M'=>k≤l.length∧s' 11=aI k∧(l.take k).all (fun n=>inB n lo hi)=true) (fun k=>l.length - k) 0 ⟨by omega,by simp only [go_sem];rfl,by simp⟩ ?_
 rintro k s' M' ⟨hk,h11,hr⟩ ho
 unfold spec_l1All.b0
 have k1:s' 1=aI lo:=by rw [ho 1 rfl];simp only [go_sem]
 have k2:s' 2=aI hi:=by rw [ho 2 rfl];simp only [go_sem]
 have k9:s' 9=.dat none (ints l):=by rw [ho 9 rfl];simp only [go_sem]
 have k10:s' 10=aI l.length:=by rw [ho 10 rfl];simp only [go_sem]
 clear ho
 by_cases hlt:k < l.length
 · have hi':(k:Int) < l.length:=by omega
   have ga:l[k]? = some l[k]:=List.getElem?_eq_getElem hlt
   have hw:IntKind.i64.wrap (k+1)=((k+1:Nat):Int):=Zbc hlt (by omega)
   simp only [go_sem,hi',ga,k1,k2,k9,k10,h11]
   refine Zap (spec_l1In.fc l[k] lo hi) ?_
   cases hc:inB l[k] lo hi with
   | false=>simp only [go_sem,ZmH (p:=fun n=>inB n lo hi) hlt hc,k1,k2,k9,k10,h11]
   | true =>
    simp only [go_sem,hw,k1,k2,k9,k10,h11]
    exact ⟨k+1,by dsimp only;omega,by omega,by simp only [go_sem,k1,k2,k9,k10,h11],ZeL hlt hr hc⟩
 · have hi':¬ (k:Int) < l.length:=by omega
   obtain rfl:k=l.length:=by omega
   rw [List.take_length] at hr
   simp only [go_sem,hi',hr,k1,k2,k9,k10,h11]
structure MachOk (m:MachD):Prop where
 pc:0≤m.pc∧m.pc≤19
 regs:m.regs.length=6
 cells:m.cells.length=16
 isset:m.isset.length=16
 wr:∀ x∈m.regs,0≤x∧x≤65535
 wc:∀ x∈m.cells,0≤x∧x≤65535
theorem ZeO {p:Nat→Bool} {k:Nat} (h:(List.range k).all p=true) (h2:p k=true):(List.range (k+1)).all p=true:=by
 rw [List.range_succ,List.all_append,h];simpa using h2
theorem Zmb {p:Nat→Bool} {n k:Nat} (hk:k < n) (h2:p k=false):(List.range n).all p=false:=by
 rw [← Bool.not_eq_true,List.all_eq_true]
 intro h
 have:=h k (by simpa using hk)
 rw [h2] at this;cases this
theorem ZnZ {α:Type} {l:List α} {i:Nat} {d:α} (h:i < l.length):l.getD i d=l[i]:=by rw [List.getD_eq_getElem?_getD,List.getElem?_eq_getElem h];rfl
def orI (a b:Int):Int:=IntKind.i64.wrap (BitVec.ofInt IntKind.i64.bits a ||| BitVec.ofInt IntKind.i64.bits b).toNat
def xorI (a b:Int):Int:=IntKind.i64.wrap (BitVec.ofInt IntKind.i64.bits a ^^^ BitVec.ofInt IntKind.i64.bits b).toNat
def nn (a:Int):Prop:=0≤a∧a < 9223372036854775808
theorem ZeQ {a:Int} (h:nn a):(BitVec.ofInt IntKind.i64.bits a).toNat=a.toNat:=by
 obtain ⟨h1,h2⟩:=h
 show (BitVec.ofInt 64 a).toNat=a.toNat
 rw [BitVec.toNat_ofInt]
 omega
theorem Zfw {n:Nat} (h:n < 9223372036854775808):IntKind.i64.wrap (n:Int)=n:=Zaj (by omega) (by omega)
theorem Zfm {a:Int} (h:nn a):a.toNat < 2 ^ 63:=by obtain ⟨h1,h2⟩:=h;omega
theorem Zd4 {a b:Int} (ha:nn a) (hb:nn b):andI a b=((a.toNat &&& b.toNat:Nat):Int):=by
 unfold andI
 rw [BitVec.toNat_and,ZeQ ha,ZeQ hb]
 exact Zfw (Nat.lt_of_le_of_lt Nat.and_le_left (Zfm ha))
theorem Zl7 {a b:Int} (ha:nn a) (hb:nn b):orI a b=((a.toNat ||| b.toNat:Nat):Int):=by
 unfold orI
 rw [BitVec.toNat_or,ZeQ ha,ZeQ hb]
 exact Zfw (Nat.or_lt_two_pow (Zfm ha) (Zfm hb))
theorem Znv {a b:Int} (ha:nn a) (hb:nn b):xorI a b=((a.toNat ^^^ b.toNat:Nat):Int):=by
 unfold xorI
 rw [BitVec.toNat_xor,ZeQ ha,ZeQ hb]
 exact Zfw (Nat.xor_lt_two_pow (Zfm ha) (Zfm hb))
theorem Zoo {a b:Nat} (ha:a < 2 ^ 64):(BitVec.ofNat 64 a &&& ~~~BitVec.ofNat 64 b).toNat=a ^^^ (a &&& b):=by
 apply Nat.eq_of_testBit_eq
 intro i
 rw [BitVec.testBit_toNat,BitVec.getLsbD_and,BitVec.getLsbD_not,BitVec.getLsbD_ofNat,BitVec.getLsbD_ofNat,Nat.testBit_xor,Nat.testBit_and]
 by_cases h:i < 64
 · simp only [h,decide_true,Bool.true_and]
   cases a.testBit i<;>cases b.testBit i<;>rfl
 · have:a.testBit i=false:=Nat.testBit_lt_two_pow (Nat.lt_of_lt_of_le ha (Nat.pow_le_pow_right (by omega) (by omega)))
   simp [h,this]
theorem ZlX {a:Int} (h:nn a):BitVec.ofInt IntKind.i64.bits a=BitVec.ofNat 64 a.toNat:=by
 apply BitVec.eq_of_toNat_eq
 rw [ZeQ h]
 show _=(BitVec.ofNat 64 a.toNat).toNat
 rw [BitVec.toNat_ofNat]
 obtain ⟨h1,h2⟩:=h
 omega
theorem Zeq {a b:Int} (ha:nn a) (hb:nn b):andNotI a b=((a.toNat ^^^ (a.toNat &&& b.toNat):Nat):Int):=by
 unfold andNotI
 rw [ZlX ha,ZlX hb]
 have:=Zoo (a:=a.toNat) (b:=b.toNat) (by have:=Zfm ha;omega)
 refine (congrArg (fun z:Nat=>IntKind.i64.wrap (z:Int)) this).trans ?_
 exact Zfw (Nat.xor_lt_two_pow (Zfm ha) (Nat.lt_of_le_of_lt Nat.and_le_left (Zfm ha)))
def wd (a:Int):Prop:=0≤a∧a≤65535
theorem wd.nn {a:Int} (h:wd a):nn a:=⟨h.1,by have:=h.2;omega⟩
theorem wd.lt {a:Int} (h:wd a):a.toNat < 2 ^ 16:=by obtain ⟨h1,h2⟩:=h;omega
theorem ZoA {a:Int}:inB a 0 65535=true↔wd a:=by simp only [inB,wd,Bool.and_eq_true,decide_eq_true_eq]
theorem Zie (n:Int):andI n 65535=n % 65536:=by
 unfold andI
 have e:(BitVec.ofInt IntKind.i64.bits n &&& BitVec.ofInt IntKind.i64.bits 65535).toNat=(n % 65536).toNat:=by
  rw [BitVec.toNat_and,ZeQ (a:=65535) ⟨by decide,by decide⟩]
  show (BitVec.ofInt 64 n).toNat &&& 65535=_
  rw [show (65535:Nat)=2 ^ 16 - 1 from rfl,Nat.and_two_pow_sub_one_eq_mod,BitVec.toNat_ofInt]
  omega
 rw [e,Zaj (by omega) (by omega)]
 omega
theorem ZaP (n:Int):wd (n % 65536):=⟨by omega,by omega⟩
theorem ZkT (n:Int):Int.tmod n 65536=n % 65536∨Int.tmod n 65536=n % 65536 - 65536:=by
 rcases Int.le_total 0 n with h|h
 · exact .inl (Int.tmod_eq_emod_of_nonneg h)
 · obtain ⟨m,rfl⟩:∃ m:Int,n = -m:=⟨-n,by omega⟩
   have:Int.tmod m 65536=m % 65536:=Int.tmod_eq_emod_of_nonneg (by omega)
   rw [Int.neg_tmod,this]
   omega
theorem Znm {n:Int}:Int.tmod (IntKind.i64.wrap (Int.tmod n 65536+65536)) 65536=n % 65536:=by
 have h0:=ZkT n
 rw [Zaj (x:=Int.tmod n 65536+65536) (by omega) (by omega),Int.tmod_eq_emod_of_nonneg (by omega)]
 omega
abbrev bI (a:Int):BitVec 64:=BitVec.ofInt 64 a
theorem ZhE (x:BitVec 64):IntKind.i64.wrap (x.toNat:Int)=x.toInt:=by
 rw [BitVec.toInt_eq_toNat_bmod]
 simp [IntKind.wrap,IntKind.signed,IntKind.bits,Int.bmod]
 have:=x.isLt
 split<;>split<;>omega
theorem Zbb (a b:Int):andI a b=(bI a &&& bI b).toInt:=ZhE _
theorem ZaG (a b:Int):orI a b=(bI a ||| bI b).toInt:=ZhE _
theorem ZcD (a b:Int):xorI a b=(bI a ^^^ bI b).toInt:=ZhE _
theorem Zat (a b:Int):andNotI a b=(bI a &&& ~~~bI b).toInt:=ZhE _
theorem Zao (x:BitVec 64):bI x.toInt=x:=BitVec.ofInt_toInt
theorem Ze8 {i:Nat}:(bI 65535).getLsbD i=decide (i < 16):=by
 rw [show bI 65535=BitVec.ofNat 64 (2 ^ 16 - 1) from rfl,BitVec.getLsbD_ofNat,Nat.testBit_two_pow_sub_one]
 by_cases h:i < 16
 · have:i < 64:=by omega
   simp [h,this]
 · simp [h]
theorem Zdy {i:Nat}:(bI 0).getLsbD i=false:=by rw [show bI 0=0#64 from rfl];simp
theorem ZdJ {a:Int} (h:wd a) {i:Nat} (hi:16≤i):(bI a).getLsbD i=false:=by
 rw [show bI a=BitVec.ofNat 64 a.toNat from ZlX h.nn,BitVec.getLsbD_ofNat]
 have:a.toNat.testBit i=false:=Nat.testBit_lt_two_pow (Nat.lt_of_lt_of_le h.lt (Nat.pow_le_pow_right (by omega) hi))
 simp [this]
theorem Zox {a b:Int} (ha:wd a) (hb:wd b) (h:bI a=bI b):a=b:=by
 have:(bI a).toNat=(bI b).toNat:=by rw [h]
 rw [show (bI a).toNat=a.toNat from ZeQ ha.nn,show (bI b).toNat=b.toNat from ZeQ hb.nn] at this
 have:=ha.1;have:=hb.1
 omega
theorem ZiA {a b:Int} (h:andI a b=0):bI a &&& bI b=0#64:=by
 rw [Zbb] at h
 have:bI (bI a &&& bI b).toInt=bI 0:=by rw [h]
 rw [Zao] at this;exact this
theorem disj {a b:Int} (h:andI a b=0) (i:Nat):((bI a).getLsbD i&&(bI b).getLsbD i)=false:=by
 rw [← BitVec.getLsbD_and,ZiA h];simp
theorem ZdT {x:BitVec 64} (h:∀ i,16≤i→x.getLsbD i=false):wd x.toInt:=by
 have hl:x.toNat < 2 ^ 16:=by
  refine Nat.lt_pow_two_of_testBit _ fun i hi=>?_
  rw [← BitVec.getLsbD];exact h i hi
 rw [BitVec.toInt_eq_toNat_of_lt (by omega)]
 exact ⟨by omega,by omega⟩
theorem ZhD {a b:Int} (h:wd a):wd (andI a b):=by
 rw [Zbb];exact ZdT fun i hi=>by rw [BitVec.getLsbD_and,ZdJ h hi,Bool.false_and]
theorem Zb3 {a b:Int} (h:wd a):wd (andNotI a b):=by
 rw [Zat];exact ZdT fun i hi=>by rw [BitVec.getLsbD_and,ZdJ h hi,Bool.false_and]
theorem Zbx {a b:Int} (h:wd a) (h2:wd b):wd (orI a b):=by
 rw [ZaG];exact ZdT fun i hi=>by rw [BitVec.getLsbD_or,ZdJ h hi,ZdJ h2 hi,Bool.false_or]
theorem Zc1 {a b:Int} (h:wd a) (h2:wd b):wd (xorI a b):=by
 rw [ZcD];exact ZdT fun i hi=>by rw [BitVec.getLsbD_xor,ZdJ h hi,ZdJ h2 hi];rfl
theorem Zaf {A B:Prop} {t:Bool} (h1:t=false→A) (h2:t=true→B):@cdW (some (!t)) ⟨A⟩ ⟨B⟩:=by
 cases t
 · exact h1 rfl
 · exact h2 rfl
theorem Zae {A B:Prop} {t b:Bool} (h1:t = !b→A) (h2:t=b→B):@gdW (some (some (!t))) b ⟨A⟩ ⟨B⟩:=by
 cases t<;>cases b
 · exact h2 rfl
 · exact h1 rfl
 · exact h1 rfl
 · exact h2 rfl
theorem impl_WordOf.fc (n:Int):FCt prog ZaA [.ro] [Ii n] (Ii (n % 65536)) []:=by
 refine Zak impl_WordOf.ok rfl ?_
 rw [← Zie]
 unfold andI
 simp only [go_sem]
theorem spec_l1Wrap.fc (n:Int):FCt prog Zax [.ro] [Ii n] (Ii (n % 65536)) []:=by
 refine Zak spec_l1Wrap.ok rfl ?_
 simp only [go_sem,Int.reduceEq]
 rw [Znm]
def doI (op a b:Int):Int :=
 if op == 1 then IntKind.i64.wrap (a+b) % 65536 else if op == 2 then IntKind.i64.wrap (a - b) % 65536 else if op == 3 then IntKind.i64.wrap (a * b) % 65536
 else if op == 4 then (if b == 0 then 0 else IntKind.i64.wrap (Int.tdiv a b)) else if op == 5 then (if b == 0 then a else Int.tmod a b)
 else if op == 6 then andI a b else if op == 7 then orI a b else if op == 8 then xorI a b
 else if op == 9 then IntKind.i64.wrap (a * 2 ^ min (Int.tmod b 16).toNat IntKind.i64.bits) % 65536 else Int.fdiv a (2 ^ min (Int.tmod b 16).toNat IntKind.i64.bits)
theorem tmod16 {b:Int} (hb:0≤b):0≤Int.tmod b 16∧Int.tmod b 16 < 16:=by
 rw [Int.tmod_eq_emod_of_nonneg hb];omega
theorem Zj1 {n:Int} (h:0≤n) (h2:n < 18446744073709551616):IntKind.u64.wrap n=n:=by
 simp [IntKind.wrap,IntKind.signed,IntKind.bits];omega
theorem impl_do.fc (op a b:Int) (hb:0≤b):FCt prog Zco [.ro,.ro,.ro] [Ii op,Ii a,Ii b] (Ii (doI op a b)) []:=by
 refine Zak impl_do.ok rfl ?_
 have h1:¬ Int.tmod b 16 < 0:=by have:=(tmod16 hb).1;omega
 unfold doI andI orI xorI
 have h2:b=0∨b≠0:=by omega
 have h3:(b == 0)=decide (b=0):=by by_cases h:b=0<;>simp [h]
 rcases h2 with h2|h2
 · subst h2
   repeat' (first|with_reducible rfl|refine Zam (impl_WordOf.fc ..) ?_|with_reducible refine Zah (fun _=>?_) (fun _=>?_)|refine Zaf (fun _=>?_) (fun _=>?_)|refine Zad (fun _=>?_) (fun _=>?_)|with_reducible refine Zab (fun _=>?_) (fun _=>?_)|with_reducible refine Zac (fun _=>?_) (fun _=>?_)|refine Zae (fun _=>?_) (fun _=>?_)|refine Zag (fun _=>?_) (fun _=>?_)|simp only [go_sem,bne,iQ,iB,iX,Int.reduceLE,iN,iA,iS,iM,iQ, *]|rfl)
 · repeat' (first|with_reducible rfl|refine Zam (impl_WordOf.fc ..) ?_|with_reducible refine Zah (fun _=>?_) (fun _=>?_)|refine Zaf (fun _=>?_) (fun _=>?_)|refine Zad (fun _=>?_) (fun _=>?_)|with_reducible refine Zab (fun _=>?_) (fun _=>?_)|with_reducible refine Zac (fun _=>?_) (fun _=>?_)|refine Zae (fun _=>?_) (fun _=>?_)|refine Zag (fun _=>?_) (fun _=>?_)|simp only [go_sem,bne,iQ,iB,iX,Int.reduceLE,iN,iA,iS,iM,iQ,decide_false, *]|rfl)
theorem spec_l1Do.fc (op a b:Int) (hb:0≤b):FCt prog ZbK [.ro,.ro,.ro] [Ii op,Ii a,Ii b] (Ii (doI op a b)) []:=by
 refine Zak spec_l1Do.ok rfl ?_
 have h1:¬ Int.tmod b 16 < 0:=by have:=(tmod16 hb).1;omega
 have h4:IntKind.u64.wrap (Int.tmod b 16)=Int.tmod b 16:=Zj1 (tmod16 hb).1 (by have:=(tmod16 hb).2;omega)
 unfold doI andI orI xorI
 have h2:b=0∨b≠0:=by omega
 have h3:(b == 0)=decide (b=0):=by by_cases h:b=0<;>simp [h]
 rcases h2 with h2|h2
 · subst h2
   repeat' (first|with_reducible rfl|refine Zam (spec_l1Wrap.fc ..) ?_|with_reducible refine Zah (fun _=>?_) (fun _=>?_)|refine Zaf (fun _=>?_) (fun _=>?_)|refine Zad (fun _=>?_) (fun _=>?_)|with_reducible refine Zab (fun _=>?_) (fun _=>?_)|with_reducible refine Zac (fun _=>?_) (fun _=>?_)|refine Zae (fun _=>?_) (fun _=>?_)|refine Zag (fun _=>?_) (fun _=>?_)|simp only [go_sem,bne,iQ,iB,iX,Int.reduceLE,iN,iA,iS,iM,iQ, *]|rfl)
 · repeat' (first|with_reducible rfl|refine Zam (spec_l1Wrap.fc ..) ?_|with_reducible refine Zah (fun _=>?_) (fun _=>?_)|refine Zaf (fun _=>?_) (fun _=>?_)|refine Zad (fun _=>?_) (fun _=>?_)|with_reducible refine Zab (fun _=>?_) (fun _=>?_)|with_reducible refine Zac (fun _=>?_) (fun _=>?_)|refine Zae (fun _=>?_) (fun _=>?_)|refine Zag (fun _=>?_) (fun _=>?_)|simp only [go_sem,bne,iQ,iB,iX,Int.reduceLE,iN,iA,iS,iM,iQ,decide_false, *]|rfl)
def mnI (a b:Int):Int:=if b < a then b else a
def mxI (a b:Int):Int:=if b > a then b else a
def joinS (a b:Int×Int):Int×Int:=(mnI a.1 b.1,mxI a.2 b.2)
theorem impl_joinStretch.fc (a b:Int×Int):FCt prog Zbm [.ro,.ro] [strD a,strD b] (strD (joinS a b)) []:=by
 refine Zak impl_joinStretch.ok rfl ?_
 unfold joinS mnI mxI
 repeat' (first|with_reducible rfl|with_reducible refine Zah (fun _=>?_) (fun _=>?_)|refine Zaf (fun _=>?_) (fun _=>?_)|refine Zad (fun _=>?_) (fun _=>?_)|with_reducible refine Zab (fun _=>?_) (fun _=>?_)|with_reducible refine Zac (fun _=>?_) (fun _=>?_)|refine Zae (fun _=>?_) (fun _=>?_)|refine Zag (fun _=>?_) (fun _=>?_)|simp only [go_sem,bne,iQ,iB,iX,Int.reduceLE,iN,iA,iS,iM, *]|rfl)
def endsI (lo hi:Int):Int×Int:=if lo / 65536 != hi / 65536 then (0,65535) else (lo % 65536,hi % 65536)
theorem shr16 (n:Int):Int.fdiv n (2 ^ min 16 64)=n / 65536:=by
 rw [show (2:Int) ^ min 16 64=65536 by decide,Int.fdiv_eq_ediv_of_nonneg _ (by decide)]
theorem impl_wrap.fc (a b:Int):FCt prog Zb1 [.ro,.ro] [Ii a,Ii b] (strD (endsI a b)) []:=by
 refine Zak impl_wrap.ok rfl ?_
 unfold endsI
 rw [← shr16,← shr16]
 repeat' (first|with_reducible rfl|refine Zam (impl_WordOf.fc ..) ?_|refine Zal (impl_allWords.fc) rfl ?_|with_reducible refine Zah (fun _=>?_) (fun _=>?_)|refine Zaf (fun _=>?_) (fun _=>?_)|refine Zad (fun _=>?_) (fun _=>?_)|with_reducible refine Zab (fun _=>?_) (fun _=>?_)|with_reducible refine Zac (fun _=>?_) (fun _=>?_)|refine Zae (fun _=>?_) (fun _=>?_)|refine Zag (fun _=>?_) (fun _=>?_)|simp only [go_sem,bne,iQ,iB,iX,Int.reduceLE,iN,iA,iS,iM, *]|rfl)
theorem spec_l9Floor.fc (n:Int) (h:-4611686018427387904≤n∧n≤4611686018427387904):FCt prog Zch [.ro] [Ii n] (Ii (n / 65536)) []:=by
 refine Zak spec_l9Floor.ok rfl ?_
 have h1:IntKind.i64.wrap (n - n % 65536)=n - n % 65536:=Zaj (by omega) (by omega)
 have h2:IntKind.i64.wrap (Int.tdiv (n - n % 65536) 65536)=n / 65536:=by
  have:n - n % 65536=65536 * (n / 65536):=by omega
  rw [this,Int.mul_tdiv_cancel_left _ (by decide),Zaj (by omega) (by omega)]
 repeat' (first|with_reducible rfl|refine Zam (spec_l1Wrap.fc ..) ?_|with_reducible refine Zah (fun _=>?_) (fun _=>?_)|refine Zaf (fun _=>?_) (fun _=>?_)|refine Zad (fun _=>?_) (fun _=>?_)|with_reducible refine Zab (fun _=>?_) (fun _=>?_)|with_reducible refine Zac (fun _=>?_) (fun _=>?_)|refine Zae (fun _=>?_) (fun _=>?_)|refine Zag (fun _=>?_) (fun _=>?_)|simp only [go_sem,bne,iQ,iB,iX,Int.reduceLE,iN,iA,iS,iM, *]|rfl)
theorem spec_l9Ends.fc (a b:Int) (h:-4611686018427387904≤a∧a≤4611686018427387904) (h2:-4611686018427387904≤b∧b≤4611686018427387904):FCt prog ZbB [.ro,.ro] [Ii a,Ii b] (strD (endsI a b)) []:=by
 refine Zak spec_l9Ends.ok rfl ?_
 unfold endsI
 repeat' (first|with_reducible rfl|refine Zam (spec_l9Floor.fc a h) ?_|refine Zam (spec_l9Floor.fc b h2) ?_|refine Zam (spec_l1Wrap.fc ..) ?_|refine Zal (spec_l9All.fc) rfl ?_|with_reducible refine Zah (fun _=>?_) (fun _=>?_)|refine Zaf (fun _=>?_) (fun _=>?_)|refine Zad (fun _=>?_) (fun _=>?_)|with_reducible refine Zab (fun _=>?_) (fun _=>?_)|with_reducible refine Zac (fun _=>?_) (fun _=>?_)|refine Zae (fun _=>?_) (fun _=>?_)|refine Zag (fun _=>?_) (fun _=>?_)|simp only [go_sem,bne,iQ,iB,iX,Int.reduceLE,iN,iA,iS,iM, *]|rfl)
def onesW (n k:Int):Int:=if h:0≤k∧k < n then onesW n (2 * k+1) else k
 termination_by (n - k).toNat
 decreasing_by omega
theorem Zdg {n k:Int} (h0:0≤k) (h:k < n):onesW n k=onesW n (2 * k+1):=by rw [onesW,dif_pos ⟨h0,h⟩]
theorem ZcG {n k:Int} (h:¬ k < n):onesW n k=k:=by rw [onesW,dif_neg (fun c=>h c.2)]
theorem impl_ones.fc (n:Int) (hn:n≤65535):FCt prog Zda [.ro] [Ii n] (Ii (onesW n 0)) []:=by
 refine Zak impl_ones.ok rfl ?_
 simp only [go_sem]
 refine ZaI (α:=Int) (fun k s' M'=>0≤k∧k≤131071∧s' 3=aI k∧onesW n 0=onesW n k) (fun k=>(n - k).toNat) 0 ⟨by omega,by omega,by simp only [go_sem],rfl⟩ ?_
 rintro k s' M' ⟨h0,h1,h3,hr⟩ ho
 unfold impl_ones.b0
 have j0:s' 0=aI n:=by rw [ho 0 rfl];simp only [go_sem]
 clear ho
 by_cases hlt:k < n
 · have w1:IntKind.i64.wrap (2 * k)=2 * k:=Zaj (by omega) (by omega)
   have w2:IntKind.i64.wrap (2 * k+1)=2 * k+1:=Zaj (by omega) (by omega)
   simp only [go_sem,hlt,w1,w2,j0,h3]
   exact ⟨2 * k+1,by dsimp only;omega,by omega,by omega,by simp only [go_sem,j0,h3],by rw [hr,Zdg h0 hlt]⟩
 · rw [hr,ZcG hlt]
   simp only [go_sem,hlt,j0,h3]
theorem spec_l9Ones.fc (n:Int) (hn:n≤65535):FCt prog Zcy [.ro] [Ii n] (Ii (onesW n 0)) []:=by
 refine Zak spec_l9Ones.ok rfl ?_
 simp only [go_sem]
 refine ZaI (α:=Int) (fun k s' M'=>0≤k∧k≤131071∧s' 3=aI k∧onesW n 0=onesW n k) (fun k=>(n - k).toNat) 0 ⟨by omega,by omega,by simp only [go_sem],rfl⟩ ?_
 rintro k s' M' ⟨h0,h1,h3,hr⟩ ho
 unfold spec_l9Ones.b0
 have j0:s' 0=aI n:=by rw [ho 0 rfl];simp only [go_sem]
 clear ho
 by_cases hlt:k < n
 · have w1:IntKind.i64.wrap (2 * k)=2 * k:=Zaj (by omega) (by omega)
   have w2:IntKind.i64.wrap (2 * k+1)=2 * k+1:=Zaj (by omega) (by omega)
   simp only [go_sem,hlt,w1,w2,j0,h3]
   exact ⟨2 * k+1,by dsimp only;omega,by omega,by omega,by simp only [go_sem,j0,h3],by rw [hr,Zdg h0 hlt]⟩
 · rw [hr,ZcG hlt]
   simp only [go_sem,hlt,j0,h3]
set_option maxHeartbeats 8000000
structure SOk (a:Int×Int):Prop where
 lo:0≤a.1
 le:a.1≤a.2
 hi:a.2≤65535
theorem ZeE {a:Int×Int} (h:gS a=true):SOk a:=by
 simp only [gS,goodS,inB,Bool.and_eq_true,decide_eq_true_eq] at h
 exact ⟨by omega,by omega,by omega⟩
theorem ZkY {a:Int×Int} (h:SOk a):gS a=true:=by
 obtain ⟨h1,h2,h3⟩:=h
 simp only [gS,goodS,inB,Bool.and_eq_true,decide_eq_true_eq]
 omega
def shP (b:Int):Int:=2 ^ min (Int.tmod b 16).toNat 64
theorem Zia {b:Int} (hb:0≤b):1≤shP b∧shP b≤32768:=by
 have h:=tmod16 hb
 unfold shP
 generalize hr:(Int.tmod b 16).toNat=r
 have:r < 16:=by omega
 clear hr h hb
 have:r=0∨r=1∨r=2∨r=3∨r=4∨r=5∨r=6∨r=7∨r=8∨r=9∨r=10∨r=11∨r=12∨r=13∨r=14∨r=15:=by omega
 rcases this with rfl|rfl|rfl|rfl|rfl|rfl|rfl|rfl|rfl|rfl|rfl|rfl|rfl|rfl|rfl|rfl<;>decide
theorem Zee {a b A B:Int} (h0:0≤a) (h1:a≤A) (h2:0≤b) (h3:b≤B):0≤a * b∧a * b≤A * B :=
 ⟨Int.mul_nonneg h0 h2,Int.mul_le_mul h1 h3 h2 (by omega)⟩
theorem Zb7 {a b:Int} (h0:0≤a) (h:0≤b):0≤Int.tdiv a b∧Int.tdiv a b≤a:=by
 rw [Int.tdiv_eq_ediv_of_nonneg h0]
 exact ⟨Int.ediv_nonneg h0 h,Int.ediv_le_self b h0⟩
def modS (a b:Int×Int):Int×Int:=if a.2 < b.1 then a else if b.1 == 0 then (0,a.2) else (0,mnI a.2 (b.2 - 1))
def shS (op:Int) (a b:Int×Int):Int×Int :=
 if op == 9 then (if b.1 == b.2 then endsI (a.1 * shP b.1) (a.2 * shP b.1) else (0,65535)) else
 (if b.1 == b.2 then (Int.tdiv a.1 (shP b.1),Int.tdiv a.2 (shP b.1)) else (0,a.2))
def stI (op:Int) (a b:Int×Int):Int×Int :=
 if op == 1 then endsI (a.1+b.1) (a.2+b.2) else
 if op == 2 then endsI (a.1 - b.2) (a.2 - b.1) else
 if op == 3 then endsI (a.1 * b.1) (a.2 * b.2) else
 if op == 4 then (if b.1 == 0 then (0,a.2) else (Int.tdiv a.1 b.2,Int.tdiv a.2 b.1)) else
 if op == 5 then modS a b else
 if op == 6 then (0,mnI a.2 b.2) else
 if op == 7 then (mxI a.1 b.1,onesW (mxI a.2 b.2) 0) else
 if op == 8 then (0,onesW (mxI a.2 b.2) 0) else shS op a b
theorem ZoM {a b:Int} (h:a≤65535) (h2:b≤65535):mxI a b≤65535:=by unfold mxI;split<;>omega
theorem impl_stretched.fc (op:Int) (a b:Int×Int) (ha:SOk a) (hb:SOk b):FCt prog ZbJ [.ro,.ro,.ro] [Ii op,strD a,strD b] (strD (stI op a b)) []:=by
 refine Zak impl_stretched.ok rfl ?_
 obtain ⟨a1,a2⟩:=a
 obtain ⟨b1,b2⟩:=b
 obtain ⟨p1,p2,p3⟩:=ha
 obtain ⟨q1,q2,q3⟩:=hb
 dsimp only at p1 p2 p3 q1 q2 q3
 have sp:=Zia q1
 have h1:¬ Int.tmod b1 16 < 0:=by have:=(tmod16 q1).1;omega
 have m1:IntKind.i64.wrap (1 * 2 ^ min (Int.tmod b1 16).toNat 64)=shP b1:=by
  rw [show (1:Int) * 2 ^ min (Int.tmod b1 16).toNat 64=shP b1 by rw [Int.one_mul];rfl]
  exact Zaj (by omega) (by omega)
 have w1:IntKind.i64.wrap (a1+b1)=a1+b1:=Zaj (by omega) (by omega)
 have w2:IntKind.i64.wrap (a2+b2)=a2+b2:=Zaj (by omega) (by omega)
 have w3:IntKind.i64.wrap (a1 - b2)=a1 - b2:=Zaj (by omega) (by omega)
 have w4:IntKind.i64.wrap (a2 - b1)=a2 - b1:=Zaj (by omega) (by omega)
 have w5:IntKind.i64.wrap (a1 * b1)=a1 * b1:=by have:=Zee (A:=65535) (B:=65535) p1 (by omega) q1 (by omega);exact Zaj (by omega) (by omega)
 have w6:IntKind.i64.wrap (a2 * b2)=a2 * b2:=by have:=Zee (a:=a2) (b:=b2) (A:=65535) (B:=65535) (by omega) (by omega) (by omega) (by omega);exact Zaj (by omega) (by omega)
 have w7:IntKind.i64.wrap (a1 * shP b1)=a1 * shP b1:=by have:=Zee (a:=a1) (b:=shP b1) (A:=65535) (B:=65535) p1 (by omega) (by omega) (by omega);exact Zaj (by omega) (by omega)
 have w8:IntKind.i64.wrap (a2 * shP b1)=a2 * shP b1:=by have:=Zee (a:=a2) (b:=shP b1) (A:=65535) (B:=65535) (by omega) (by omega) (by omega) (by omega);exact Zaj (by omega) (by omega)
 have w9:IntKind.i64.wrap (Int.tdiv a1 b2)=Int.tdiv a1 b2:=by have:=Zb7 (a:=a1) (b:=b2) (by omega) (by omega);exact Zaj (by omega) (by omega)
 have w10:IntKind.i64.wrap (Int.tdiv a2 b1)=Int.tdiv a2 b1:=by have:=Zb7 (a:=a2) (b:=b1) (by omega) (by omega);exact Zaj (by omega) (by omega)
 have w11:IntKind.i64.wrap (Int.tdiv a1 (shP b1))=Int.tdiv a1 (shP b1):=by have:=Zb7 (a:=a1) (b:=shP b1) (by omega) (by omega);exact Zaj (by omega) (by omega)
 have w12:IntKind.i64.wrap (Int.tdiv a2 (shP b1))=Int.tdiv a2 (shP b1):=by have:=Zb7 (a:=a2) (b:=shP b1) (by omega) (by omega);exact Zaj (by omega) (by omega)
 have w13:IntKind.i64.wrap (b2 - 1)=b2 - 1:=Zaj (by omega) (by omega)
 have n1:¬ shP b1=0:=by omega
 have o:=ZoM (a:=a2) (b:=b2) (by omega) (by omega)
 have o2:(if b2 > a2 then b2 else a2)=mxI a2 b2:=rfl
 have o3:(if b1 > a1 then b1 else a1)=mxI a1 b1:=rfl
 clear sp
 unfold stI modS shS
 rcases (show b1=0∨(¬ b1=0∧¬ b2=0) by omega) with h2|⟨h2,h3⟩
 · have h4:(b1 == 0)=true:=by simpa using h2
   clear h2
   repeat' (first|with_reducible rfl|refine Zal (impl_wrap.fc ..) rfl ?_|refine Zal (impl_allWords.fc) rfl ?_|refine Zam (impl_ones.fc _ o) ?_|with_reducible refine Zah (fun _=>?_) (fun _=>?_)|refine Zaf (fun _=>?_) (fun _=>?_)|refine Zad (fun _=>?_) (fun _=>?_)|with_reducible refine Zab (fun _=>?_) (fun _=>?_)|with_reducible refine Zac (fun _=>?_) (fun _=>?_)|refine Zae (fun _=>?_) (fun _=>?_)|refine Zag (fun _=>?_) (fun _=>?_)|simp only [go_sem,bne,iQ,iB,iX,Int.reduceLE,iN,iA,iS,iM,mnI,o2, *]|rfl)
 · have h4:(b1 == 0)=false:=by simpa using h2
   repeat' (first|with_reducible rfl|refine Zal (impl_wrap.fc ..) rfl ?_|refine Zal (impl_allWords.fc) rfl ?_|refine Zam (impl_ones.fc _ o) ?_|with_reducible refine Zah (fun _=>?_) (fun _=>?_)|refine Zaf (fun _=>?_) (fun _=>?_)|refine Zad (fun _=>?_) (fun _=>?_)|with_reducible refine Zab (fun _=>?_) (fun _=>?_)|with_reducible refine Zac (fun _=>?_) (fun _=>?_)|refine Zae (fun _=>?_) (fun _=>?_)|refine Zag (fun _=>?_) (fun _=>?_)|simp only [go_sem,bne,iQ,iB,iX,Int.reduceLE,iN,iA,iS,iM,mnI,o2, *]|rfl)
theorem spec_l9Mod.fc (a b:Int×Int) (ha:SOk a) (hb:SOk b):FCt prog ZdL [.ro,.ro] [strD a,strD b] (strD (modS a b)) []:=by
 refine Zak spec_l9Mod.ok rfl ?_
 obtain ⟨a1,a2⟩:=a
 obtain ⟨b1,b2⟩:=b
 obtain ⟨p1,p2,p3⟩:=ha
 obtain ⟨q1,q2,q3⟩:=hb
 dsimp only at p1 p2 p3 q1 q2 q3
 have w13:IntKind.i64.wrap (b2 - 1)=b2 - 1:=Zaj (by omega) (by omega)
 unfold modS
 rcases (show b1=0∨b1 > 0 by omega) with h2|h2
 · have h4:(b1 == 0)=true:=by simpa using h2
   have h5:¬ b1 > 0:=by omega
   clear h2
   repeat' (first|with_reducible rfl|refine Zam (spec_l1Least.fc ..) ?_|with_reducible refine Zah (fun _=>?_) (fun _=>?_)|refine Zaf (fun _=>?_) (fun _=>?_)|refine Zad (fun _=>?_) (fun _=>?_)|with_reducible refine Zab (fun _=>?_) (fun _=>?_)|with_reducible refine Zac (fun _=>?_) (fun _=>?_)|refine Zae (fun _=>?_) (fun _=>?_)|refine Zag (fun _=>?_) (fun _=>?_)|simp only [go_sem,bne,iQ,iB,iX,Int.reduceLE,iN,iA,iS,iM,mnI, *]|rfl)
 · have h4:(b1 == 0)=false:=by simp;omega
   repeat' (first|with_reducible rfl|refine Zam (spec_l1Least.fc ..) ?_|with_reducible refine Zah (fun _=>?_) (fun _=>?_)|refine Zaf (fun _=>?_) (fun _=>?_)|refine Zad (fun _=>?_) (fun _=>?_)|with_reducible refine Zab (fun _=>?_) (fun _=>?_)|with_reducible refine Zac (fun _=>?_) (fun _=>?_)|refine Zae (fun _=>?_) (fun _=>?_)|refine Zag (fun _=>?_) (fun _=>?_)|simp only [go_sem,bne,iQ,iB,iX,Int.reduceLE,iN,iA,iS,iM,mnI, *]|rfl)
theorem fdivP {a:Int} {b:Int} (ha:0≤a) (hb:0≤b):Int.fdiv a b=Int.tdiv a b:=by
 rw [Int.fdiv_eq_ediv_of_nonneg _ hb,Int.tdiv_eq_ediv_of_nonneg ha]
theorem spec_l9Shift.fc (op:Int) (a b:Int×Int) (ha:SOk a) (hb:SOk b):FCt prog Zc0 [.ro,.ro,.ro] [Ii op,strD a,strD b] (strD (shS op a b)) []:=by
 refine Zak spec_l9Shift.ok rfl ?_
 obtain ⟨a1,a2⟩:=a
 obtain ⟨b1,b2⟩:=b
 obtain ⟨p1,p2,p3⟩:=ha
 obtain ⟨q1,q2,q3⟩:=hb
 dsimp only at p1 p2 p3 q1 q2 q3
 have sp:=Zia q1
 have h1:¬ Int.tmod b1 16 < 0:=by have:=(tmod16 q1).1;omega
 have hu:IntKind.u64.wrap (Int.tmod b1 16)=Int.tmod b1 16:=Zj1 (tmod16 q1).1 (by have:=(tmod16 q1).2;omega)
 have sa:=Zee (a:=a1) (b:=shP b1) (A:=65535) (B:=65535) p1 (by omega) (by omega) (by omega)
 have sb:=Zee (a:=a2) (b:=shP b1) (A:=65535) (B:=65535) (by omega) (by omega) (by omega) (by omega)
 have w7:IntKind.i64.wrap (a1 * 2 ^ min (Int.tmod b1 16).toNat 64)=a1 * shP b1:=Zaj (x:=a1 * shP b1) (by omega) (by omega)
 have w8:IntKind.i64.wrap (a2 * 2 ^ min (Int.tmod b1 16).toNat 64)=a2 * shP b1:=Zaj (x:=a2 * shP b1) (by omega) (by omega)
 have w9:Int.fdiv a1 (2 ^ min (Int.tmod b1 16).toNat 64)=Int.tdiv a1 (shP b1):=fdivP p1 (by show 0≤shP b1;omega)
 have w10:Int.fdiv a2 (2 ^ min (Int.tmod b1 16).toNat 64)=Int.tdiv a2 (shP b1):=fdivP (by omega) (by show 0≤shP b1;omega)
 have c:=spec_l9Ends.fc (a1 * shP b1) (a2 * shP b1) (by omega) (by omega)
 clear sp sa sb
 unfold shS
 repeat' (first|with_reducible rfl|refine Zal (c) rfl ?_|refine Zal (spec_l9All.fc) rfl ?_|with_reducible refine Zah (fun _=>?_) (fun _=>?_)|refine Zaf (fun _=>?_) (fun _=>?_)|refine Zad (fun _=>?_) (fun _=>?_)|with_reducible refine Zab (fun _=>?_) (fun _=>?_)|with_reducible refine Zac (fun _=>?_) (fun _=>?_)|refine Zae (fun _=>?_) (fun _=>?_)|refine Zag (fun _=>?_) (fun _=>?_)|simp only [go_sem,bne,iQ,iB,iX,Int.reduceLE,iN,iA,iS,iM, *]|rfl)
theorem spec_l9Do.fc (op:Int) (a b:Int×Int) (ha:SOk a) (hb:SOk b):FCt prog Zdh [.ro,.ro,.ro] [Ii op,strD a,strD b] (strD (stI op a b)) []:=by
 refine Zak spec_l9Do.ok rfl ?_
 have cm:=spec_l9Mod.fc a b ha hb
 have cs:=spec_l9Shift.fc op a b ha hb
 obtain ⟨a1,a2⟩:=a
 obtain ⟨b1,b2⟩:=b
 obtain ⟨p1,p2,p3⟩:=ha
 obtain ⟨q1,q2,q3⟩:=hb
 dsimp only at p1 p2 p3 q1 q2 q3
 have w1:IntKind.i64.wrap (a1+b1)=a1+b1:=Zaj (by omega) (by omega)
 have w2:IntKind.i64.wrap (a2+b2)=a2+b2:=Zaj (by omega) (by omega)
 have w3:IntKind.i64.wrap (a1 - b2)=a1 - b2:=Zaj (by omega) (by omega)
 have w4:IntKind.i64.wrap (a2 - b1)=a2 - b1:=Zaj (by omega) (by omega)
 have s5:=Zee (A:=65535) (B:=65535) p1 (show a1≤65535 by omega) q1 (show b1≤65535 by omega)
 have s6:=Zee (a:=a2) (b:=b2) (A:=65535) (B:=65535) (by omega) (by omega) (by omega) (by omega)
 have w5:IntKind.i64.wrap (a1 * b1)=a1 * b1:=Zaj (by omega) (by omega)
 have w6:IntKind.i64.wrap (a2 * b2)=a2 * b2:=Zaj (by omega) (by omega)
 have w9:IntKind.i64.wrap (Int.tdiv a1 b2)=Int.tdiv a1 b2:=by have:=Zb7 (a:=a1) (b:=b2) (by omega) (by omega);exact Zaj (by omega) (by omega)
 have w10:IntKind.i64.wrap (Int.tdiv a2 b1)=Int.tdiv a2 b1:=by have:=Zb7 (a:=a2) (b:=b1) (by omega) (by omega);exact Zaj (by omega) (by omega)
 have c1:=spec_l9Ends.fc (a1+b1) (a2+b2) (by omega) (by omega)
 have c2:=spec_l9Ends.fc (a1 - b2) (a2 - b1) (by omega) (by omega)
 have c3:=spec_l9Ends.fc (a1 * b1) (a2 * b2) (by omega) (by omega)
 have o:=ZoM (a:=a2) (b:=b2) (by omega) (by omega)
 have o2:(if b2 > a2 then b2 else a2)=mxI a2 b2:=rfl
 have o3:(if b1 > a1 then b1 else a1)=mxI a1 b1:=rfl
 have c4:=spec_l9Ones.fc (mxI a2 b2) o
 clear s5 s6
 unfold stI
 rcases (show b1=0∨(¬ b1=0∧¬ b2=0) by omega) with h2|⟨h2,h3⟩
 · have h4:(b1 == 0)=true:=by simpa using h2
   clear h2
   repeat' (first|with_reducible rfl|refine Zal (c1) rfl ?_|refine Zal (c2) rfl ?_|refine Zal (c3) rfl ?_|refine Zam (c4) ?_|refine Zal (cm) rfl ?_|refine Zal (cs) rfl ?_|refine Zam (spec_l1Least.fc ..) ?_|refine Zam (spec_l1Most.fc ..) ?_|with_reducible refine Zah (fun _=>?_) (fun _=>?_)|refine Zaf (fun _=>?_) (fun _=>?_)|refine Zad (fun _=>?_) (fun _=>?_)|with_reducible refine Zab (fun _=>?_) (fun _=>?_)|with_reducible refine Zac (fun _=>?_) (fun _=>?_)|refine Zae (fun _=>?_) (fun _=>?_)|refine Zag (fun _=>?_) (fun _=>?_)|simp only [go_sem,bne,iQ,iB,iX,Int.reduceLE,iN,iA,iS,iM,mnI,o2,o3, *]|rfl)
 · have h4:(b1 == 0)=false:=by simpa using h2
   repeat' (first|with_reducible rfl|refine Zal (c1) rfl ?_|refine Zal (c2) rfl ?_|refine Zal (c3) rfl ?_|refine Zam (c4) ?_|refine Zal (cm) rfl ?_|refine Zal (cs) rfl ?_|refine Zam (spec_l1Least.fc ..) ?_|refine Zam (spec_l1Most.fc ..) ?_|with_reducible refine Zah (fun _=>?_) (fun _=>?_)|refine Zaf (fun _=>?_) (fun _=>?_)|refine Zad (fun _=>?_) (fun _=>?_)|with_reducible refine Zab (fun _=>?_) (fun _=>?_)|with_reducible refine Zac (fun _=>?_) (fun _=>?_)|refine Zae (fun _=>?_) (fun _=>?_)|refine Zag (fun _=>?_) (fun _=>?_)|simp only [go_sem,bne,iQ,iB,iX,Int.reduceLE,iN,iA,iS,iM,mnI,o2,o3, *]|rfl)
structure KOk (a:Int×Int):Prop where
 v:wd a.1
 m:wd a.2
 dj:andI a.1 a.2=0
theorem ZfJ {a:Int×Int} (h:gK a=true):KOk a:=by
 simp only [gK,goodK,Bool.and_eq_true,ZoA,beq_iff_eq] at h
 exact ⟨h.1.1,h.1.2,h.2⟩
theorem ZnC {a:Int×Int} (h:KOk a):gK a=true:=by
 obtain ⟨h1,h2,h3⟩:=h
 simp only [gK,goodK,Bool.and_eq_true,ZoA,beq_iff_eq]
 exact ⟨⟨h1,h2⟩,h3⟩
def knN (v m:Int):Int×Int:=(andNotI v m,m)
theorem impl_known.fc (v m:Int):FCt prog Zby [.ro,.ro] [Ii v,Ii m] (knownD (knN v m)) []:=by
 refine Zak impl_known.ok rfl ?_
 unfold knN andNotI
 repeat' (first|with_reducible rfl|with_reducible refine Zah (fun _=>?_) (fun _=>?_)|refine Zaf (fun _=>?_) (fun _=>?_)|refine Zad (fun _=>?_) (fun _=>?_)|with_reducible refine Zab (fun _=>?_) (fun _=>?_)|with_reducible refine Zac (fun _=>?_) (fun _=>?_)|refine Zae (fun _=>?_) (fun _=>?_)|refine Zag (fun _=>?_) (fun _=>?_)|simp only [go_sem,bne,iQ,iB,iX,Int.reduceLE,iN,iA,iS,iM, *]|rfl)
theorem spec_l10Not.fc (v m:Int):FCt prog ZbO [.ro,.ro] [Ii v,Ii m] (knownD (knN v m)) []:=by
 refine Zak spec_l10Not.ok rfl ?_
 unfold knN andNotI
 repeat' (first|with_reducible rfl|with_reducible refine Zah (fun _=>?_) (fun _=>?_)|refine Zaf (fun _=>?_) (fun _=>?_)|refine Zad (fun _=>?_) (fun _=>?_)|with_reducible refine Zab (fun _=>?_) (fun _=>?_)|with_reducible refine Zac (fun _=>?_) (fun _=>?_)|refine Zae (fun _=>?_) (fun _=>?_)|refine Zag (fun _=>?_) (fun _=>?_)|simp only [go_sem,bne,iQ,iB,iX,Int.reduceLE,iN,iA,iS,iM, *]|rfl)
theorem impl_unknown.fc:FCt prog ZbG [] [] (knownD (0,65535)) []:=by
 refine Zak impl_unknown.ok rfl ?_
 repeat' (first|with_reducible rfl|with_reducible refine Zah (fun _=>?_) (fun _=>?_)|refine Zaf (fun _=>?_) (fun _=>?_)|refine Zad (fun _=>?_) (fun _=>?_)|with_reducible refine Zab (fun _=>?_) (fun _=>?_)|with_reducible refine Zac (fun _=>?_) (fun _=>?_)|refine Zae (fun _=>?_) (fun _=>?_)|refine Zag (fun _=>?_) (fun _=>?_)|simp only [go_sem,bne,iQ,iB,iX,Int.reduceLE,iN,iA,iS,iM, *]|rfl)
def joinK (a b:Int×Int):Int×Int:=knN a.1 (orI (orI a.2 b.2) (xorI a.1 b.1))
theorem impl_joinKnown.fc (a b:Int×Int):FCt prog Zcs [.ro,.ro] [knownD a,knownD b] (knownD (joinK a b)) []:=by
 refine Zak impl_joinKnown.ok rfl ?_
 unfold joinK orI xorI
 repeat' (first|with_reducible rfl|refine Zal (impl_known.fc ..) rfl ?_|with_reducible refine Zah (fun _=>?_) (fun _=>?_)|refine Zaf (fun _=>?_) (fun _=>?_)|refine Zad (fun _=>?_) (fun _=>?_)|with_reducible refine Zab (fun _=>?_) (fun _=>?_)|with_reducible refine Zac (fun _=>?_) (fun _=>?_)|refine Zae (fun _=>?_) (fun _=>?_)|refine Zag (fun _=>?_) (fun _=>?_)|simp only [go_sem,bne,iQ,iB,iX,Int.reduceLE,iN,iA,iS,iM, *]|rfl)
def meetKb (a b:Int×Int):Bool:=!(andNotI (xorI a.1 b.1) (orI a.2 b.2) == 0)
def meetK (a b:Int×Int):Int×Int:=if meetKb a b then (0,0) else (orI a.1 b.1,andI a.2 b.2)
theorem nots (a b c:Int):andNotI (andNotI a b) c=andNotI a (orI b c):=by
 simp only [Zat,ZaG,Zao]
 congr 1
 apply BitVec.eq_of_getLsbD_eq
 intro i hi
 simp only [BitVec.getLsbD_and,BitVec.getLsbD_not,BitVec.getLsbD_or]
 cases (bI a).getLsbD i<;>cases (bI b).getLsbD i<;>cases (bI c).getLsbD i<;>simp
theorem ZmW {a b:Int×Int} (ha:KOk a) (hb:KOk b):knN (orI a.1 b.1) (andI a.2 b.2)=(orI a.1 b.1,andI a.2 b.2):=by
 unfold knN
 refine congrArg (·,_) ?_
 simp only [Zat,ZaG,Zbb,Zao]
 congr 1
 apply BitVec.eq_of_getLsbD_eq
 intro i hi
 have h1:=disj ha.dj i
 have h2:=disj hb.dj i
 simp only [BitVec.getLsbD_and,BitVec.getLsbD_not,BitVec.getLsbD_or]
 revert h1 h2
 cases (bI a.1).getLsbD i<;>cases (bI a.2).getLsbD i<;>cases (bI b.1).getLsbD i<;>cases (bI b.2).getLsbD i<;>simp [hi]
theorem impl_meetKnown.fc (a b:Int×Int) (ha:KOk a) (hb:KOk b):FCt prog Zcv [.ro,.ro] [knownD a,knownD b] (.tup [knownD (meetK a b),Bb (!meetKb a b)]) []:=by
 refine Zak impl_meetKnown.ok rfl ?_
 have e:=ZmW ha hb
 unfold meetK meetKb
 rw [← nots,← e]
 unfold xorI andNotI orI andI
 repeat' (first|with_reducible rfl|refine Zal (impl_known.fc ..) rfl ?_|with_reducible refine Zah (fun _=>?_) (fun _=>?_)|refine Zaf (fun _=>?_) (fun _=>?_)|refine Zad (fun _=>?_) (fun _=>?_)|with_reducible refine Zab (fun _=>?_) (fun _=>?_)|with_reducible refine Zac (fun _=>?_) (fun _=>?_)|refine Zae (fun _=>?_) (fun _=>?_)|refine Zag (fun _=>?_) (fun _=>?_)|simp only [go_sem,bne,iQ,iB,iX,Int.reduceLE,iN,iA,iS,iM, *]|rfl)
theorem spec_l10Meet.fc (a b:Int×Int):FCt prog ZcW [.ro,.ro] [knownD a,knownD b] (.tup [knownD (meetK a b),Bb (!meetKb a b)]) []:=by
 refine Zak spec_l10Meet.ok rfl ?_
 unfold meetK meetKb xorI andNotI orI andI
 repeat' (first|with_reducible rfl|with_reducible refine Zah (fun _=>?_) (fun _=>?_)|refine Zaf (fun _=>?_) (fun _=>?_)|refine Zad (fun _=>?_) (fun _=>?_)|with_reducible refine Zab (fun _=>?_) (fun _=>?_)|with_reducible refine Zac (fun _=>?_) (fun _=>?_)|refine Zae (fun _=>?_) (fun _=>?_)|refine Zag (fun _=>?_) (fun _=>?_)|simp only [go_sem,bne,iQ,iB,iX,Int.reduceLE,iN,iA,iS,iM, *]|rfl)
def mayK (k:Int×Int) (x:Int):Int:=if x == 1 then orI k.1 k.2 else andNotI 65535 k.1
theorem impl_Known_may.fc (k:Int×Int) (x:Int):FCt prog ZbI [.ro,.ro] [knownD k,Ii x] (Ii (mayK k x)) []:=by
 refine Zak impl_Known_may.ok rfl ?_
 unfold mayK orI andNotI
 repeat' (first|with_reducible rfl|with_reducible refine Zah (fun _=>?_) (fun _=>?_)|refine Zaf (fun _=>?_) (fun _=>?_)|refine Zad (fun _=>?_) (fun _=>?_)|with_reducible refine Zab (fun _=>?_) (fun _=>?_)|with_reducible refine Zac (fun _=>?_) (fun _=>?_)|refine Zae (fun _=>?_) (fun _=>?_)|refine Zag (fun _=>?_) (fun _=>?_)|simp only [go_sem,bne,iQ,iB,iX,Int.reduceLE,iN,iA,iS,iM, *]|rfl)
def bwS (op:Int) (a b:Int×Int) (p:Int×Int) (x y:Int):Int×Int :=
 if doI op x y == 1 then (p.1,orI p.2 (andI (mayK a x) (mayK b y))) else (orI p.1 (andI (mayK a x) (mayK b y)),p.2)
def bwN (op:Int) (a b:Int×Int):Nat→Int×Int
 | 0=>(0,0)
 | n+1=>bwS op a b (bwN op a b n) ((n / 2:Nat):Int) ((n % 2:Nat):Int)
def bitK (op:Int) (a b:Int×Int):Int×Int:=knN (bwN op a b 4).2 (andI (bwN op a b 4).1 (bwN op a b 4).2)
theorem impl_bitwise.fc0 (op:Int) (a b:Int×Int):FCt prog Zcd [.ro,.ro,.ro] [Ii op,knownD a,knownD b] (knownD (bitK op a b)) []:=by
 refine Zak impl_bitwise.ok rfl ?_
 simp only [go_sem]
 refine ZaI (α:=Nat) (fun i s' M'=>i≤2∧s' 12=aI i∧s' 7=aI (bwN op a b (2 * i)).1∧s' 8=aI (bwN op a b (2 * i)).2∧M'.m 64=some (.box 0 (.dat none (knownD a)))∧M'.m 128=some (.box 64 (.dat none (knownD b)))∧M'.m 192=some (.box 128 (.agg [aI 0,aI 0]))) (fun i=>2 - i) 0
  ⟨by omega,by simp only [go_sem];rfl,by simp only [go_sem];rfl,by simp only [go_sem];rfl,by simp only [go_sem],by simp only [go_sem],by simp only [go_sem]⟩ ?_
 rintro i s' M' ⟨hi,h12,h7,h8,m1,m2,m3⟩ ho
 unfold impl_bitwise.b1
 have j0:s' 0=aI op:=by rw [ho 0 rfl];simp only [go_sem]
 have j4:s' 4=.ptr 64 0 0 none:=by rw [ho 4 rfl];simp only [go_sem]
 have j5:s' 5=.ptr 128 64 0 none:=by rw [ho 5 rfl];simp only [go_sem]
 have j6:s' 6=.ptr 192 128 0 none:=by rw [ho 6 rfl];simp only [go_sem]
 clear ho
 by_cases hlt:i < 2
 · have hi':(i:Int) < 2:=by omega
   have hw:IntKind.i64.wrap (i+1)=((i+1:Nat):Int):=by rw [Zaj (by omega) (by omega)];omega
   simp only [go_sem,hi',j0,j4,j5,j6,h12,h7,h8,m1,m2,m3]
   refine ZaI (α:=Nat) (fun y s' M'=>y≤2∧s' 15=aI y∧s' 7=aI (bwN op a b (2 * i+y)).1∧s' 8=aI (bwN op a b (2 * i+y)).2∧M'.m 64=some (.box 0 (.dat none (knownD a)))∧M'.m 128=some (.box 64 (.dat none (knownD b)))∧M'.m 192=some (.box 128 (.agg [aI 0,aI 0]))) (fun y=>2 - y) 0
    ⟨by omega,by simp only [go_sem,j0,j4,j5,j6,h12,h7,h8,m1,m2,m3];rfl,by simp only [go_sem,j0,j4,j5,j6,h12,h7,h8,m1,m2,m3];rfl,by simp only [go_sem,j0,j4,j5,j6,h12,h7,h8,m1,m2,m3];rfl,by simp only [go_sem,j0,j4,j5,j6,h12,h7,h8,m1,m2,m3],by simp only [go_sem,j0,j4,j5,j6,h12,h7,h8,m1,m2,m3],by simp only [go_sem,j0,j4,j5,j6,h12,h7,h8,m1,m2,m3]⟩ ?_
   rintro y s2 M2 ⟨hy,k15,k7,k8,n1,n2,n3⟩ ho
   unfold impl_bitwise.b0
   have g0:s2 0=aI op:=by rw [ho 0 rfl];simp only [go_sem,j0,j4,j5,j6,h12,h7,h8,m1,m2,m3]
   have g4:s2 4=.ptr 64 0 0 none:=by rw [ho 4 rfl];simp only [go_sem,j0,j4,j5,j6,h12,h7,h8,m1,m2,m3]
   have g5:s2 5=.ptr 128 64 0 none:=by rw [ho 5 rfl];simp only [go_sem,j0,j4,j5,j6,h12,h7,h8,m1,m2,m3]
   have g6:s2 6=.ptr 192 128 0 none:=by rw [ho 6 rfl];simp only [go_sem,j0,j4,j5,j6,h12,h7,h8,m1,m2,m3]
   have g9:s2 9=aI i:=by rw [ho 9 rfl];simp only [go_sem,j0,j4,j5,j6,h12,h7,h8,m1,m2,m3]
   have g12:s2 12=aI i:=by rw [ho 12 rfl];simp only [go_sem,j0,j4,j5,j6,h12,h7,h8,m1,m2,m3]
   clear ho
   by_cases hly:y < 2
   · have hy':(y:Int) < 2:=by omega
     have hwy:IntKind.i64.wrap (y+1)=((y+1:Nat):Int):=by rw [Zaj (by omega) (by omega)];omega
     have e1:(2 * i+y) / 2=i:=by omega
     have e2:(2 * i+y) % 2=y:=by omega
     have st:bwN op a b (2 * i+(y+1))=bwS op a b (bwN op a b (2 * i+y)) i y:=by
      show bwN op a b (2 * i+y+1)=_
      simp only [bwN,e1,e2]
     simp only [go_sem,hy',j0,j4,j5,j6,h12,h7,h8,m1,m2,m3,g0,g4,g5,g6,g9,g12,k15,k7,k8,n1,n2,n3]
     refine Zam (impl_Known_may.fc a i) ?_
     simp only [go_sem,j0,j4,j5,j6,h12,h7,h8,m1,m2,m3,g0,g4,g5,g6,g9,g12,k15,k7,k8,n1,n2,n3]
     refine Zam (impl_Known_may.fc b y) ?_
     simp only [go_sem,j0,j4,j5,j6,h12,h7,h8,m1,m2,m3,g0,g4,g5,g6,g9,g12,k15,k7,k8,n1,n2,n3]
     refine Zam (impl_do.fc op i y (by omega)) ?_
     simp only [go_sem,j0,j4,j5,j6,h12,h7,h8,m1,m2,m3,g0,g4,g5,g6,g9,g12,k15,k7,k8,n1,n2,n3]
     cases hd:(doI op i y == 1) with
     | true =>
      simp only [go_sem,hd,hwy,j0,j4,j5,j6,h12,h7,h8,m1,m2,m3,g0,g4,g5,g6,g9,g12,k15,k7,k8,n1,n2,n3]
      exact ⟨y+1,by dsimp only;omega,by omega,by simp only [go_sem,j0,j4,j5,j6,h12,h7,h8,m1,m2,m3,g0,g4,g5,g6,g9,g12,k15,k7,k8,n1,n2,n3],by simp only [go_sem,st,bwS,hd,j0,j4,j5,j6,h12,h7,h8,m1,m2,m3,g0,g4,g5,g6,g9,g12,k15,k7,k8,n1,n2,n3],by simp only [go_sem,st,bwS,hd,j0,j4,j5,j6,h12,h7,h8,m1,m2,m3,g0,g4,g5,g6,g9,g12,k15,k7,k8,n1,n2,n3];rfl,by simp only [go_sem,j0,j4,j5,j6,h12,h7,h8,m1,m2,m3,g0,g4,g5,g6,g9,g12,k15,k7,k8,n1,n2,n3],by simp only [go_sem,j0,j4,j5,j6,h12,h7,h8,m1,m2,m3,g0,g4,g5,g6,g9,g12,k15,k7,k8,n1,n2,n3],by simp only [go_sem,j0,j4,j5,j6,h12,h7,h8,m1,m2,m3,g0,g4,g5,g6,g9,g12,k15,k7,k8,n1,n2,n3]⟩
     | false =>
      simp only [go_sem,hd,hwy,j0,j4,j5,j6,h12,h7,h8,m1,m2,m3,g0,g4,g5,g6,g9,g12,k15,k7,k8,n1,n2,n3]
      exact ⟨y+1,by dsimp only;omega,by omega,by simp only [go_sem,j0,j4,j5,j6,h12,h7,h8,m1,m2,m3,g0,g4,g5,g6,g9,g12,k15,k7,k8,n1,n2,n3],by simp only [go_sem,st,bwS,hd,j0,j4,j5,j6,h12,h7,h8,m1,m2,m3,g0,g4,g5,g6,g9,g12,k15,k7,k8,n1,n2,n3];rfl,by simp only [go_sem,st,bwS,hd,j0,j4,j5,j6,h12,h7,h8,m1,m2,m3,g0,g4,g5,g6,g9,g12,k15,k7,k8,n1,n2,n3],by simp only [go_sem,j0,j4,j5,j6,h12,h7,h8,m1,m2,m3,g0,g4,g5,g6,g9,g12,k15,k7,k8,n1,n2,n3],by simp only [go_sem,j0,j4,j5,j6,h12,h7,h8,m1,m2,m3,g0,g4,g5,g6,g9,g12,k15,k7,k8,n1,n2,n3],by simp only [go_sem,j0,j4,j5,j6,h12,h7,h8,m1,m2,m3,g0,g4,g5,g6,g9,g12,k15,k7,k8,n1,n2,n3]⟩
   · have hy':¬ (y:Int) < 2:=by omega
     obtain rfl:y=2:=by omega
     have hwy:IntKind.i64.wrap (i+1)=((i+1:Nat):Int):=by rw [Zaj (by omega) (by omega)];omega
     simp only [go_sem,hy',hwy,Int.lt_irrefl,j0,j4,j5,j6,h12,h7,h8,m1,m2,m3,g0,g4,g5,g6,g9,g12,k15,k7,k8,n1,n2,n3]
     exact ⟨i+1,by dsimp only;omega,by omega,by simp only [go_sem,j0,j4,j5,j6,h12,h7,h8,m1,m2,m3,g0,g4,g5,g6,g9,g12,k15,k7,k8,n1,n2,n3],by simp only [go_sem,j0,j4,j5,j6,h12,h7,h8,m1,m2,m3,g0,g4,g5,g6,g9,g12,k15,k7,k8,n1,n2,n3];rfl,by simp only [go_sem,j0,j4,j5,j6,h12,h7,h8,m1,m2,m3,g0,g4,g5,g6,g9,g12,k15,k7,k8,n1,n2,n3];rfl,by simp only [go_sem,j0,j4,j5,j6,h12,h7,h8,m1,m2,m3,g0,g4,g5,g6,g9,g12,k15,k7,k8,n1,n2,n3],by simp only [go_sem,j0,j4,j5,j6,h12,h7,h8,m1,m2,m3,g0,g4,g5,g6,g9,g12,k15,k7,k8,n1,n2,n3],by simp only [go_sem,j0,j4,j5,j6,h12,h7,h8,m1,m2,m3,g0,g4,g5,g6,g9,g12,k15,k7,k8,n1,n2,n3]⟩
 · obtain rfl:i=2:=by omega
   have c2:((2:Nat):Int)=2:=rfl
   simp only [go_sem,c2,Int.lt_irrefl,j0,j4,j5,j6,h12,h7,h8,m1,m2,m3]
   refine Zal (impl_known.fc ..) rfl ?_
   simp only [go_sem,j0,j4,j5,j6,h12,h7,h8,m1,m2,m3]
   rfl
def kbI (op:Int) (a b:Int×Int):Int×Int :=
 if op == 6 then (andI a.1 b.1,andNotI (andI (orI a.1 a.2) (orI b.1 b.2)) (andI a.1 b.1)) else
 if op == 7 then (orI a.1 b.1,andNotI (orI a.2 b.2) (orI a.1 b.1)) else knN (xorI a.1 b.1) (orI a.2 b.2)
theorem spec_l10Bits.fc (op:Int) (a b:Int×Int):FCt prog ZcX [.ro,.ro,.ro] [Ii op,knownD a,knownD b] (knownD (kbI op a b)) []:=by
 refine Zak spec_l10Bits.ok rfl ?_
 unfold kbI knN andI orI xorI andNotI
 repeat' (first|with_reducible rfl|refine Zal (spec_l10Not.fc ..) rfl ?_|with_reducible refine Zah (fun _=>?_) (fun _=>?_)|refine Zaf (fun _=>?_) (fun _=>?_)|refine Zad (fun _=>?_) (fun _=>?_)|with_reducible refine Zab (fun _=>?_) (fun _=>?_)|with_reducible refine Zac (fun _=>?_) (fun _=>?_)|refine Zae (fun _=>?_) (fun _=>?_)|refine Zag (fun _=>?_) (fun _=>?_)|simp only [go_sem,bne,iQ,iB,iX,Int.reduceLE,iN,iA,iS,iM,knN,andNotI, *]|rfl)
theorem bw4 (op:Int) (a b:Int×Int):bwN op a b 4=bwS op a b (bwS op a b (bwS op a b (bwS op a b (0,0) 0 0) 0 1) 1 0) 1 1:=rfl
theorem may0 (k:Int×Int):mayK k 0=andNotI 65535 k.1:=rfl
theorem may1 (k:Int×Int):mayK k 1=orI k.1 k.2:=rfl
theorem Zo8 {op:Int} {a b:Int×Int} (ho:op=6∨op=7∨op=8) (ha:KOk a) (hb:KOk b):bitK op a b=kbI op a b:=by
 have bits:∀ i,(bI a.1).getLsbD i=true→i < 16:=fun i h=>Nat.lt_of_not_le fun hi=>by rw [ZdJ ha.v hi] at h;cases h
 have bits2:∀ i,(bI b.1).getLsbD i=true→i < 16:=fun i h=>Nat.lt_of_not_le fun hi=>by rw [ZdJ hb.v hi] at h;cases h
 have bits3:∀ i,(bI a.2).getLsbD i=true→i < 16:=fun i h=>Nat.lt_of_not_le fun hi=>by rw [ZdJ ha.m hi] at h;cases h
 have bits4:∀ i,(bI b.2).getLsbD i=true→i < 16:=fun i h=>Nat.lt_of_not_le fun hi=>by rw [ZdJ hb.m hi] at h;cases h
 rcases ho with rfl|rfl|rfl
 · have d00:(doI 6 0 0 == 1)=false:=by decide
   have d01:(doI 6 0 1 == 1)=false:=by decide
   have d10:(doI 6 1 0 == 1)=false:=by decide
   have d11:(doI 6 1 1 == 1)=true:=by decide
   simp only [bitK,kbI,knN,bw4,bwS,d00,d01,d10,d11,may0,may1,if_true,Bool.false_eq_true,if_false,Int.reduceBEq]
   simp only [Zat,ZaG,Zbb,Zao]
   refine Prod.ext (congrArg BitVec.toInt (BitVec.eq_of_getLsbD_eq fun i hi=>?_)) (congrArg BitVec.toInt (BitVec.eq_of_getLsbD_eq fun i hi=>?_)) <;>
   · have h1:=disj ha.dj i
     have h2:=disj hb.dj i
     have q1:=bits i
     have q2:=bits2 i
     have q3:=bits3 i
     have q4:=bits4 i
     simp only [BitVec.getLsbD_and,BitVec.getLsbD_not,BitVec.getLsbD_or,Ze8,Zdy]
     revert h1 h2 q1 q2 q3 q4
     cases (bI a.1).getLsbD i<;>cases (bI a.2).getLsbD i<;>cases (bI b.1).getLsbD i<;>cases (bI b.2).getLsbD i<;>simp_all
 · have d00:(doI 7 0 0 == 1)=false:=by decide
   have d01:(doI 7 0 1 == 1)=true:=by decide
   have d10:(doI 7 1 0 == 1)=true:=by decide
   have d11:(doI 7 1 1 == 1)=true:=by decide
   simp only [bitK,kbI,knN,bw4,bwS,d00,d01,d10,d11,may0,may1,if_true,Bool.false_eq_true,if_false,Int.reduceBEq]
   simp only [Zat,ZaG,Zbb,Zao]
   refine Prod.ext (congrArg BitVec.toInt (BitVec.eq_of_getLsbD_eq fun i hi=>?_)) (congrArg BitVec.toInt (BitVec.eq_of_getLsbD_eq fun i hi=>?_)) <;>
   · have h1:=disj ha.dj i
     have h2:=disj hb.dj i
     have q1:=bits i
     have q2:=bits2 i
     have q3:=bits3 i
     have q4:=bits4 i
     simp only [BitVec.getLsbD_and,BitVec.getLsbD_not,BitVec.getLsbD_or,Ze8,Zdy]
     revert h1 h2 q1 q2 q3 q4
     cases (bI a.1).getLsbD i<;>cases (bI a.2).getLsbD i<;>cases (bI b.1).getLsbD i<;>cases (bI b.2).getLsbD i<;>simp_all
 · have d00:(doI 8 0 0 == 1)=false:=by decide
   have d01:(doI 8 0 1 == 1)=true:=by decide
   have d10:(doI 8 1 0 == 1)=true:=by decide
   have d11:(doI 8 1 1 == 1)=false:=by decide
   simp only [bitK,kbI,knN,bw4,bwS,d00,d01,d10,d11,may0,may1,if_true,Bool.false_eq_true,if_false,Int.reduceBEq]
   simp only [Zat,ZaG,Zbb,ZcD,Zao]
   refine Prod.ext (congrArg BitVec.toInt (BitVec.eq_of_getLsbD_eq fun i hi=>?_)) (congrArg BitVec.toInt (BitVec.eq_of_getLsbD_eq fun i hi=>?_)) <;>
   · have h1:=disj ha.dj i
     have h2:=disj hb.dj i
     have q1:=bits i
     have q2:=bits2 i
     have q3:=bits3 i
     have q4:=bits4 i
     simp only [BitVec.getLsbD_and,BitVec.getLsbD_not,BitVec.getLsbD_or,BitVec.getLsbD_xor,Ze8,Zdy]
     revert h1 h2 q1 q2 q3 q4
     cases (bI a.1).getLsbD i<;>cases (bI a.2).getLsbD i<;>cases (bI b.1).getLsbD i<;>cases (bI b.2).getLsbD i<;>simp_all
theorem impl_bitwise.fc {op:Int} {a b:Int×Int} (ho:op=6∨op=7∨op=8) (ha:KOk a) (hb:KOk b):FCt prog Zcd [.ro,.ro,.ro] [Ii op,knownD a,knownD b] (knownD (kbI op a b)) [] :=
 Zo8 ho ha hb▸impl_bitwise.fc0 op a b
def kdI (op:Int) (a b:Int×Int):Int×Int :=
 if op == 6 then kbI op a b else if op == 7 then kbI op a b else if op == 8 then kbI op a b else
 if op == 1 then knN (IntKind.i64.wrap (a.1+b.1) % 65536) (orI (orI a.2 b.2) (xorI (IntKind.i64.wrap (a.1+b.1) % 65536) (IntKind.i64.wrap (IntKind.i64.wrap (IntKind.i64.wrap (a.1+a.2)+b.1)+b.2) % 65536))) else
 if op == 2 then knN (IntKind.i64.wrap (a.1 - b.1) % 65536) (orI (orI a.2 b.2) (xorI (IntKind.i64.wrap (IntKind.i64.wrap (a.1 - b.1) % 65536+a.2) % 65536) (IntKind.i64.wrap (IntKind.i64.wrap (a.1 - b.1) % 65536 - b.2) % 65536))) else
 if op == 9 then (if b.2 == 0 then (doI op a.1 b.1,doI op a.2 b.1) else (0,65535)) else
 if op == 10 then (if b.2 == 0 then (doI op a.1 b.1,doI op a.2 b.1) else (0,65535)) else
 if a.2 == 0 then (if b.2 == 0 then (doI op a.1 b.1,0) else (0,65535)) else (0,65535)
theorem impl_doKnown.fc (op:Int) (a b:Int×Int) (ha:KOk a) (hb:KOk b):FCt prog Zca [.ro,.ro,.ro] [Ii op,knownD a,knownD b] (knownD (kdI op a b)) []:=by
 refine Zak impl_doKnown.ok rfl ?_
 have cb:=fun h=>impl_bitwise.fc (op:=op) h ha hb
 have hv:=hb.v.1
 clear ha hb
 unfold kdI orI xorI
 rcases (show (op=6∨op=7∨op=8)∨(¬ op=6∧¬ op=7∧¬ op=8) by omega) with h|h
 · have cb:=cb h
   rcases h with rfl|rfl|rfl<;>repeat' (first|with_reducible rfl|refine Zal (cb) rfl ?_|with_reducible refine Zah (fun _=>?_) (fun _=>?_)|refine Zaf (fun _=>?_) (fun _=>?_)|refine Zad (fun _=>?_) (fun _=>?_)|with_reducible refine Zab (fun _=>?_) (fun _=>?_)|with_reducible refine Zac (fun _=>?_) (fun _=>?_)|refine Zae (fun _=>?_) (fun _=>?_)|refine Zag (fun _=>?_) (fun _=>?_)|simp only [go_sem,bne,iQ,iB,iX,Int.reduceLE,iN,iA,iS,iM, *]|rfl)
 · have h6:(op == 6)=false:=by simpa using h.1
   have h7:(op == 7)=false:=by simpa using h.2.1
   have h8:(op == 8)=false:=by simpa using h.2.2
   clear cb h
   repeat' (first|with_reducible rfl|refine Zam (impl_WordOf.fc ..) ?_|refine Zal (impl_known.fc ..) rfl ?_|refine Zal (impl_unknown.fc) rfl ?_|refine Zam (impl_do.fc _ _ _ hv) ?_|refine Zal (impl_exact.fc ..) rfl ?_|with_reducible refine Zah (fun _=>?_) (fun _=>?_)|refine Zaf (fun _=>?_) (fun _=>?_)|refine Zad (fun _=>?_) (fun _=>?_)|with_reducible refine Zab (fun _=>?_) (fun _=>?_)|with_reducible refine Zac (fun _=>?_) (fun _=>?_)|refine Zae (fun _=>?_) (fun _=>?_)|refine Zag (fun _=>?_) (fun _=>?_)|simp only [go_sem,bne,iQ,iB,iX,Int.reduceLE,iN,iA,iS,iM, *]|rfl)
theorem spec_l10Do.fc (op:Int) (a b:Int×Int) (hb:KOk b):FCt prog ZcN [.ro,.ro,.ro] [Ii op,knownD a,knownD b] (knownD (kdI op a b)) []:=by
 refine Zak spec_l10Do.ok rfl ?_
 have hv:=hb.v.1
 clear hb
 unfold kdI orI xorI
 repeat' (first|with_reducible rfl|refine Zam (spec_l1Wrap.fc ..) ?_|refine Zal (spec_l10Bits.fc ..) rfl ?_|refine Zal (spec_l10Not.fc ..) rfl ?_|refine Zam (spec_l1Do.fc _ _ _ hv) ?_|with_reducible refine Zah (fun _=>?_) (fun _=>?_)|refine Zaf (fun _=>?_) (fun _=>?_)|refine Zad (fun _=>?_) (fun _=>?_)|with_reducible refine Zab (fun _=>?_) (fun _=>?_)|with_reducible refine Zac (fun _=>?_) (fun _=>?_)|refine Zae (fun _=>?_) (fun _=>?_)|refine Zag (fun _=>?_) (fun _=>?_)|simp only [go_sem,bne,iQ,iB,iX,Int.reduceLE,iN,iA,iS,iM, *]|rfl)
theorem slices_Clone__sStretch_Stretch.fc (l:List (Int×Int)) (hl:l.length≤4294967296):FCt prog Zay [.ro] [strs l] (strs l) []:=by
 refine Zak slices_Clone__sStretch_Stretch.ok rfl ?_
 have hsc:(l.map strD).all isSc=true:=by rw [List.all_eq_true];intro d hd;obtain ⟨x,_,rfl⟩:=List.mem_map.1 hd;rfl
 cases l with
 | nil=>simp only [go_sem,List.length_nil,List.map_nil,List.all_nil];try rfl
 | cons b l =>
  have hb:(l.length+1) * 16≤70368744177664:=by simp only [List.length_cons] at hl;omega
  have htk:(l.map strD).take l.length=l.map strD:=List.take_of_length_le (by simp)
  simp only [List.map_cons,List.all_cons,Bool.and_eq_true] at hsc
  have h1:=hsc.1
  have h2:=hsc.2
  simp only [go_sem,h1,h2,hb,Nat.zero_le,htk]
  try rfl
theorem slices_Clone__sKnown_Known.fc (l:List (Int×Int)) (hl:l.length≤4294967296):FCt prog ZaR [.ro] [knowns l] (knowns l) []:=by
 refine Zak slices_Clone__sKnown_Known.ok rfl ?_
 have hsc:(l.map knownD).all isSc=true:=by rw [List.all_eq_true];intro d hd;obtain ⟨x,_,rfl⟩:=List.mem_map.1 hd;rfl
 cases l with
 | nil=>simp only [go_sem,List.length_nil,List.map_nil,List.all_nil];try rfl
 | cons b l =>
  have hb:(l.length+1) * 16≤70368744177664:=by simp only [List.length_cons] at hl;omega
  have htk:(l.map knownD).take l.length=l.map knownD:=List.take_of_length_le (by simp)
  simp only [List.map_cons,List.all_cons,Bool.and_eq_true] at hsc
  have h1:=hsc.1
  have h2:=hsc.2
  simp only [go_sem,h1,h2,hb,Nat.zero_le,htk]
  try rfl
structure MLen (m:MayD):Prop where
 reg:m.reg.length=6
 bits:m.bits.length=6
 cell:m.cell.length=16
 isset:m.isset.length=16
theorem MayOk.len {m:MayD} (h:MayOk m):MLen m:=⟨h.reg,h.bits,h.cell,h.isset⟩
theorem impl_May_own.fc (m:MayD) (h:MLen m):FCt prog Zbh [.ro] [m.d] m.d []:=by
 refine Zak impl_May_own.ok rfl ?_
 obtain ⟨h1,h2,h3,h4⟩:=h
 simp only [go_sem]
 refine Zal (slices_Clone__sStretch_Stretch.fc m.reg (by omega)) ZdQ ?_
 simp only [go_sem]
 refine Zal (slices_Clone__sKnown_Known.fc m.bits (by omega)) ZfU ?_
 simp only [go_sem]
 refine Zal (slices_Clone__sStretch_Stretch.fc m.cell (by omega)) ZdQ ?_
 simp only [go_sem]
 refine Zal (slices_Clone__sbool_bool.fc1 m.isset (by omega) (by omega)) ZcC ?_
 simp only [go_sem,Zaa]
def joinM (a b:MayD):MayD:={ reg:=List.zipWith joinS a.reg b.reg,bits:=List.zipWith joinK a.bits b.bits,cell:=List.zipWith joinS a.cell b.cell,isset:=List.zipWith (·&&·) a.isset b.isset }
theorem ZeF {a b:MayD} (ha:MLen a) (hb:MLen b):MLen (joinM a b):=by
 obtain ⟨h1,h2,h3,h4⟩:=ha
 obtain ⟨g1,g2,g3,g4⟩:=hb
 constructor<;>simp [joinM, *]
section
variable {α:Type} {A B:List α} {k:Nat} {f:α→D}
theorem ZfB {x:α} (h:A.length=B.length) (hk:k < B.length) (hx:A[k]? = some x):((ovr A B k).map f).set k (f x)=(ovr A B (k+1)).map f:=by rw [← List.map_set,ZpY h hk hx]
theorem Zkn (h:A.length=B.length) (hk:k < B.length):(ovr A B k)[k]? = some B[k]:=by rw [ZpJ h hk];exact List.getElem?_eq_getElem hk
end
theorem Zhl {α β γ:Type} {g:α→β→γ} {l:List α} {r:List β} {k:Nat} {x:α} {y:β} (h1:l[k]? = some x) (h2:r[k]? = some y):(List.zipWith g l r)[k]? = some (g x y):=by
 rw [List.getElem?_zipWith,h1,h2]
theorem impl_joined.fc (a b:MayD) (ha:MLen a) (hb:MLen b):FCt prog Zdm [.ro,.ro] [a.d,b.d] (joinM a b).d []:=by
 refine Zak impl_joined.ok rfl ?_
 simp only [go_sem]
 refine Zal (impl_May_own.fc a ha) Zar ?_
 have hJ:=ZeF ha hb
 generalize hj:joinM a b=J at hJ ⊢
 have e1:List.zipWith joinS a.reg b.reg=J.reg:=by rw [← hj];rfl
 have e2:List.zipWith joinK a.bits b.bits=J.bits:=by rw [← hj];rfl
 have e3:List.zipWith joinS a.cell b.cell=J.cell:=by rw [← hj];rfl
 have e4:List.zipWith (·&&·) a.isset b.isset=J.isset:=by rw [← hj];rfl
 clear hj
 obtain ⟨r1,r2,r3,r4⟩:=J
 obtain ⟨h1,h2,h3,h4⟩:=ha
 obtain ⟨g1,g2,g3,g4⟩:=hb
 obtain ⟨j1,j2,j3,j4⟩:=hJ
 dsimp only at j1 j2 j3 j4 e1 e2 e3 e4
 have c6:((6:Nat):Int)=6:=rfl
 have c16:((16:Nat):Int)=16:=rfl
 simp only [go_sem,h1,h2,h3,h4,c6]
 refine ZaI (α:=Nat) (fun k s' M'=>k≤6∧s' 13=aI k∧M'.m 64=some (.box 0 (.dat none a.d))∧M'.m 128=some (.box 64 (.dat none b.d))∧M'.m 192=some (.box 128 (.agg [.nil 2,.nil 2,.nil 2,.nil 1])) ∧
  M'.m 384=some (.box 320 (.agg [.sl 320 256 0 6 2,.sl 321 257 0 6 2,.sl 322 258 0 16 2,.sl 323 259 0 16 1])) ∧
  M'.m 320=some (.arr 256 true 2 ((ovr r1 a.reg k).map strD))∧M'.m 321=some (.arr 257 true 2 ((ovr r2 a.bits k).map knownD))∧M'.m 322=some (.arr 258 true 2 (a.cell.map strD))∧M'.m 323=some (.arr 259 true 1 (a.isset.map Bb))) (fun k=>6 - k) 0
  ⟨by omega,by simp only [go_sem];rfl,by simp only [go_sem],by simp only [go_sem],by simp only [go_sem],by simp only [go_sem],by simp only [go_sem,Zfp],by simp only [go_sem,Zfp],by simp only [go_sem],by simp only [go_sem]⟩ ?_
 rintro k s' M' ⟨hk,h13,m1,m2,m3,m4,m5,m6,m7,m8⟩ ho
 unfold impl_joined.b0
 have q2:s' 2=.ptr 64 0 0 none:=by rw [ho 2 rfl];simp only [go_sem]
 have q3:s' 3=.ptr 128 64 0 none:=by rw [ho 3 rfl];simp only [go_sem]
 have q4:s' 4=.ptr 192 128 0 none:=by rw [ho 4 rfl];simp only [go_sem]
 have q5:s' 5=.ptr 384 320 0 none:=by rw [ho 5 rfl];simp only [go_sem]
 have q12:s' 12=aI 6:=by rw [ho 12 rfl];simp only [go_sem]
 clear ho
 by_cases hlt:k < 6
 · have hi':(k:Int) < 6:=by omega
   have hw:IntKind.i64.wrap (k+1)=((k+1:Nat):Int):=by rw [Zaj (by omega) (by omega)];omega
   have y1:a.reg[k]? = some a.reg[k]:=List.getElem?_eq_getElem (by omega)
   have y2:b.reg[k]? = some b.reg[k]:=List.getElem?_eq_getElem (by omega)
   have y3:a.bits[k]? = some a.bits[k]:=List.getElem?_eq_getElem (by omega)
   have y4:b.bits[k]? = some b.bits[k]:=List.getElem?_eq_getElem (by omega)
   have z1:=Zkn (A:=r1) (B:=a.reg) (k:=k) (by omega) (by omega)
   have z2:=Zkn (A:=r2) (B:=a.bits) (k:=k) (by omega) (by omega)
   have u1:=ZfB (f:=strD) (A:=r1) (B:=a.reg) (k:=k) (by omega) (by omega) (by rw [← e1];exact Zhl y1 y2)
   have u2:=ZfB (f:=knownD) (A:=r2) (B:=a.bits) (k:=k) (by omega) (by omega) (by rw [← e2];exact Zhl y3 y4)
   simp only [go_sem,q2,q3,q4,q5,q12,h13,m1,m2,m3,m4,m5,m6,m7,m8,hi',h1,h2,h3,h4,g1,g2,g3,g4,y1,y2,y3,y4,z1,z2,c6,c16]
   refine Zal (impl_joinStretch.fc a.reg[k] b.reg[k]) rfl ?_
   simp only [go_sem,q2,q3,q4,q5,q12,h13,m1,m2,m3,m4,m5,m6,m7,m8,hi',h1,h2,h3,h4,g1,g2,g3,g4,y1,y2,y3,y4,z1,z2,c6,c16]
   refine Zal (impl_joinKnown.fc a.bits[k] b.bits[k]) rfl ?_
   simp only [go_sem,u1,u2,hw,q2,q3,q4,q5,q12,h13,m1,m2,m3,m4,m5,m6,m7,m8,hi',h1,h2,h3,h4,g1,g2,g3,g4,y1,y2,y3,y4,z1,z2,c6,c16]
   exact ⟨k+1,by dsimp only;omega,by omega,by simp only [go_sem,q2,q3,q4,q5,q12,h13,m1,m2,m3,m4,m5,m6,m7,m8,hi',h1,h2,h3,h4,g1,g2,g3,g4,y1,y2,y3,y4,z1,z2,c6,c16],by simp only [go_sem,q2,q3,q4,q5,q12,h13,m1,m2,m3,m4,m5,m6,m7,m8,hi',h1,h2,h3,h4,g1,g2,g3,g4,y1,y2,y3,y4,z1,z2,c6,c16],by simp only [go_sem,q2,q3,q4,q5,q12,h13,m1,m2,m3,m4,m5,m6,m7,m8,hi',h1,h2,h3,h4,g1,g2,g3,g4,y1,y2,y3,y4,z1,z2,c6,c16],by simp only [go_sem,q2,q3,q4,q5,q12,h13,m1,m2,m3,m4,m5,m6,m7,m8,hi',h1,h2,h3,h4,g1,g2,g3,g4,y1,y2,y3,y4,z1,z2,c6,c16],by simp only [go_sem,q2,q3,q4,q5,q12,h13,m1,m2,m3,m4,m5,m6,m7,m8,hi',h1,h2,h3,h4,g1,g2,g3,g4,y1,y2,y3,y4,z1,z2,c6,c16],by simp only [go_sem,u1,q2,q3,q4,q5,q12,h13,m1,m2,m3,m4,m5,m6,m7,m8,hi',h1,h2,h3,h4,g1,g2,g3,g4,y1,y2,y3,y4,z1,z2,c6,c16],by simp only [go_sem,u2,q2,q3,q4,q5,q12,h13,m1,m2,m3,m4,m5,m6,m7,m8,hi',h1,h2,h3,h4,g1,g2,g3,g4,y1,y2,y3,y4,z1,z2,c6,c16],by simp only [go_sem,q2,q3,q4,q5,q12,h13,m1,m2,m3,m4,m5,m6,m7,m8,hi',h1,h2,h3,h4,g1,g2,g3,g4,y1,y2,y3,y4,z1,z2,c6,c16],by simp only [go_sem,q2,q3,q4,q5,q12,h13,m1,m2,m3,m4,m5,m6,m7,m8,hi',h1,h2,h3,h4,g1,g2,g3,g4,y1,y2,y3,y4,z1,z2,c6,c16]⟩
 obtain rfl:k=6:=by omega
 have v1:ovr r1 a.reg 6=r1:=by have:=Zhm (A:=r1) (B:=a.reg) (by omega);rwa [h1] at this
 have v2:ovr r2 a.bits 6=r2:=by have:=Zhm (A:=r2) (B:=a.bits) (by omega);rwa [h2] at this
 rw [v1] at m5
 rw [v2] at m6
 simp only [go_sem,c6,c16,Int.lt_irrefl,q2,q3,q4,q5,q12,h13,m1,m2,m3,m4,m5,m6,m7,m8]
 refine ZaI (α:=Nat) (fun k s' M'=>k≤16∧s' 50=aI k∧M'.m 64=some (.box 0 (.dat none a.d))∧M'.m 128=some (.box 64 (.dat none b.d))∧M'.m 192=some (.box 128 (.agg [.nil 2,.nil 2,.nil 2,.nil 1])) ∧
  M'.m 384=some (.box 320 (.agg [.sl 320 256 0 6 2,.sl 321 257 0 6 2,.sl 322 258 0 16 2,.sl 323 259 0 16 1])) ∧
  M'.m 320=some (.arr 256 true 2 (r1.map strD))∧M'.m 321=some (.arr 257 true 2 (r2.map knownD))∧M'.m 322=some (.arr 258 true 2 ((ovr r3 a.cell k).map strD))∧M'.m 323=some (.arr 259 true 1 ((ovr r4 a.isset k).map Bb))) (fun k=>16 - k) 0
  ⟨by omega,by simp only [go_sem,q2,q3,q4,q5,q12,h13,m1,m2,m3,m4,m5,m6,m7,m8];rfl,by simp only [go_sem,q2,q3,q4,q5,q12,h13,m1,m2,m3,m4,m5,m6,m7,m8],by simp only [go_sem,q2,q3,q4,q5,q12,h13,m1,m2,m3,m4,m5,m6,m7,m8],by simp only [go_sem,q2,q3,q4,q5,q12,h13,m1,m2,m3,m4,m5,m6,m7,m8],by simp only [go_sem,q2,q3,q4,q5,q12,h13,m1,m2,m3,m4,m5,m6,m7,m8],by simp only [go_sem,q2,q3,q4,q5,q12,h13,m1,m2,m3,m4,m5,m6,m7,m8],by simp only [go_sem,q2,q3,q4,q5,q12,h13,m1,m2,m3,m4,m5,m6,m7,m8],by simp only [go_sem,Zfp,q2,q3,q4,q5,q12,h13,m1,m2,m3,m4,m5,m6,m7,m8],by simp only [go_sem,Zfp,q2,q3,q4,q5,q12,h13,m1,m2,m3,m4,m5,m6,m7,m8]⟩ ?_
 clear m1 m2 m3 m4 m5 m6 m7 m8
 rintro k s2 M2 ⟨hk,h50,m1,m2,m3,m4,m5,m6,m7,m8⟩ ho
 unfold impl_joined.b1
 have o2:s2 2=.ptr 64 0 0 none:=by rw [ho 2 rfl];simp only [go_sem,q2,q3,q4,q5,q12,h13,m1,m2,m3,m4,m5,m6,m7,m8]
 have o3:s2 3=.ptr 128 64 0 none:=by rw [ho 3 rfl];simp only [go_sem,q2,q3,q4,q5,q12,h13,m1,m2,m3,m4,m5,m6,m7,m8]
 have o4:s2 4=.ptr 192 128 0 none:=by rw [ho 4 rfl];simp only [go_sem,q2,q3,q4,q5,q12,h13,m1,m2,m3,m4,m5,m6,m7,m8]
 have o5:s2 5=.ptr 384 320 0 none:=by rw [ho 5 rfl];simp only [go_sem,q2,q3,q4,q5,q12,h13,m1,m2,m3,m4,m5,m6,m7,m8]
 have o49:s2 49=aI 16:=by rw [ho 49 rfl];simp only [go_sem,q2,q3,q4,q5,q12,h13,m1,m2,m3,m4,m5,m6,m7,m8]
 clear ho
 by_cases hlt:k < 16
 · have hi':(k:Int) < 16:=by omega
   have hw:IntKind.i64.wrap (k+1)=((k+1:Nat):Int):=by rw [Zaj (by omega) (by omega)];omega
   have y1:a.cell[k]? = some a.cell[k]:=List.getElem?_eq_getElem (by omega)
   have y2:b.cell[k]? = some b.cell[k]:=List.getElem?_eq_getElem (by omega)
   have y3:a.isset[k]? = some a.isset[k]:=List.getElem?_eq_getElem (by omega)
   have y4:b.isset[k]? = some b.isset[k]:=List.getElem?_eq_getElem (by omega)
   have z1:=Zkn (A:=r3) (B:=a.cell) (k:=k) (by omega) (by omega)
   have z2:=Zkn (A:=r4) (B:=a.isset) (k:=k) (by omega) (by omega)
   have u1:=ZfB (f:=strD) (A:=r3) (B:=a.cell) (k:=k) (by omega) (by omega) (by rw [← e3];exact Zhl y1 y2)
   have u2:=ZfB (f:=Bb) (A:=r4) (B:=a.isset) (k:=k) (by omega) (by omega) (by rw [← e4];exact Zhl y3 y4)
   simp only [go_sem,q2,q3,q4,q5,q12,h13,m1,m2,m3,m4,m5,m6,m7,m8,o2,o3,o4,o5,o49,h50,m1,m2,m3,m4,m5,m6,m7,m8,hi',h1,h2,h3,h4,g1,g2,g3,g4,y1,y2,y3,y4,z1,z2,c6,c16]
   refine Zal (impl_joinStretch.fc a.cell[k] b.cell[k]) rfl ?_
   cases hs:a.isset[k] with
   | false =>
    rw [hs,Bool.false_and] at u2
    simp only [go_sem,hs,u1,u2,hw,q2,q3,q4,q5,q12,h13,m1,m2,m3,m4,m5,m6,m7,m8,o2,o3,o4,o5,o49,h50,m1,m2,m3,m4,m5,m6,m7,m8,hi',h1,h2,h3,h4,g1,g2,g3,g4,y1,y2,y3,y4,z1,z2,c6,c16]
    exact ⟨k+1,by dsimp only;omega,by omega,by simp only [go_sem,q2,q3,q4,q5,q12,h13,m1,m2,m3,m4,m5,m6,m7,m8,o2,o3,o4,o5,o49,h50,m1,m2,m3,m4,m5,m6,m7,m8,hi',h1,h2,h3,h4,g1,g2,g3,g4,y1,y2,y3,y4,z1,z2,c6,c16],by simp only [go_sem,q2,q3,q4,q5,q12,h13,m1,m2,m3,m4,m5,m6,m7,m8,o2,o3,o4,o5,o49,h50,m1,m2,m3,m4,m5,m6,m7,m8,hi',h1,h2,h3,h4,g1,g2,g3,g4,y1,y2,y3,y4,z1,z2,c6,c16],by simp only [go_sem,q2,q3,q4,q5,q12,h13,m1,m2,m3,m4,m5,m6,m7,m8,o2,o3,o4,o5,o49,h50,m1,m2,m3,m4,m5,m6,m7,m8,hi',h1,h2,h3,h4,g1,g2,g3,g4,y1,y2,y3,y4,z1,z2,c6,c16],by simp only [go_sem,q2,q3,q4,q5,q12,h13,m1,m2,m3,m4,m5,m6,m7,m8,o2,o3,o4,o5,o49,h50,m1,m2,m3,m4,m5,m6,m7,m8,hi',h1,h2,h3,h4,g1,g2,g3,g4,y1,y2,y3,y4,z1,z2,c6,c16],by simp only [go_sem,q2,q3,q4,q5,q12,h13,m1,m2,m3,m4,m5,m6,m7,m8,o2,o3,o4,o5,o49,h50,m1,m2,m3,m4,m5,m6,m7,m8,hi',h1,h2,h3,h4,g1,g2,g3,g4,y1,y2,y3,y4,z1,z2,c6,c16],by simp only [go_sem,q2,q3,q4,q5,q12,h13,m1,m2,m3,m4,m5,m6,m7,m8,o2,o3,o4,o5,o49,h50,m1,m2,m3,m4,m5,m6,m7,m8,hi',h1,h2,h3,h4,g1,g2,g3,g4,y1,y2,y3,y4,z1,z2,c6,c16],by simp only [go_sem,q2,q3,q4,q5,q12,h13,m1,m2,m3,m4,m5,m6,m7,m8,o2,o3,o4,o5,o49,h50,m1,m2,m3,m4,m5,m6,m7,m8,hi',h1,h2,h3,h4,g1,g2,g3,g4,y1,y2,y3,y4,z1,z2,c6,c16],by simp only [go_sem,u1,q2,q3,q4,q5,q12,h13,m1,m2,m3,m4,m5,m6,m7,m8,o2,o3,o4,o5,o49,h50,m1,m2,m3,m4,m5,m6,m7,m8,hi',h1,h2,h3,h4,g1,g2,g3,g4,y1,y2,y3,y4,z1,z2,c6,c16],by simp only [go_sem,u2,q2,q3,q4,q5,q12,h13,m1,m2,m3,m4,m5,m6,m7,m8,o2,o3,o4,o5,o49,h50,m1,m2,m3,m4,m5,m6,m7,m8,hi',h1,h2,h3,h4,g1,g2,g3,g4,y1,y2,y3,y4,z1,z2,c6,c16]⟩
   | true =>
    rw [hs,Bool.true_and] at u2
    simp only [go_sem,hs,u1,u2,hw,q2,q3,q4,q5,q12,h13,m1,m2,m3,m4,m5,m6,m7,m8,o2,o3,o4,o5,o49,h50,m1,m2,m3,m4,m5,m6,m7,m8,hi',h1,h2,h3,h4,g1,g2,g3,g4,y1,y2,y3,y4,z1,z2,c6,c16]
    exact ⟨k+1,by dsimp only;omega,by omega,by simp only [go_sem,q2,q3,q4,q5,q12,h13,m1,m2,m3,m4,m5,m6,m7,m8,o2,o3,o4,o5,o49,h50,m1,m2,m3,m4,m5,m6,m7,m8,hi',h1,h2,h3,h4,g1,g2,g3,g4,y1,y2,y3,y4,z1,z2,c6,c16],by simp only [go_sem,q2,q3,q4,q5,q12,h13,m1,m2,m3,m4,m5,m6,m7,m8,o2,o3,o4,o5,o49,h50,m1,m2,m3,m4,m5,m6,m7,m8,hi',h1,h2,h3,h4,g1,g2,g3,g4,y1,y2,y3,y4,z1,z2,c6,c16],by simp only [go_sem,q2,q3,q4,q5,q12,h13,m1,m2,m3,m4,m5,m6,m7,m8,o2,o3,o4,o5,o49,h50,m1,m2,m3,m4,m5,m6,m7,m8,hi',h1,h2,h3,h4,g1,g2,g3,g4,y1,y2,y3,y4,z1,z2,c6,c16],by simp only [go_sem,q2,q3,q4,q5,q12,h13,m1,m2,m3,m4,m5,m6,m7,m8,o2,o3,o4,o5,o49,h50,m1,m2,m3,m4,m5,m6,m7,m8,hi',h1,h2,h3,h4,g1,g2,g3,g4,y1,y2,y3,y4,z1,z2,c6,c16],by simp only [go_sem,q2,q3,q4,q5,q12,h13,m1,m2,m3,m4,m5,m6,m7,m8,o2,o3,o4,o5,o49,h50,m1,m2,m3,m4,m5,m6,m7,m8,hi',h1,h2,h3,h4,g1,g2,g3,g4,y1,y2,y3,y4,z1,z2,c6,c16],by simp only [go_sem,q2,q3,q4,q5,q12,h13,m1,m2,m3,m4,m5,m6,m7,m8,o2,o3,o4,o5,o49,h50,m1,m2,m3,m4,m5,m6,m7,m8,hi',h1,h2,h3,h4,g1,g2,g3,g4,y1,y2,y3,y4,z1,z2,c6,c16],by simp only [go_sem,q2,q3,q4,q5,q12,h13,m1,m2,m3,m4,m5,m6,m7,m8,o2,o3,o4,o5,o49,h50,m1,m2,m3,m4,m5,m6,m7,m8,hi',h1,h2,h3,h4,g1,g2,g3,g4,y1,y2,y3,y4,z1,z2,c6,c16],by simp only [go_sem,u1,q2,q3,q4,q5,q12,h13,m1,m2,m3,m4,m5,m6,m7,m8,o2,o3,o4,o5,o49,h50,m1,m2,m3,m4,m5,m6,m7,m8,hi',h1,h2,h3,h4,g1,g2,g3,g4,y1,y2,y3,y4,z1,z2,c6,c16],by simp only [go_sem,u2,q2,q3,q4,q5,q12,h13,m1,m2,m3,m4,m5,m6,m7,m8,o2,o3,o4,o5,o49,h50,m1,m2,m3,m4,m5,m6,m7,m8,hi',h1,h2,h3,h4,g1,g2,g3,g4,y1,y2,y3,y4,z1,z2,c6,c16]⟩
 obtain rfl:k=16:=by omega
 have v1:ovr r3 a.cell 16=r3:=by have:=Zhm (A:=r3) (B:=a.cell) (by omega);rwa [h3] at this
 have v2:ovr r4 a.isset 16=r4:=by have:=Zhm (A:=r4) (B:=a.isset) (by omega);rwa [h4] at this
 rw [v1] at m7
 rw [v2] at m8
 have k1:(r1.map strD).take 6=r1.map strD:=List.take_of_length_le (by simp;omega)
 have k2:(r2.map knownD).take 6=r2.map knownD:=List.take_of_length_le (by simp;omega)
 have k3:(r3.map strD).take 16=r3.map strD:=List.take_of_length_le (by simp;omega)
 have k4:(r4.map Bb).take 16=r4.map Bb:=List.take_of_length_le (by simp;omega)
 simp only [go_sem,c16,Int.lt_irrefl,j1,j2,j3,j4,k1,k2,k3,k4,q2,q3,q4,q5,q12,h13,m1,m2,m3,m4,m5,m6,m7,m8,o2,o3,o4,o5,o49,h50,m1,m2,m3,m4,m5,m6,m7,m8]
def zeroM:MayD:=⟨[],[],[],[]⟩
structure StepD where
 kind:Int
 op:Int
 dst:Int
 src:Int
 imm:Int
 to:Int
 deriving DecidableEq
abbrev StepD.d (x:StepD):D:=.agg [Ii x.kind,Ii x.op,Ii x.dst,Ii x.src,Ii x.imm,Ii x.to]
abbrev steps (l:List StepD):D:=.sl 6 (l.map StepD.d)
theorem spec_l2Reg.fc (n:Int):FCt prog ZcM [.ro] [Ii n] (Bb (inB n 0 5)) []:=by
 refine Zak spec_l2Reg.ok rfl ?_
 repeat' (first|with_reducible rfl|refine Zap (spec_l1In.fc ..) ?_|with_reducible refine Zah (fun _=>?_) (fun _=>?_)|refine Zaf (fun _=>?_) (fun _=>?_)|refine Zad (fun _=>?_) (fun _=>?_)|with_reducible refine Zab (fun _=>?_) (fun _=>?_)|with_reducible refine Zac (fun _=>?_) (fun _=>?_)|refine Zae (fun _=>?_) (fun _=>?_)|refine Zag (fun _=>?_) (fun _=>?_)|simp only [go_sem,bne,iQ,iB,iX,Int.reduceLE,iN,iA,iS,iM, *]|rfl)
def zeroB (s:StepD) (op dst src imm to:Bool):Bool:=(op||s.op == 0)&&(dst||s.dst == 0)&&(src||s.src == 0)&&(imm||s.imm == 0)&&(to||s.to == 0)
theorem spec_l2Zero.fc (s:StepD) (op dst src imm to:Bool):FCt prog ZaH [.ro,.ro,.ro,.ro,.ro,.ro] [s.d,Bb op,Bb dst,Bb src,Bb imm,Bb to] (Bb (zeroB s op dst src imm to)) []:=by
 refine Zak spec_l2Zero.ok rfl ?_
 unfold zeroB
 repeat' (first|with_reducible rfl|with_reducible refine Zah (fun _=>?_) (fun _=>?_)|refine Zaf (fun _=>?_) (fun _=>?_)|refine Zad (fun _=>?_) (fun _=>?_)|with_reducible refine Zab (fun _=>?_) (fun _=>?_)|with_reducible refine Zac (fun _=>?_) (fun _=>?_)|refine Zae (fun _=>?_) (fun _=>?_)|refine Zag (fun _=>?_) (fun _=>?_)|simp only [go_sem,bne,iQ,iB,iX,Int.reduceLE,iN,iA,iS,iM, *]|rfl)
def stepB (s:StepD):Bool :=
 if !inB s.dst 0 5 then false else if !inB s.src 0 5 then false else
 if s.kind == 1 then inB s.op 1 10&&zeroB s true true true false false else
 if s.kind == 2 then inB s.op 1 10&&inB s.imm 0 255&&zeroB s true true false true false else
 if s.kind == 3 then inB s.imm 0 255&&zeroB s false true false true false else
 if s.kind == 4 then inB s.imm 256 65535&&zeroB s false true false true false else
 if s.kind == 5 then inB s.imm 0 7&&zeroB s false true true true false else
 if s.kind == 6 then inB s.imm 0 255&&zeroB s false true false true false else
 if s.kind == 7 then inB s.imm 0 255&&zeroB s false true false true false else
 if s.kind == 8 then inB s.to 1 19&&zeroB s false false false false true else
 if s.kind == 9 then inB s.to 1 19&&zeroB s false true true false true else
 if s.kind == 10 then inB s.to 1 19&&zeroB s false true true false true else
 (s.kind == 11)&&zeroB s false false false false false
theorem spec_l2Step.fc (s:StepD):FCt prog Zdn [.ro] [s.d] (Bb (stepB s)) []:=by
 refine Zak spec_l2Step.ok rfl ?_
 unfold stepB
 repeat' (first|with_reducible rfl|refine Zap (spec_l1In.fc ..) ?_|refine Zap (spec_l2Reg.fc ..) ?_|refine Zap (spec_l2Zero.fc ..) ?_|with_reducible refine Zah (fun _=>?_) (fun _=>?_)|refine Zaf (fun _=>?_) (fun _=>?_)|refine Zad (fun _=>?_) (fun _=>?_)|with_reducible refine Zab (fun _=>?_) (fun _=>?_)|with_reducible refine Zac (fun _=>?_) (fun _=>?_)|refine Zae (fun _=>?_) (fun _=>?_)|refine Zag (fun _=>?_) (fun _=>?_)|simp only [go_sem,bne,iQ,iB,iX,Int.reduceLE,iN,iA,iS,iM, *]|rfl)
def fldL (k:Int):List UInt8 :=
 if k == 1 then [111,100,115] else if k == 2 then [111,100,105] else if k == 3 then [100,105] else if k == 4 then [100,105] else if k == 6 then [100,105] else if k == 7 then [100,105] else
 if k == 5 then [100,115,105] else if k == 8 then [116] else if k == 9 then [100,115,116] else if k == 10 then [100,115,116] else []
def strL (l:List UInt8):ByteArray:=⟨l.toArray⟩
theorem impl_fields.fc (k:Int):FCt prog ZcA [.ro] [Ii k] (.str (strL (fldL k))) []:=by
 refine Zak impl_fields.ok rfl ?_
 unfold fldL
 repeat' (first|with_reducible rfl|with_reducible refine Zah (fun _=>?_) (fun _=>?_)|refine Zaf (fun _=>?_) (fun _=>?_)|refine Zad (fun _=>?_) (fun _=>?_)|with_reducible refine Zab (fun _=>?_) (fun _=>?_)|with_reducible refine Zac (fun _=>?_) (fun _=>?_)|refine Zae (fun _=>?_) (fun _=>?_)|refine Zag (fun _=>?_) (fun _=>?_)|simp only [go_sem,bne,iQ,iB,iX,Int.reduceLE,iN,iA,iS,iM, *]|rfl)
 all_goals rfl
def rgF (k:Int) (c:Int):Int×Int :=
 if c == 111 then (1,10) else if c == 100 then (0,5) else if c == 115 then (0,5) else if c == 116 then (1,19) else
 if k == 4 then (256,65535) else if k == 5 then (0,7) else (0,255)
theorem impl_Step_ranges.fc (s:StepD) (c:Int):FCt prog ZbT [.ro,.ro] [s.d,.int .u8 c] (.tup [Ii (rgF s.kind c).1,Ii (rgF s.kind c).2]) []:=by
 refine Zak impl_Step_ranges.ok rfl ?_
 unfold rgF
 repeat' (first|with_reducible rfl|with_reducible refine Zah (fun _=>?_) (fun _=>?_)|refine Zaf (fun _=>?_) (fun _=>?_)|refine Zad (fun _=>?_) (fun _=>?_)|with_reducible refine Zab (fun _=>?_) (fun _=>?_)|with_reducible refine Zac (fun _=>?_) (fun _=>?_)|refine Zae (fun _=>?_) (fun _=>?_)|refine Zag (fun _=>?_) (fun _=>?_)|simp only [go_sem,bne,iQ,iB,iX,Int.reduceLE,iN,iA,iS,iM, *]|rfl)
theorem Zcf {c:Int} {j:Nat} (h:c=111∧j=1∨c=100∧j=2∨c=115∧j=3∨c=105∧j=4∨c=116∧j=5):PCt prog ZbX (.int .u8 c) j:=by
 refine ⟨by kernel_rfl,?_⟩
 intro X w a v hv
 simp only [TV] at hv
 obtain ⟨rfl,_⟩:=hv
 rcases h with ⟨rfl,rfl⟩|⟨rfl,rfl⟩|⟨rfl,rfl⟩|⟨rfl,rfl⟩|⟨rfl,rfl⟩ <;>
 · go_enter Go.Proofs.Tryz.func197,Go.Proofs.Tryz.ntmps197
   go_wp2
   go_ret
   exact ⟨rfl,rfl⟩
def getF (s:StepD) (c:UInt8):Int:=if c=111 then s.op else if c=100 then s.dst else if c=115 then s.src else if c=105 then s.imm else s.to
def clrF (s:StepD) (c:UInt8):StepD:=if c=111 then { s with op:=0 } else if c=100 then { s with dst:=0 } else if c=115 then { s with src:=0 } else if c=105 then { s with imm:=0 } else { s with to:=0 }
def okF (s:StepD) (c:UInt8):Bool:=inB (getF s c) (rgF s.kind c.toNat).1 (rgF s.kind c.toNat).2
def restF (s:StepD) (l:List UInt8):StepD:=l.foldl clrF { s with kind:=0 }
def validB (s:StepD):Bool:=(fldL s.kind).all (okF s)&&(inB s.kind 1 11&&(restF s (fldL s.kind) == ⟨0,0,0,0,0,0⟩))
theorem Znx (k:Int):(fldL k).length≤3:=by
 unfold fldL;repeat' (split<;>try decide)
theorem ZnG {k:Int} {c:UInt8} (h:c∈fldL k):c=111∨c=100∨c=115∨c=105∨c=116:=by
 have:(fldL k).all (fun c=>c == 111||c == 100||c == 115||c == 105||c == 116)=true:=by
  unfold fldL;repeat' split
  all_goals rfl
 have:=List.all_eq_true.1 this c h
 simp only [Bool.or_eq_true,beq_iff_eq] at this
 rcases this with (((h|h)|h)|h)|h<;>simp [h]
theorem ZmF {s:StepD} {i:Nat} (h:i < (fldL s.kind).length) (h2:okF s (fldL s.kind)[i]=false):validB s=false:=by
 unfold validB;rw [ZmH h h2];rfl
theorem Zmg {s:StepD} {l:List UInt8} {i:Nat} (h:i < l.length):restF s (l.take (i+1))=clrF (restF s (l.take i)) l[i]:=by
 unfold restF;rw [Zbg h,List.foldl_append];rfl
theorem impl_Step_valid.fc (s:StepD):FCt prog Zb2 [.ro] [s.d] (Bb (validB s)) []:=by
 refine Zak impl_Step_valid.ok rfl ?_
 simp only [go_sem]
 refine Zmr (impl_fields.fc s.kind) ?_
 have hln:=Znx s.kind
 have hsz:(strL (fldL s.kind)).size=(fldL s.kind).length:=rfl
 simp only [go_sem,hsz]
 refine ZaI (α:=Nat) (fun i s' M'=>i≤(fldL s.kind).length∧s' 14=aI i∧((fldL s.kind).take i).all (okF s)=true∧M'.m 64=some (.box 0 (.dat none s.d)) ∧
  ∃ r,restF s ((fldL s.kind).take i)=r∧M'.m 256=some (.box 192 (.agg [aI r.kind,aI r.op,aI r.dst,aI r.src,aI r.imm,aI r.to]))) (fun i=>(fldL s.kind).length - i) 0
  ⟨by omega,by simp only [go_sem];rfl,by simp,by simp only [go_sem],{ s with kind:=0 },by simp [restF],by simp only [go_sem]⟩ ?_
 rintro i s' M' ⟨hi,h14,hall,m1,r,hr,m2⟩ ho
 unfold impl_Step_valid.b0
 have k1:s' 1=.ptr 64 0 0 none:=by rw [ho 1 rfl];simp only [go_sem]
 have k3:s' 3=.ptr 256 192 0 none:=by rw [ho 3 rfl];simp only [go_sem]
 have k13:s' 13=aI (fldL s.kind).length:=by rw [ho 13 rfl];simp only [go_sem]
 clear ho
 by_cases hlt:i < (fldL s.kind).length
 · have hi':(i:Int) < (fldL s.kind).length:=by omega
   have hw:IntKind.i64.wrap (i+1)=((i+1:Nat):Int):=by rw [Zaj (by omega) (by omega)];omega
   have hbd:0≤(i:Int)∧(i:Int) < (strL (fldL s.kind)).size:=⟨by omega,by rw [hsz];omega⟩
   have hgt:∀ h,(strL (fldL s.kind))[i]'h=(fldL s.kind)[i]:=fun _=>rfl
   have hmem:=ZnG (List.getElem_mem hlt)
   have hnot:=ZmF hlt
   have hst:=Zmg (s:=s) hlt
   rw [hr] at hst
   have hall':okF s (fldL s.kind)[i]=true→((fldL s.kind).take (i+1)).all (okF s)=true:=fun h=>ZeL hlt hall h
   simp only [go_sem,hi',k1,k3,k13,h14,m1,m2]
   refine Zmr (impl_fields.fc s.kind) ?_
   simp only [go_sem,hbd,hgt,↓reduceDIte,k1,k3,k13,h14,m1,m2]
   generalize (fldL s.kind)[i]=c at hmem hnot hst hall' ⊢
   refine Zal (impl_Step_ranges.fc s c.toNat) rfl ?_
   simp only [go_sem,k1,k3,k13,h14,m1,m2]
   unfold okF at hnot hall'
   rcases hmem with rfl|rfl|rfl|rfl|rfl
   · refine Zeb (Zcf (j:=1) (.inl ⟨rfl,rfl⟩)) ?_
     simp only [go_sem,k1,k3,k13,h14,m1,m2]
     refine Zap (impl_in.fc _ _ _) ?_
     cases hc:inB s.op (rgF s.kind (UInt8.toNat 111)).1 (rgF s.kind (UInt8.toNat 111)).2 with
     | false=>simp only [go_sem,hnot hc,k1,k3,k13,h14,m1,m2]
     | true =>
      simp only [go_sem,k1,k3,k13,h14,m1,m2]
      refine Zeb (Zcf (j:=1) (.inl ⟨rfl,rfl⟩)) ?_
      simp only [go_sem,hw,k1,k3,k13,h14,m1,m2]
      exact ⟨i+1,by dsimp only;omega,by omega,by simp only [go_sem,k1,k3,k13,h14,m1,m2],hall' hc,by simp only [go_sem,k1,k3,k13,h14,m1,m2],_,hst,by simp only [go_sem,k1,k3,k13,h14,m1,m2];rfl⟩
   · refine Zeb (Zcf (j:=2) (.inr (.inl ⟨rfl,rfl⟩))) ?_
     simp only [go_sem,k1,k3,k13,h14,m1,m2]
     refine Zap (impl_in.fc _ _ _) ?_
     cases hc:inB s.dst (rgF s.kind (UInt8.toNat 100)).1 (rgF s.kind (UInt8.toNat 100)).2 with
     | false=>simp only [go_sem,hnot hc,k1,k3,k13,h14,m1,m2]
     | true =>
      simp only [go_sem,k1,k3,k13,h14,m1,m2]
      refine Zeb (Zcf (j:=2) (.inr (.inl ⟨rfl,rfl⟩))) ?_
      simp only [go_sem,hw,k1,k3,k13,h14,m1,m2]
      exact ⟨i+1,by dsimp only;omega,by omega,by simp only [go_sem,k1,k3,k13,h14,m1,m2],hall' hc,by simp only [go_sem,k1,k3,k13,h14,m1,m2],_,hst,by simp only [go_sem,k1,k3,k13,h14,m1,m2];rfl⟩
   · refine Zeb (Zcf (j:=3) (.inr (.inr (.inl ⟨rfl,rfl⟩)))) ?_
     simp only [go_sem,k1,k3,k13,h14,m1,m2]
     refine Zap (impl_in.fc _ _ _) ?_
     cases hc:inB s.src (rgF s.kind (UInt8.toNat 115)).1 (rgF s.kind (UInt8.toNat 115)).2 with
     | false=>simp only [go_sem,hnot hc,k1,k3,k13,h14,m1,m2]
     | true =>
      simp only [go_sem,k1,k3,k13,h14,m1,m2]
      refine Zeb (Zcf (j:=3) (.inr (.inr (.inl ⟨rfl,rfl⟩)))) ?_
      simp only [go_sem,hw,k1,k3,k13,h14,m1,m2]
      exact ⟨i+1,by dsimp only;omega,by omega,by simp only [go_sem,k1,k3,k13,h14,m1,m2],hall' hc,by simp only [go_sem,k1,k3,k13,h14,m1,m2],_,hst,by simp only [go_sem,k1,k3,k13,h14,m1,m2];rfl⟩
   · refine Zeb (Zcf (j:=4) (.inr (.inr (.inr (.inl ⟨rfl,rfl⟩))))) ?_
     simp only [go_sem,k1,k3,k13,h14,m1,m2]
     refine Zap (impl_in.fc _ _ _) ?_
     cases hc:inB s.imm (rgF s.kind (UInt8.toNat 105)).1 (rgF s.kind (UInt8.toNat 105)).2 with
     | false=>simp only [go_sem,hnot hc,k1,k3,k13,h14,m1,m2]
     | true =>
      simp only [go_sem,k1,k3,k13,h14,m1,m2]
      refine Zeb (Zcf (j:=4) (.inr (.inr (.inr (.inl ⟨rfl,rfl⟩))))) ?_
      simp only [go_sem,hw,k1,k3,k13,h14,m1,m2]
      exact ⟨i+1,by dsimp only;omega,by omega,by simp only [go_sem,k1,k3,k13,h14,m1,m2],hall' hc,by simp only [go_sem,k1,k3,k13,h14,m1,m2],_,hst,by simp only [go_sem,k1,k3,k13,h14,m1,m2];rfl⟩
   · refine Zeb (Zcf (j:=5) (.inr (.inr (.inr (.inr ⟨rfl,rfl⟩))))) ?_
     simp only [go_sem,k1,k3,k13,h14,m1,m2]
     refine Zap (impl_in.fc _ _ _) ?_
     cases hc:inB s.to (rgF s.kind (UInt8.toNat 116)).1 (rgF s.kind (UInt8.toNat 116)).2 with
     | false=>simp only [go_sem,hnot hc,k1,k3,k13,h14,m1,m2]
     | true =>
      simp only [go_sem,k1,k3,k13,h14,m1,m2]
      refine Zeb (Zcf (j:=5) (.inr (.inr (.inr (.inr ⟨rfl,rfl⟩))))) ?_
      simp only [go_sem,hw,k1,k3,k13,h14,m1,m2]
      exact ⟨i+1,by dsimp only;omega,by omega,by simp only [go_sem,k1,k3,k13,h14,m1,m2],hall' hc,by simp only [go_sem,k1,k3,k13,h14,m1,m2],_,hst,by simp only [go_sem,k1,k3,k13,h14,m1,m2];rfl⟩
 obtain rfl:i=(fldL s.kind).length:=by omega
 rw [List.take_length] at hall hr
 simp only [go_sem,Int.lt_irrefl,k1,k3,k13,h14,m1,m2]
 refine Zap (impl_in.fc _ _ _) ?_
 have hv:validB s=(inB s.kind 1 11&&(r == ⟨0,0,0,0,0,0⟩)):=by unfold validB;rw [hall,hr,Bool.true_and]
 cases hc:inB s.kind 1 11 with
 | false=>simp only [go_sem,hv,hc,k1,k3,k13,h14,m1,m2]
 | true =>
  rw [hc,Bool.true_and] at hv
  have hz:(r == ⟨0,0,0,0,0,0⟩)=(r.kind == 0&&(r.op == 0&&(r.dst == 0&&(r.src == 0&&(r.imm == 0&&r.to == 0))))):=by
   obtain ⟨a,b,c,d,e,f⟩:=r
   rw [Bool.eq_iff_iff]
   simp only [beq_iff_eq,StepD.mk.injEq,Bool.and_eq_true]
  simp only [go_sem,hv,hz,Bool.bne_false,k1,k3,k13,h14,m1,m2]
theorem Za1 {s:StepD} (h:validB s=true∨stepB s=true):s.kind=1∨s.kind=2∨s.kind=3∨s.kind=4∨s.kind=5∨s.kind=6∨s.kind=7∨s.kind=8∨s.kind=9∨s.kind=10∨s.kind=11:=by
 by_cases hk:1≤s.kind∧s.kind≤11
 · omega
 · exfalso
   have e:∀ j:Int,1≤j∧j≤11→(s.kind == j)=false:=fun j hj=>by rw [beq_eq_false_iff_ne];omega
   rcases h with h|h
   · unfold validB at h
     simp only [Bool.and_eq_true,inB,decide_eq_true_eq] at h
     omega
   · unfold stepB at h
     simp only [e 1 (by omega),e 2 (by omega),e 3 (by omega),e 4 (by omega),e 5 (by omega),e 6 (by omega),e 7 (by omega),e 8 (by omega),e 9 (by omega),e 10 (by omega),e 11 (by omega)] at h
     simp at h
theorem ZkW (s:StepD):validB s=stepB s:=by
 by_cases h:validB s=true∨stepB s=true
 · obtain ⟨k,o,d,r,m,t⟩:=s
   rcases Za1 h with rfl|rfl|rfl|rfl|rfl|rfl|rfl|rfl|rfl|rfl|rfl <;>
   · rw [Bool.eq_iff_iff]
     simp [validB,stepB,fldL,okF,getF,rgF,restF,clrF,zeroB,inB]
     try omega
 · cases h1:validB s<;>cases h2:stepB s<;>simp_all
def jumpB (s:StepD):Bool:=s.kind == 8||(s.kind == 9||s.kind == 10)
theorem impl_Step_jumps.fc (s:StepD):FCt prog Zb0 [.ro] [s.d] (Bb (jumpB s)) []:=by
 refine Zak impl_Step_jumps.ok rfl ?_
 unfold jumpB
 repeat' (first|with_reducible rfl|with_reducible refine Zah (fun _=>?_) (fun _=>?_)|refine Zaf (fun _=>?_) (fun _=>?_)|refine Zad (fun _=>?_) (fun _=>?_)|with_reducible refine Zab (fun _=>?_) (fun _=>?_)|with_reducible refine Zac (fun _=>?_) (fun _=>?_)|refine Zae (fun _=>?_) (fun _=>?_)|refine Zag (fun _=>?_) (fun _=>?_)|simp only [go_sem,bne,iQ,iB,iX,Int.reduceLE,iN,iA,iS,iM, *]|rfl)
structure StepOk (s:StepD):Prop where
 kind:1≤s.kind∧s.kind≤11
 dst:0≤s.dst∧s.dst≤5
 src:0≤s.src∧s.src≤5
 imm:0≤s.imm∧s.imm≤65535
 op:0≤s.op∧s.op≤10
 to:0≤s.to∧s.to≤19
 jmp:s.to > 0↔s.kind=8∨s.kind=9∨s.kind=10
 iop:s.kind=1∨s.kind=2→1≤s.op
theorem ZaF {s:StepD} (h:stepB s=true):StepOk s:=by
 obtain ⟨k,o,d,r,m,t⟩:=s
 rcases Za1 (.inr h) with rfl|rfl|rfl|rfl|rfl|rfl|rfl|rfl|rfl|rfl|rfl <;>
 · simp [stepB,zeroB,inB] at h
   constructor<;>dsimp only<;>omega
theorem ZoX {s:StepD} (h:stepB s=true):jumpB s=decide (s.to > 0):=by
 have:=(ZaF h).jmp
 rw [Bool.eq_iff_iff,decide_eq_true_eq,this]
 simp [jumpB]
def okAt (p:List StepD) (i:Nat):Bool:=match p[i]? with
 | some s=>stepB s&&!(decide (s.to > 0)&&decide ((i:Int)+s.to+1 ≥ p.length))
 | none=>false
def lastK (p:List StepD):Int:=match p[p.length - 1]? with
 | some s=>s.kind
 | none=>0
def goodP (p:List StepD):Bool:=inB p.length 1 20&&(lastK p == 11)&&(List.range p.length).all (okAt p)
theorem ZhX {p:List StepD} {i:Nat} (hi:i < p.length) (h:okAt p i=false):goodP p=false:=by
 unfold goodP;rw [Zmb hi h,Bool.and_false]
theorem impl_GoodProgram.fc (p:List StepD) (hp:p.length≤4194304):FCt prog Zbl [.ro] [steps p] (Bb (goodP p)) []:=by
 refine Zak impl_GoodProgram.ok rfl ?_
 simp only [go_sem]
 refine Zap (impl_in.fc _ _ _) ?_
 cases h1:inB p.length 1 20 with
 | false =>
  have:goodP p=false:=by unfold goodP;rw [h1];rfl
  simp only [go_sem,this]
 | true =>
  have hl:1≤p.length∧p.length≤20:=by simp [inB] at h1;omega
  have w1:IntKind.i64.wrap ((p.length:Int) - 1)=((p.length - 1:Nat):Int):=by rw [Zaj (by omega) (by omega)];omega
  have g1:p[p.length - 1]? = some (p[p.length - 1]'(by omega)):=List.getElem?_eq_getElem (by omega)
  have b1:((p.length - 1:Nat):Int) < p.length:=by omega
  have hk:lastK p=(p[p.length - 1]'(by omega)).kind:=by unfold lastK;rw [g1]
  simp only [go_sem,w1,g1,b1]
  cases h2:((p[p.length - 1]'(by omega)).kind == 11) with
  | false =>
   have:goodP p=false:=by unfold goodP;rw [hk,h2,Bool.and_false];rfl
   have h3:((p[p.length - 1]'(by omega)).kind != 11)=true:=by rw [bne,h2];rfl
   simp only [go_sem,this,h3]
  | true =>
   have h3:((p[p.length - 1]'(by omega)).kind != 11)=false:=by rw [bne,h2];rfl
   simp only [go_sem,h3]
   refine ZaI (α:=Nat) (fun i s' M'=>i≤p.length∧s' 21=aI i∧(List.range i).all (okAt p)=true) (fun i=>p.length - i) 0 ⟨by omega,by simp only [go_sem];rfl,by simp⟩ ?_
   rintro i s' M' ⟨hi,h21,hr⟩ ho
   unfold impl_GoodProgram.b0
   have k0:s' 0=.dat none (steps p):=by rw [ho 0 rfl];simp only [go_sem]
   have k19:s' 19=.dat none (steps p):=by rw [ho 19 rfl];simp only [go_sem]
   have k20:s' 20=aI p.length:=by rw [ho 20 rfl];simp only [go_sem]
   clear ho
   by_cases hlt:i < p.length
   · have hi':(i:Int) < p.length:=by omega
     have ga:p[i]? = some p[i]:=List.getElem?_eq_getElem hlt
     have hw:IntKind.i64.wrap (i+1)=((i+1:Nat):Int):=Zbc hlt (by omega)
     have bad:=ZhX hlt
     have oka:okAt p i=(stepB p[i]&&!(decide (p[i].to > 0)&&decide ((i:Int)+p[i].to+1 ≥ p.length))):=by unfold okAt;rw [ga]
     simp only [go_sem,hi',ga,k0,k19,k20,h21]
     refine Zap (impl_Step_valid.fc p[i]) ?_
     rw [ZkW]
     cases hv:stepB p[i] with
     | false =>
      have hb:=bad (by rw [oka,hv,Bool.false_and])
      simp only [go_sem,hb,k0,k19,k20,h21]
     | true =>
      have ok:=ZaF hv
      rw [hv,Bool.true_and] at oka
      simp only [go_sem,k0,k19,k20,h21]
      refine Zap (impl_Step_jumps.fc p[i]) ?_
      rw [ZoX hv]
      have w2:IntKind.i64.wrap ((i:Int)+p[i].to)=(i:Int)+p[i].to:=by have:=ok.to;exact Zaj (by omega) (by omega)
      have w3:IntKind.i64.wrap ((i:Int)+p[i].to+1)=(i:Int)+p[i].to+1:=by have:=ok.to;exact Zaj (by omega) (by omega)
      by_cases hj:p[i].to > 0
      · by_cases he:(i:Int)+p[i].to+1 ≥ p.length
        · have hb:=bad (by rw [oka,decide_eq_true hj,decide_eq_true he];rfl)
          simp only [go_sem,hj,he,w2,w3,hb,k0,k19,k20,h21]
        · simp only [go_sem,hj,he,w2,w3,hw,k0,k19,k20,h21]
          exact ⟨i+1,by dsimp only;omega,by omega,by simp only [go_sem,k0,k19,k20,h21],ZeO hr (by rw [oka,decide_eq_false he,Bool.and_false];rfl)⟩
      · simp only [go_sem,hj,hw,k0,k19,k20,h21]
        exact ⟨i+1,by dsimp only;omega,by omega,by simp only [go_sem,k0,k19,k20,h21],ZeO hr (by rw [oka,decide_eq_false hj,Bool.false_and];rfl)⟩
   · have hi':¬ (i:Int) < p.length:=by omega
     obtain rfl:i=p.length:=by omega
     have:goodP p=true:=by unfold goodP;rw [h1,hk,h2,hr];rfl
     simp only [go_sem,this,Int.lt_irrefl,k0,k19,k20,h21]
theorem spec_GoodProgram.fc (p:List StepD) (hp:p.length≤4194304):FCt prog Zbn [.ro] [steps p] (Bb (goodP p)) []:=by
 refine Zak spec_GoodProgram.ok rfl ?_
 simp only [go_sem]
 refine ZaI (α:=Nat) (fun i s' M'=>i≤p.length∧s' 7=aI i∧(List.range i).all (okAt p)=true) (fun i=>p.length - i) 0 ⟨by omega,by simp only [go_sem];rfl,by simp⟩ ?_
 rintro i s' M' ⟨hi,h21,hr⟩ ho
 unfold spec_GoodProgram.b0
 have k0:s' 0=.dat none (steps p):=by rw [ho 0 rfl];simp only [go_sem]
 have k5:s' 5=.dat none (steps p):=by rw [ho 5 rfl];simp only [go_sem]
 have k6:s' 6=aI p.length:=by rw [ho 6 rfl];simp only [go_sem]
 clear ho
 by_cases hlt:i < p.length
 · have hi':(i:Int) < p.length:=by omega
   have ga:p[i]? = some p[i]:=List.getElem?_eq_getElem hlt
   have hw:IntKind.i64.wrap (i+1)=((i+1:Nat):Int):=Zbc hlt (by omega)
   have bad:=ZhX hlt
   have oka:okAt p i=(stepB p[i]&&!(decide (p[i].to > 0)&&decide ((i:Int)+p[i].to+1 ≥ p.length))):=by unfold okAt;rw [ga]
   simp only [go_sem,hi',ga,k0,k5,k6,h21]
   refine Zap (spec_l2Step.fc p[i]) ?_
   cases hv:stepB p[i] with
   | false =>
    have hb:=bad (by rw [oka,hv,Bool.false_and])
    simp only [go_sem,hb,k0,k5,k6,h21]
   | true =>
    have ok:=ZaF hv
    rw [hv,Bool.true_and] at oka
    have w2:IntKind.i64.wrap ((i:Int)+p[i].to)=(i:Int)+p[i].to:=by have:=ok.to;exact Zaj (by omega) (by omega)
    have w3:IntKind.i64.wrap ((i:Int)+p[i].to+1)=(i:Int)+p[i].to+1:=by have:=ok.to;exact Zaj (by omega) (by omega)
    by_cases hj:p[i].to > 0
    · by_cases he:(i:Int)+p[i].to+1 ≥ p.length
      · have hb:=bad (by rw [oka,decide_eq_true hj,decide_eq_true he];rfl)
        simp only [go_sem,hj,he,w2,w3,hb,k0,k5,k6,h21]
      · simp only [go_sem,hj,he,w2,w3,hw,k0,k5,k6,h21]
        exact ⟨i+1,by dsimp only;omega,by omega,by simp only [go_sem,k0,k5,k6,h21],ZeO hr (by rw [oka,decide_eq_false he,Bool.and_false];rfl)⟩
    · simp only [go_sem,hj,hw,k0,k5,k6,h21]
      exact ⟨i+1,by dsimp only;omega,by omega,by simp only [go_sem,k0,k5,k6,h21],ZeO hr (by rw [oka,decide_eq_false hj,Bool.false_and];rfl)⟩
 · have hi':¬ (i:Int) < p.length:=by omega
   obtain rfl:i=p.length:=by omega
   simp only [go_sem,Int.lt_irrefl,k0,k5,k6,h21]
   refine Zap (spec_l1In.fc _ _ _) ?_
   cases h1:inB p.length 1 20 with
   | false =>
    have:goodP p=false:=by unfold goodP;rw [h1];rfl
    simp only [go_sem,this,k0,k5,k6,h21]
   | true =>
    have hl:1≤p.length∧p.length≤20:=by simp [inB] at h1;omega
    have w1:IntKind.i64.wrap ((p.length:Int) - 1)=((p.length - 1:Nat):Int):=by rw [Zaj (by omega) (by omega)];omega
    have g1:p[p.length - 1]? = some (p[p.length - 1]'(by omega)):=List.getElem?_eq_getElem (by omega)
    have b1:((p.length - 1:Nat):Int) < p.length:=by omega
    have hk:lastK p=(p[p.length - 1]'(by omega)).kind:=by unfold lastK;rw [g1]
    have:goodP p=((p[p.length - 1]'(by omega)).kind == 11):=by unfold goodP;rw [h1,hk,hr,Bool.and_true,Bool.true_and]
    simp only [go_sem,w1,g1,b1,this,k0,k5,k6,h21]
set_option maxHeartbeats 16000000
def isB (n:Int):Bool:=inB n 0 255
def ctxB (l:List Int):Bool:=decide (l.length=8)&&l.all isB
structure CtxOk (l:List Int):Prop where
 len:l.length=8
 all:∀ x∈l,0≤x∧x≤255
theorem ZmL {l:List Int} (h:ctxB l=true):CtxOk l:=by
 simp only [ctxB,Bool.and_eq_true,decide_eq_true_eq,List.all_eq_true,isB,inB] at h
 exact ⟨h.1,h.2⟩
theorem impl_isContext_c1.fc (n:Int):FCt prog Zbe [.ro] [Ii n] (Bb (!isB n)) []:=by
 refine Zak impl_isContext_c1.ok rfl ?_
 unfold isB
 repeat' (first|with_reducible rfl|refine Zap (impl_in.fc ..) ?_|with_reducible refine Zah (fun _=>?_) (fun _=>?_)|refine Zaf (fun _=>?_) (fun _=>?_)|refine Zad (fun _=>?_) (fun _=>?_)|with_reducible refine Zab (fun _=>?_) (fun _=>?_)|with_reducible refine Zac (fun _=>?_) (fun _=>?_)|refine Zae (fun _=>?_) (fun _=>?_)|refine Zag (fun _=>?_) (fun _=>?_)|simp only [go_sem,bne,iQ,iB,iX,Int.reduceLE,iN,iA,iS,iM, *]|rfl)
theorem impl_isContext.fc (l:List Int) (hl:l.length≤4294967296):FCt prog Zcq [.ro] [ints l] (Bb (ctxB l)) []:=by
 refine Zak impl_isContext.ok rfl ?_
 have e1:((l.length:Int) == 8)=decide (l.length=8):=Zou (b:=8)
 have e2:l.any (fun n=>!isB n) = !l.all isB:=by rw [List.not_all_eq_any_not]
 unfold ctxB
 by_cases h:l.length=8
 · rw [decide_eq_true h] at e1 ⊢
   simp only [go_sem,e1]
   refine Zap (slices_ContainsFunc__sint_int.fc l Zbe [] (fun n=>!isB n) hl (fun n _=>impl_isContext_c1.fc n)) ?_
   simp only [go_sem,e2,Bool.not_not]
 · rw [decide_eq_false h] at e1 ⊢
   simp only [go_sem,e1]
theorem spec_l3Ctx.fc (l:List Int) (hl:l.length≤4294967296):FCt prog ZdH [.ro] [ints l] (Bb (ctxB l)) []:=by
 refine Zak spec_l3Ctx.ok rfl ?_
 have e1:((l.length:Int) == 8)=decide (l.length=8):=Zou (b:=8)
 unfold ctxB
 by_cases h:l.length=8
 · rw [decide_eq_true h] at e1 ⊢
   simp only [go_sem,e1]
   refine Zap (spec_l1All.fc l 0 255 hl) ?_
   simp only [go_sem]
   rfl
 · rw [decide_eq_false h] at e1 ⊢
   simp only [go_sem,e1]
structure MachLen (m:MachD):Prop where
 regs:m.regs.length=6
 cells:m.cells.length=16
 isset:m.isset.length=16
theorem MachOk.len {m:MachD} (h:MachOk m):MachLen m:=⟨h.regs,h.cells,h.isset⟩
def regI (m:MachD) (i:Int):Int:=m.regs.getD i.toNat 0
def setR (m:MachD) (i n:Int):MachD:={ m with pc:=m.pc+1,regs:=m.regs.set i.toNat n }
def setC (m:MachD) (i n:Int):MachD:={ m with pc:=m.pc+1,cells:=m.cells.set i.toNat n,isset:=m.isset.set i.toNat true }
def setP (m:MachD) (n:Int):MachD:={ m with pc:=n }
def stepM (s:StepD) (ctx:List Int) (m:MachD):MachD×Int×Bool :=
 if s.kind == 1 then (setR m s.dst (doI s.op (regI m s.dst) (regI m s.src)),0,false) else
 if s.kind == 2 then (setR m s.dst (doI s.op (regI m s.dst) s.imm),0,false) else
 if s.kind == 3 then (setR m s.dst s.imm,0,false) else
 if s.kind == 4 then (setR m s.dst s.imm,0,false) else
 if s.kind == 5 then (if regI m s.src+s.imm ≥ 8 then (m,1,false) else (setR m s.dst (ctx.getD (regI m s.src+s.imm).toNat 0),0,false)) else
 if s.kind == 7 then (if s.imm ≥ 16 then (m,2,false) else (setC m s.imm (regI m s.dst),0,false)) else
 if s.kind == 6 then (if s.imm ≥ 16 then (m,2,false) else if m.isset.getD s.imm.toNat false then (setR m s.dst (m.cells.getD s.imm.toNat 0),0,false) else (m,3,false)) else
 if s.kind == 11 then (m,0,true) else
 if s.kind == 8 then (setP m (m.pc+s.to+1),0,false) else
 if s.kind == 9 then (if regI m s.dst == regI m s.src then (setP m (m.pc+s.to+1),0,false) else (setP m (m.pc+1),0,false)) else
 (if regI m s.dst < regI m s.src then (setP m (m.pc+s.to+1),0,false) else (setP m (m.pc+1),0,false))
theorem setIi {l:List Int} {i:Nat} {x:Int}:(l.map Ii).set i (D.int .i64 x)=(l.set i x).map Ii:=by rw [List.map_set]
theorem setBb {l:List Bool} {i:Nat} {x:Bool}:(l.map Bb).set i (D.bool x)=(l.set i x).map Bb:=by rw [List.map_set]
theorem getD_some {α:Type} {l:List α} {i:Nat} {d:α} (h:i < l.length):l[i]? = some (l.getD i d):=by rw [ZnZ h];exact List.getElem?_eq_getElem h
theorem tk_I {n:Nat} {l:List Int} (h:l.length=n):(l.map Ii).take n=l.map Ii:=List.take_of_length_le (by simp [h])
theorem tk_B {n:Nat} {l:List Bool} (h:l.length=n):(l.map Bb).take n=l.map Bb:=List.take_of_length_le (by simp [h])
theorem impl_pMachine_step.fc (p:List StepD) (ctx:List Int) (m:MachD) (s:StepD) (hp:p.length≤20) (hc:CtxOk ctx) (hm:MachOk m) (hpc:m.pc < p.length) (hs:p[m.pc.toNat]? = some s) (hv:stepB s=true) :
 FCt prog Za6 [.io,.ro,.ro] [.ptr m.d,steps p,ints ctx] (.tup [Ii (stepM s ctx m).2.1,Bb (stepM s ctx m).2.2]) [.ptr (stepM s ctx m).1.d]:=by
 refine Zak impl_pMachine_step.ok rfl ?_
 have ok:=ZaF hv
 have kd:=Za1 (.inr hv)
 obtain ⟨⟨pc0,pc1⟩,l1,l2,l3,wr,wc⟩:=hm
 obtain ⟨cl,ca⟩:=hc
 obtain ⟨pc,regs,cells,isset⟩:=m
 obtain ⟨k,op,dst,src,imm,to⟩:=s
 obtain ⟨_,od,os,oi,oo,ot,_,_⟩:=ok
 dsimp only at *
 have gd:regs[dst.toNat]? = some (regI ⟨pc,regs,cells,isset⟩ dst):=getD_some (by omega)
 have gs:regs[src.toNat]? = some (regI ⟨pc,regs,cells,isset⟩ src):=getD_some (by omega)
 have ws:0≤regI ⟨pc,regs,cells,isset⟩ src∧regI ⟨pc,regs,cells,isset⟩ src≤65535:=wr _ (List.mem_of_getElem? gs)
 have w1:IntKind.i64.wrap (pc+1)=pc+1:=Zaj (by omega) (by omega)
 have w2:IntKind.i64.wrap (pc+1+to)=pc+to+1:=by rw [Zaj (by omega) (by omega)];omega
 have w3:IntKind.i64.wrap (regI ⟨pc,regs,cells,isset⟩ src+imm)=regI ⟨pc,regs,cells,isset⟩ src+imm:=Zaj (by omega) (by omega)
 have od1:=od.1
 have od2:dst < 6:=by omega
 have os1:=os.1
 have os2:src < 6:=by omega
 have c6:((6:Nat):Int)=6:=rfl
 have c8:((8:Nat):Int)=8:=rfl
 have c16:((16:Nat):Int)=16:=rfl
 have i0:0≤imm:=oi.1
 have r0:0≤regI ⟨pc,regs,cells,isset⟩ src+imm:=by omega
 have h5:¬ regI ⟨pc,regs,cells,isset⟩ src+imm ≥ 8→ctx[(regI ⟨pc,regs,cells,isset⟩ src+imm).toNat]? = some (ctx.getD (regI ⟨pc,regs,cells,isset⟩ src+imm).toNat 0):=fun h=>getD_some (by omega)
 have h6:¬ imm ≥ 16→cells[imm.toNat]? = some (cells.getD imm.toNat 0):=fun h=>getD_some (by omega)
 have h7:¬ imm ≥ 16→isset[imm.toNat]? = some (isset.getD imm.toNat false):=fun h=>getD_some (by omega)
 have b5:¬ regI ⟨pc,regs,cells,isset⟩ src+imm ≥ 8→regI ⟨pc,regs,cells,isset⟩ src+imm < 8:=fun h=>by omega
 have b6:¬ imm ≥ 16→imm < 16:=fun h=>by omega
 unfold stepM setR setC setP
 rcases kd with rfl|rfl|rfl|rfl|rfl|rfl|rfl|rfl|rfl|rfl|rfl
 · clear h5 h6 h7 b5 b6
   repeat' (first|with_reducible rfl|refine Zam (impl_do.fc _ _ _ ws.1) ?_|refine Zam (impl_do.fc _ _ _ i0) ?_|with_reducible refine Zah (fun _=>?_) (fun _=>?_)|refine Zaf (fun _=>?_) (fun _=>?_)|refine Zad (fun _=>?_) (fun _=>?_)|with_reducible refine Zab (fun _=>?_) (fun _=>?_)|with_reducible refine Zac (fun _=>?_) (fun _=>?_)|refine Zae (fun _=>?_) (fun _=>?_)|refine Zag (fun _=>?_) (fun _=>?_)|simp only [go_sem,bne,iQ,iB,iX,Int.reduceLE,iN,iA,iS,iM,setIi,setBb,tk_I,tk_B,List.length_set, *]|rfl)
 · clear h5 h6 h7 b5 b6
   repeat' (first|with_reducible rfl|refine Zam (impl_do.fc _ _ _ ws.1) ?_|refine Zam (impl_do.fc _ _ _ i0) ?_|with_reducible refine Zah (fun _=>?_) (fun _=>?_)|refine Zaf (fun _=>?_) (fun _=>?_)|refine Zad (fun _=>?_) (fun _=>?_)|with_reducible refine Zab (fun _=>?_) (fun _=>?_)|with_reducible refine Zac (fun _=>?_) (fun _=>?_)|refine Zae (fun _=>?_) (fun _=>?_)|refine Zag (fun _=>?_) (fun _=>?_)|simp only [go_sem,bne,iQ,iB,iX,Int.reduceLE,iN,iA,iS,iM,setIi,setBb,tk_I,tk_B,List.length_set, *]|rfl)
 · clear h5 h6 h7 b5 b6
   repeat' (first|with_reducible rfl|refine Zam (impl_do.fc _ _ _ ws.1) ?_|refine Zam (impl_do.fc _ _ _ i0) ?_|with_reducible refine Zah (fun _=>?_) (fun _=>?_)|refine Zaf (fun _=>?_) (fun _=>?_)|refine Zad (fun _=>?_) (fun _=>?_)|with_reducible refine Zab (fun _=>?_) (fun _=>?_)|with_reducible refine Zac (fun _=>?_) (fun _=>?_)|refine Zae (fun _=>?_) (fun _=>?_)|refine Zag (fun _=>?_) (fun _=>?_)|simp only [go_sem,bne,iQ,iB,iX,Int.reduceLE,iN,iA,iS,iM,setIi,setBb,tk_I,tk_B,List.length_set, *]|rfl)
 · clear h5 h6 h7 b5 b6
   repeat' (first|with_reducible rfl|refine Zam (impl_do.fc _ _ _ ws.1) ?_|refine Zam (impl_do.fc _ _ _ i0) ?_|with_reducible refine Zah (fun _=>?_) (fun _=>?_)|refine Zaf (fun _=>?_) (fun _=>?_)|refine Zad (fun _=>?_) (fun _=>?_)|with_reducible refine Zab (fun _=>?_) (fun _=>?_)|with_reducible refine Zac (fun _=>?_) (fun _=>?_)|refine Zae (fun _=>?_) (fun _=>?_)|refine Zag (fun _=>?_) (fun _=>?_)|simp only [go_sem,bne,iQ,iB,iX,Int.reduceLE,iN,iA,iS,iM,setIi,setBb,tk_I,tk_B,List.length_set, *]|rfl)
 · clear h6 h7 b6
   by_cases h:regI ⟨pc,regs,cells,isset⟩ src+imm ≥ 8
   · clear h5 b5
     repeat' (first|with_reducible rfl|refine Zam (impl_do.fc _ _ _ ws.1) ?_|refine Zam (impl_do.fc _ _ _ i0) ?_|with_reducible refine Zah (fun _=>?_) (fun _=>?_)|refine Zaf (fun _=>?_) (fun _=>?_)|refine Zad (fun _=>?_) (fun _=>?_)|with_reducible refine Zab (fun _=>?_) (fun _=>?_)|with_reducible refine Zac (fun _=>?_) (fun _=>?_)|refine Zae (fun _=>?_) (fun _=>?_)|refine Zag (fun _=>?_) (fun _=>?_)|simp only [go_sem,bne,iQ,iB,iX,Int.reduceLE,iN,iA,iS,iM,setIi,setBb,tk_I,tk_B,List.length_set, *]|rfl)
   · have h5:=h5 h
     have b5:=b5 h
     repeat' (first|with_reducible rfl|refine Zam (impl_do.fc _ _ _ ws.1) ?_|refine Zam (impl_do.fc _ _ _ i0) ?_|with_reducible refine Zah (fun _=>?_) (fun _=>?_)|refine Zaf (fun _=>?_) (fun _=>?_)|refine Zad (fun _=>?_) (fun _=>?_)|with_reducible refine Zab (fun _=>?_) (fun _=>?_)|with_reducible refine Zac (fun _=>?_) (fun _=>?_)|refine Zae (fun _=>?_) (fun _=>?_)|refine Zag (fun _=>?_) (fun _=>?_)|simp only [go_sem,bne,iQ,iB,iX,Int.reduceLE,iN,iA,iS,iM,setIi,setBb,tk_I,tk_B,List.length_set, *]|rfl)
 · clear h5 b5
   by_cases h:imm ≥ 16
   · clear h6 h7 b6
     repeat' (first|with_reducible rfl|refine Zam (impl_do.fc _ _ _ ws.1) ?_|refine Zam (impl_do.fc _ _ _ i0) ?_|with_reducible refine Zah (fun _=>?_) (fun _=>?_)|refine Zaf (fun _=>?_) (fun _=>?_)|refine Zad (fun _=>?_) (fun _=>?_)|with_reducible refine Zab (fun _=>?_) (fun _=>?_)|with_reducible refine Zac (fun _=>?_) (fun _=>?_)|refine Zae (fun _=>?_) (fun _=>?_)|refine Zag (fun _=>?_) (fun _=>?_)|simp only [go_sem,bne,iQ,iB,iX,Int.reduceLE,iN,iA,iS,iM,setIi,setBb,tk_I,tk_B,List.length_set, *]|rfl)
   · have h6:=h6 h
     have h7:=h7 h
     have b6:=b6 h
     cases hq:isset.getD imm.toNat false<;>rw [hq] at h7
     · repeat' (first|with_reducible rfl|refine Zam (impl_do.fc _ _ _ ws.1) ?_|refine Zam (impl_do.fc _ _ _ i0) ?_|with_reducible refine Zah (fun _=>?_) (fun _=>?_)|refine Zaf (fun _=>?_) (fun _=>?_)|refine Zad (fun _=>?_) (fun _=>?_)|with_reducible refine Zab (fun _=>?_) (fun _=>?_)|with_reducible refine Zac (fun _=>?_) (fun _=>?_)|refine Zae (fun _=>?_) (fun _=>?_)|refine Zag (fun _=>?_) (fun _=>?_)|simp only [go_sem,bne,iQ,iB,iX,Int.reduceLE,iN,iA,iS,iM,setIi,setBb,tk_I,tk_B,List.length_set, *]|rfl)
     · repeat' (first|with_reducible rfl|refine Zam (impl_do.fc _ _ _ ws.1) ?_|refine Zam (impl_do.fc _ _ _ i0) ?_|with_reducible refine Zah (fun _=>?_) (fun _=>?_)|refine Zaf (fun _=>?_) (fun _=>?_)|refine Zad (fun _=>?_) (fun _=>?_)|with_reducible refine Zab (fun _=>?_) (fun _=>?_)|with_reducible refine Zac (fun _=>?_) (fun _=>?_)|refine Zae (fun _=>?_) (fun _=>?_)|refine Zag (fun _=>?_) (fun _=>?_)|simp only [go_sem,bne,iQ,iB,iX,Int.reduceLE,iN,iA,iS,iM,setIi,setBb,tk_I,tk_B,List.length_set, *]|rfl)
 · clear h5 b5
   by_cases h:imm ≥ 16
   · clear h6 h7 b6
     repeat' (first|with_reducible rfl|refine Zam (impl_do.fc _ _ _ ws.1) ?_|refine Zam (impl_do.fc _ _ _ i0) ?_|with_reducible refine Zah (fun _=>?_) (fun _=>?_)|refine Zaf (fun _=>?_) (fun _=>?_)|refine Zad (fun _=>?_) (fun _=>?_)|with_reducible refine Zab (fun _=>?_) (fun _=>?_)|with_reducible refine Zac (fun _=>?_) (fun _=>?_)|refine Zae (fun _=>?_) (fun _=>?_)|refine Zag (fun _=>?_) (fun _=>?_)|simp only [go_sem,bne,iQ,iB,iX,Int.reduceLE,iN,iA,iS,iM,setIi,setBb,tk_I,tk_B,List.length_set, *]|rfl)
   · have h6:=h6 h
     have h7:=h7 h
     have b6:=b6 h
     repeat' (first|with_reducible rfl|refine Zam (impl_do.fc _ _ _ ws.1) ?_|refine Zam (impl_do.fc _ _ _ i0) ?_|with_reducible refine Zah (fun _=>?_) (fun _=>?_)|refine Zaf (fun _=>?_) (fun _=>?_)|refine Zad (fun _=>?_) (fun _=>?_)|with_reducible refine Zab (fun _=>?_) (fun _=>?_)|with_reducible refine Zac (fun _=>?_) (fun _=>?_)|refine Zae (fun _=>?_) (fun _=>?_)|refine Zag (fun _=>?_) (fun _=>?_)|simp only [go_sem,bne,iQ,iB,iX,Int.reduceLE,iN,iA,iS,iM,setIi,setBb,tk_I,tk_B,List.length_set, *]|rfl)
 · clear h5 h6 h7 b5 b6
   repeat' (first|with_reducible rfl|refine Zam (impl_do.fc _ _ _ ws.1) ?_|refine Zam (impl_do.fc _ _ _ i0) ?_|with_reducible refine Zah (fun _=>?_) (fun _=>?_)|refine Zaf (fun _=>?_) (fun _=>?_)|refine Zad (fun _=>?_) (fun _=>?_)|with_reducible refine Zab (fun _=>?_) (fun _=>?_)|with_reducible refine Zac (fun _=>?_) (fun _=>?_)|refine Zae (fun _=>?_) (fun _=>?_)|refine Zag (fun _=>?_) (fun _=>?_)|simp only [go_sem,bne,iQ,iB,iX,Int.reduceLE,iN,iA,iS,iM,setIi,setBb,tk_I,tk_B,List.length_set, *]|rfl)
 · clear h5 h6 h7 b5 b6
   repeat' (first|with_reducible rfl|refine Zam (impl_do.fc _ _ _ ws.1) ?_|refine Zam (impl_do.fc _ _ _ i0) ?_|with_reducible refine Zah (fun _=>?_) (fun _=>?_)|refine Zaf (fun _=>?_) (fun _=>?_)|refine Zad (fun _=>?_) (fun _=>?_)|with_reducible refine Zab (fun _=>?_) (fun _=>?_)|with_reducible refine Zac (fun _=>?_) (fun _=>?_)|refine Zae (fun _=>?_) (fun _=>?_)|refine Zag (fun _=>?_) (fun _=>?_)|simp only [go_sem,bne,iQ,iB,iX,Int.reduceLE,iN,iA,iS,iM,setIi,setBb,tk_I,tk_B,List.length_set, *]|rfl)
 · clear h5 h6 h7 b5 b6
   repeat' (first|with_reducible rfl|refine Zam (impl_do.fc _ _ _ ws.1) ?_|refine Zam (impl_do.fc _ _ _ i0) ?_|with_reducible refine Zah (fun _=>?_) (fun _=>?_)|refine Zaf (fun _=>?_) (fun _=>?_)|refine Zad (fun _=>?_) (fun _=>?_)|with_reducible refine Zab (fun _=>?_) (fun _=>?_)|with_reducible refine Zac (fun _=>?_) (fun _=>?_)|refine Zae (fun _=>?_) (fun _=>?_)|refine Zag (fun _=>?_) (fun _=>?_)|simp only [go_sem,bne,iQ,iB,iX,Int.reduceLE,iN,iA,iS,iM,setIi,setBb,tk_I,tk_B,List.length_set, *]|rfl)
 · clear h5 h6 h7 b5 b6
   repeat' (first|with_reducible rfl|refine Zam (impl_do.fc _ _ _ ws.1) ?_|refine Zam (impl_do.fc _ _ _ i0) ?_|with_reducible refine Zah (fun _=>?_) (fun _=>?_)|refine Zaf (fun _=>?_) (fun _=>?_)|refine Zad (fun _=>?_) (fun _=>?_)|with_reducible refine Zab (fun _=>?_) (fun _=>?_)|with_reducible refine Zac (fun _=>?_) (fun _=>?_)|refine Zae (fun _=>?_) (fun _=>?_)|refine Zag (fun _=>?_) (fun _=>?_)|simp only [go_sem,bne,iQ,iB,iX,Int.reduceLE,iN,iA,iS,iM,setIi,setBb,tk_I,tk_B,List.length_set, *]|rfl)
end Go.Vm.YtmbhjcgikblpiaaGreat
