/- What the functions that the law reaches return: part 2 (the conditions stand at each). -/
import Derived.Test.YtmbhjcgikblpiaaWka
open Nat renaming reduceEqDiff → nE, reduceAdd → nA, reduceMul → nM, reduceBEq → nB, reduceSub → nS, reduceLT → nL, reduceLeDiff → nD
open Int renaming reduceToNat → iT, reduceLE → iE, reduceLT → iL
open Option renaming getD_none → oN
namespace Go.Vm.Ytmbhjcgikblpiaa
open Go Go.Vm
set_option maxRecDepth 10000
set_option maxHeartbeats 32000000
set_option linter.unusedSimpArgs false
set_option linter.unusedVariables false
def meetSb (a b:Int×Int):Bool:=decide (mxI a.1 b.1 > mnI a.2 b.2)
def meetS (a b:Int×Int):Int×Int:=if meetSb a b then (0,0) else (mxI a.1 b.1,mnI a.2 b.2)
theorem impl_meetStretch.fc (a b:Int×Int):FCt prog F_impl_meetStretch [.ro,.ro] [strD a,strD b] (.tup [strD (meetS a b),Bb (!meetSb a b)]) []:=by
  refine fct_run impl_meetStretch.ok rfl ?_
  have e1:(if b.1 > a.1 then b.1 else a.1)=mxI a.1 b.1:=rfl
  have e2:(if b.2 < a.2 then b.2 else a.2)=mnI a.2 b.2:=rfl
  unfold meetS meetSb
  repeat' (first|with_reducible rfl|with_reducible refine cdW_dec (fun _=>?_) (fun _=>?_)|refine cdW_not (fun _=>?_) (fun _=>?_)|refine cdW_any (fun _=>?_) (fun _=>?_)|with_reducible refine gdW_decT (fun _=>?_) (fun _=>?_)|with_reducible refine gdW_decF (fun _=>?_) (fun _=>?_)|refine gdW_not (fun _=>?_) (fun _=>?_)|refine gdW_any (fun _=>?_) (fun _=>?_)|simp only [go_sem,↓reduceIte,nE,nA,nM,nB,oN,iT,nS,nL,nD,iE,iL,reduceCtorEq,bne,Int.reduceEq,Int.reduceBEq,Int.reduceBNe,Int.reduceLE,Int.reduceNeg,Int.reduceAdd,Int.reduceSub,Int.reduceMul, *]|rfl)
theorem spec_l9Meet.fc (a b:Int×Int):FCt prog F_spec_l9Meet [.ro,.ro] [strD a,strD b] (.tup [strD (meetS a b),Bb (!meetSb a b)]) []:=by
  refine fct_run spec_l9Meet.ok rfl ?_
  have e1:(if b.1 > a.1 then b.1 else a.1)=mxI a.1 b.1:=rfl
  have e2:(if b.2 < a.2 then b.2 else a.2)=mnI a.2 b.2:=rfl
  unfold meetS meetSb
  repeat' (first|with_reducible rfl|refine fcW_int (spec_l1Most.fc ..) ?_|refine fcW_int (spec_l1Least.fc ..) ?_|with_reducible refine cdW_dec (fun _=>?_) (fun _=>?_)|refine cdW_not (fun _=>?_) (fun _=>?_)|refine cdW_any (fun _=>?_) (fun _=>?_)|with_reducible refine gdW_decT (fun _=>?_) (fun _=>?_)|with_reducible refine gdW_decF (fun _=>?_) (fun _=>?_)|refine gdW_not (fun _=>?_) (fun _=>?_)|refine gdW_any (fun _=>?_) (fun _=>?_)|simp only [go_sem,↓reduceIte,nE,nA,nM,nB,oN,iT,nS,nL,nD,iE,iL,reduceCtorEq,bne,Int.reduceEq,Int.reduceBEq,Int.reduceBNe,Int.reduceLE,Int.reduceNeg,Int.reduceAdd,Int.reduceSub,Int.reduceMul, *]|rfl)
def lessS (a b:Int×Int):(Int×Int)×(Int×Int)×Bool:=if a.1 ≥ b.2 then ((0,0),(0,0),false) else ((a.1,mnI a.2 (b.2 - 1)),(mxI b.1 (a.1+1),b.2),true)
theorem impl_splitLess.fc (a b:Int×Int) (ha:SOk a) (hb:SOk b):FCt prog F_impl_splitLess [.ro,.ro] [strD a,strD b] (.tup [strD (lessS a b).1,strD (lessS a b).2.1,Bb (lessS a b).2.2]) []:=by
  refine fct_run impl_splitLess.ok rfl ?_
  have w1:IntKind.i64.wrap (b.2 - 1)=b.2 - 1:=by have:=hb.lo;have:=hb.le;have:=hb.hi;exact wrap_in (by omega) (by omega)
  have w2:IntKind.i64.wrap (a.1+1)=a.1+1:=by have:=ha.lo;have:=ha.le;have:=ha.hi;exact wrap_in (by omega) (by omega)
  clear ha hb
  unfold lessS mnI mxI
  repeat' (first|with_reducible rfl|with_reducible refine cdW_dec (fun _=>?_) (fun _=>?_)|refine cdW_not (fun _=>?_) (fun _=>?_)|refine cdW_any (fun _=>?_) (fun _=>?_)|with_reducible refine gdW_decT (fun _=>?_) (fun _=>?_)|with_reducible refine gdW_decF (fun _=>?_) (fun _=>?_)|refine gdW_not (fun _=>?_) (fun _=>?_)|refine gdW_any (fun _=>?_) (fun _=>?_)|simp only [go_sem,↓reduceIte,nE,nA,nM,nB,oN,iT,nS,nL,nD,iE,iL,reduceCtorEq,bne,Int.reduceEq,Int.reduceBEq,Int.reduceBNe,Int.reduceLE,Int.reduceNeg,Int.reduceAdd,Int.reduceSub,Int.reduceMul, *]|rfl)
theorem spec_l9Less.fc (a b:Int×Int) (ha:SOk a) (hb:SOk b):FCt prog F_spec_l9Less [.ro,.ro] [strD a,strD b] (.tup [strD (lessS a b).1,strD (lessS a b).2.1,Bb (lessS a b).2.2]) []:=by
  refine fct_run spec_l9Less.ok rfl ?_
  have w1:IntKind.i64.wrap (b.2 - 1)=b.2 - 1:=by have:=hb.lo;have:=hb.le;have:=hb.hi;exact wrap_in (by omega) (by omega)
  have w2:IntKind.i64.wrap (a.1+1)=a.1+1:=by have:=ha.lo;have:=ha.le;have:=ha.hi;exact wrap_in (by omega) (by omega)
  clear ha hb
  unfold lessS mnI mxI
  repeat' (first|with_reducible rfl|refine fcW_int (spec_l1Most.fc ..) ?_|refine fcW_int (spec_l1Least.fc ..) ?_|with_reducible refine cdW_dec (fun _=>?_) (fun _=>?_)|refine cdW_not (fun _=>?_) (fun _=>?_)|refine cdW_any (fun _=>?_) (fun _=>?_)|with_reducible refine gdW_decT (fun _=>?_) (fun _=>?_)|with_reducible refine gdW_decF (fun _=>?_) (fun _=>?_)|refine gdW_not (fun _=>?_) (fun _=>?_)|refine gdW_any (fun _=>?_) (fun _=>?_)|simp only [go_sem,↓reduceIte,nE,nA,nM,nB,oN,iT,nS,nL,nD,iE,iL,reduceCtorEq,bne,Int.reduceEq,Int.reduceBEq,Int.reduceBNe,Int.reduceLE,Int.reduceNeg,Int.reduceAdd,Int.reduceSub,Int.reduceMul, *]|rfl)
def setR2 (m:MayD) (i j:Int) (x y:Int×Int):MayD:={ m with reg:=(m.reg.set i.toNat x).set j.toNat y }
def setB2 (m:MayD) (i j:Int) (x:Int×Int):MayD:={ m with bits:=(m.bits.set i.toNat x).set j.toNat x }
def heedV (s:StepD) (m:MayD) (t:Bool):MayD×Bool :=
  if s.kind == 9 then
    (if t then (if meetSb (regS m s.dst) (regS m s.src) then (zeroM,false) else if meetKb (bitS m s.dst) (bitS m s.src) then (zeroM,false) else
      (setB2 (setR2 m s.dst s.src (meetS (regS m s.dst) (regS m s.src)) (meetS (regS m s.dst) (regS m s.src))) s.dst s.src (meetK (bitS m s.dst) (bitS m s.src)),true)) else (m,true)) else
  if t then (if (lessS (regS m s.dst) (regS m s.src)).2.2 then (if s.dst == s.src then (zeroM,false) else (setR2 m s.dst s.src (lessS (regS m s.dst) (regS m s.src)).1 (lessS (regS m s.dst) (regS m s.src)).2.1,true)) else (zeroM,false)) else
  if s.dst == s.src then (m,true) else
  if (regS m s.dst).2 ≥ (regS m s.src).1 then (setR2 m s.dst s.src (mxI (regS m s.dst).1 (regS m s.src).1,(regS m s.dst).2) ((regS m s.src).1,mnI (regS m s.src).2 (regS m s.dst).2),true) else (zeroM,false)
theorem setR2_len {m:MayD} {i j:Int} {x y:Int×Int} (h:MLen m):MLen (setR2 m i j x y):=⟨by simp [setR2,h.reg],h.bits,h.cell,h.isset⟩
theorem setB2_len {m:MayD} {i j:Int} {x:Int×Int} (h:MLen m):MLen (setB2 m i j x):=⟨h.reg,by simp [setB2,h.bits],h.cell,h.isset⟩
theorem impl_heedJump.fc (s:StepD) (m:MayD) (t:Bool) (hm:MayOk m) (hv:stepB s=true) (hk:s.kind=9∨s.kind=10) :
    FCt prog F_impl_heedJump [.ro,.ro,.ro] [s.d,m.d,Bb t] (.tup [(heedV s m t).1.d,Bb (heedV s m t).2]) []:=by
  refine fct_run impl_heedJump.ok rfl ?_
  have ok:=step_ok hv
  have ln:=hm.len
  have co:=impl_May_own.fc m ln
  obtain ⟨l1,l2,l3,l4,gr,gb,gc⟩:=hm
  obtain ⟨k,op,dst,src,imm,to⟩:=s
  obtain ⟨_,od,os,oi,oo,ot,_,_⟩:=ok
  dsimp only at *
  have c6:((6:Nat):Int)=6:=rfl
  have c16:((16:Nat):Int)=16:=rfl
  have od1:=od.1
  have od2:dst < 6:=by omega
  have os1:=os.1
  have os2:src < 6:=by omega
  have q1:m.reg[dst.toNat]? = some (regS m dst):=getD_some (by omega)
  have q2:m.reg[src.toNat]? = some (regS m src):=getD_some (by omega)
  have q3:m.bits[dst.toNat]? = some (bitS m dst):=getD_some (by omega)
  have q4:m.bits[src.toNat]? = some (bitS m src):=getD_some (by omega)
  have sd:=gS_ok (gr _ (List.mem_of_getElem? q1))
  have ss:=gS_ok (gr _ (List.mem_of_getElem? q2))
  have kd1:=gK_ok (gb _ (List.mem_of_getElem? q3))
  have ks:=gK_ok (gb _ (List.mem_of_getElem? q4))
  have cm:=impl_meetStretch.fc (regS m dst) (regS m src)
  have ck:=impl_meetKnown.fc (bitS m dst) (bitS m src) kd1 ks
  have cl:=impl_splitLess.fc (regS m dst) (regS m src) sd ss
  have q5:∀ x,(m.reg.set dst.toNat x)[src.toNat]? = some (if dst.toNat=src.toNat then x else regS m src):=fun x=>by
    rw [List.getElem?_set]
    have:dst.toNat < m.reg.length:=by omega
    split
    · rfl
    · exact q2
  have q6:∀ x,(m.bits.set dst.toNat x)[src.toNat]? = some (if dst.toNat=src.toNat then x else bitS m src):=fun x=>by
    rw [List.getElem?_set]
    have:dst.toNat < m.bits.length:=by omega
    split
    · rfl
    · exact q4
  clear gr gb gc sd ss kd1 ks
  unfold heedV setR2 setB2 zeroM
  rcases hk with rfl|rfl
  · cases t with
    | false=>repeat' (first|with_reducible rfl|refine fcW_bd (co) (noRs_May) ?_|with_reducible refine cdW_dec (fun _=>?_) (fun _=>?_)|refine cdW_not (fun _=>?_) (fun _=>?_)|refine cdW_any (fun _=>?_) (fun _=>?_)|with_reducible refine gdW_decT (fun _=>?_) (fun _=>?_)|with_reducible refine gdW_decF (fun _=>?_) (fun _=>?_)|refine gdW_not (fun _=>?_) (fun _=>?_)|refine gdW_any (fun _=>?_) (fun _=>?_)|simp only [go_sem,↓reduceIte,nE,nA,nM,nB,oN,iT,nS,nL,nD,iE,iL,reduceCtorEq,bne,Int.reduceEq,Int.reduceBEq,Int.reduceBNe,Int.reduceLE,Int.reduceNeg,Int.reduceAdd,Int.reduceSub,Int.reduceMul,setAg,setSt,setKn,tk_S,tk_K,tk_B,take_map_len,List.length_set, *]|rfl)
    | true =>
      cases h1:meetSb (regS m dst) (regS m src)<;>rw [h1] at cm<;>cases h2:meetKb (bitS m dst) (bitS m src)<;>rw [h2] at ck <;>
        repeat' (first|with_reducible rfl|refine fcW_bd (co) (noRs_May) ?_|refine fcW_bd (cm) rfl ?_|refine fcW_bd (ck) rfl ?_|with_reducible refine cdW_dec (fun _=>?_) (fun _=>?_)|refine cdW_not (fun _=>?_) (fun _=>?_)|refine cdW_any (fun _=>?_) (fun _=>?_)|with_reducible refine gdW_decT (fun _=>?_) (fun _=>?_)|with_reducible refine gdW_decF (fun _=>?_) (fun _=>?_)|refine gdW_not (fun _=>?_) (fun _=>?_)|refine gdW_any (fun _=>?_) (fun _=>?_)|simp only [go_sem,↓reduceIte,nE,nA,nM,nB,oN,iT,nS,nL,nD,iE,iL,reduceCtorEq,bne,Int.reduceEq,Int.reduceBEq,Int.reduceBNe,Int.reduceLE,Int.reduceNeg,Int.reduceAdd,Int.reduceSub,Int.reduceMul,setAg,setSt,setKn,tk_S,tk_K,tk_B,take_map_len,List.length_set, *]|rfl)
  · cases t with
    | true =>
      generalize lessS (regS m dst) (regS m src)=L at cl ⊢
      obtain ⟨L0,L1,L2⟩:=L
      dsimp only at cl ⊢
      cases L2<;>cases hne:(dst == src)<;>repeat' (first|with_reducible rfl|refine fcW_bd (co) (noRs_May) ?_|refine fcW_bd (cl) rfl ?_|with_reducible refine cdW_dec (fun _=>?_) (fun _=>?_)|refine cdW_not (fun _=>?_) (fun _=>?_)|refine cdW_any (fun _=>?_) (fun _=>?_)|with_reducible refine gdW_decT (fun _=>?_) (fun _=>?_)|with_reducible refine gdW_decF (fun _=>?_) (fun _=>?_)|refine gdW_not (fun _=>?_) (fun _=>?_)|refine gdW_any (fun _=>?_) (fun _=>?_)|simp only [go_sem,↓reduceIte,nE,nA,nM,nB,oN,iT,nS,nL,nD,iE,iL,reduceCtorEq,bne,Int.reduceEq,Int.reduceBEq,Int.reduceBNe,Int.reduceLE,Int.reduceNeg,Int.reduceAdd,Int.reduceSub,Int.reduceMul,setAg,setSt,setKn,tk_S,tk_K,tk_B,take_map_len,List.length_set, *]|rfl)
    | false =>
      by_cases hge:(regS m dst).2 ≥ (regS m src).1<;>cases hne:(dst == src)
      · repeat' (first|with_reducible rfl|refine fcW_bd (co) (noRs_May) ?_|with_reducible refine cdW_dec (fun _=>?_) (fun _=>?_)|refine cdW_not (fun _=>?_) (fun _=>?_)|refine cdW_any (fun _=>?_) (fun _=>?_)|with_reducible refine gdW_decT (fun _=>?_) (fun _=>?_)|with_reducible refine gdW_decF (fun _=>?_) (fun _=>?_)|refine gdW_not (fun _=>?_) (fun _=>?_)|refine gdW_any (fun _=>?_) (fun _=>?_)|simp only [go_sem,↓reduceIte,nE,nA,nM,nB,oN,iT,nS,nL,nD,iE,iL,reduceCtorEq,bne,Int.reduceEq,Int.reduceBEq,Int.reduceBNe,Int.reduceLE,Int.reduceNeg,Int.reduceAdd,Int.reduceSub,Int.reduceMul,mxI,mnI,setAg,setSt,setKn,tk_S,tk_K,tk_B,take_map_len,List.length_set, *]|rfl)
      · repeat' (first|with_reducible rfl|refine fcW_bd (co) (noRs_May) ?_|with_reducible refine cdW_dec (fun _=>?_) (fun _=>?_)|refine cdW_not (fun _=>?_) (fun _=>?_)|refine cdW_any (fun _=>?_) (fun _=>?_)|with_reducible refine gdW_decT (fun _=>?_) (fun _=>?_)|with_reducible refine gdW_decF (fun _=>?_) (fun _=>?_)|refine gdW_not (fun _=>?_) (fun _=>?_)|refine gdW_any (fun _=>?_) (fun _=>?_)|simp only [go_sem,↓reduceIte,nE,nA,nM,nB,oN,iT,nS,nL,nD,iE,iL,reduceCtorEq,bne,Int.reduceEq,Int.reduceBEq,Int.reduceBNe,Int.reduceLE,Int.reduceNeg,Int.reduceAdd,Int.reduceSub,Int.reduceMul,mxI,mnI,setAg,setSt,setKn,tk_S,tk_K,tk_B,take_map_len,List.length_set, *]|rfl)
      · repeat' (first|with_reducible rfl|refine fcW_bd (co) (noRs_May) ?_|with_reducible refine cdW_dec (fun _=>?_) (fun _=>?_)|refine cdW_not (fun _=>?_) (fun _=>?_)|refine cdW_any (fun _=>?_) (fun _=>?_)|with_reducible refine gdW_decT (fun _=>?_) (fun _=>?_)|with_reducible refine gdW_decF (fun _=>?_) (fun _=>?_)|refine gdW_not (fun _=>?_) (fun _=>?_)|refine gdW_any (fun _=>?_) (fun _=>?_)|simp only [go_sem,↓reduceIte,nE,nA,nM,nB,oN,iT,nS,nL,nD,iE,iL,reduceCtorEq,bne,Int.reduceEq,Int.reduceBEq,Int.reduceBNe,Int.reduceLE,Int.reduceNeg,Int.reduceAdd,Int.reduceSub,Int.reduceMul,mxI,mnI,setAg,setSt,setKn,tk_S,tk_K,tk_B,take_map_len,List.length_set, *]|rfl)
      · repeat' (first|with_reducible rfl|refine fcW_bd (co) (noRs_May) ?_|with_reducible refine cdW_dec (fun _=>?_) (fun _=>?_)|refine cdW_not (fun _=>?_) (fun _=>?_)|refine cdW_any (fun _=>?_) (fun _=>?_)|with_reducible refine gdW_decT (fun _=>?_) (fun _=>?_)|with_reducible refine gdW_decF (fun _=>?_) (fun _=>?_)|refine gdW_not (fun _=>?_) (fun _=>?_)|refine gdW_any (fun _=>?_) (fun _=>?_)|simp only [go_sem,↓reduceIte,nE,nA,nM,nB,oN,iT,nS,nL,nD,iE,iL,reduceCtorEq,bne,Int.reduceEq,Int.reduceBEq,Int.reduceBNe,Int.reduceLE,Int.reduceNeg,Int.reduceAdd,Int.reduceSub,Int.reduceMul,mxI,mnI,setAg,setSt,setKn,tk_S,tk_K,tk_B,take_map_len,List.length_set, *]|rfl)
end Go.Vm.Ytmbhjcgikblpiaa
namespace Go.Vm.Ytmbhjcgikblpiaa
open Go Go.Vm
set_option maxRecDepth 10000
set_option maxHeartbeats 32000000
set_option linter.unusedSimpArgs false
set_option linter.unusedVariables false
theorem set_same {α:Type} {l:List α} {i:Nat} {x:α} (h:l[i]? = some x):l.set i x=l:=by
  apply List.ext_getElem?
  intro j
  rw [List.getElem?_set]
  split
  · rename_i e;subst e
    split
    · exact h.symm
    · rename_i hl;exact absurd (List.getElem?_eq_some_iff.1 h).1 hl
  · rfl
theorem spec_l13Heed.fc (s:StepD) (m:MayD) (t:Bool) (hm:MayOk m) (hv:stepB s=true) (hk:s.kind=9∨s.kind=10) :
    FCt prog F_spec_l13Heed [.ro,.co,.ro] [s.d,m.d,Bb t] (.tup [(heedV s m t).1.d,Bb (heedV s m t).2]) []:=by
  refine fct_run spec_l13Heed.ok rfl ?_
  have ok:=step_ok hv
  have ln:=hm.len
  obtain ⟨l1,l2,l3,l4,gr,gb,gc⟩:=hm
  obtain ⟨k,op,dst,src,imm,to⟩:=s
  obtain ⟨_,od,os,oi,oo,ot,_,_⟩:=ok
  dsimp only at *
  have c6:((6:Nat):Int)=6:=rfl
  have c16:((16:Nat):Int)=16:=rfl
  have od1:=od.1
  have od2:dst < 6:=by omega
  have os1:=os.1
  have os2:src < 6:=by omega
  have q1:m.reg[dst.toNat]? = some (regS m dst):=getD_some (by omega)
  have q2:m.reg[src.toNat]? = some (regS m src):=getD_some (by omega)
  have q3:m.bits[dst.toNat]? = some (bitS m dst):=getD_some (by omega)
  have q4:m.bits[src.toNat]? = some (bitS m src):=getD_some (by omega)
  have sd:=gS_ok (gr _ (List.mem_of_getElem? q1))
  have ss:=gS_ok (gr _ (List.mem_of_getElem? q2))
  have kd1:=gK_ok (gb _ (List.mem_of_getElem? q3))
  have ks:=gK_ok (gb _ (List.mem_of_getElem? q4))
  have cm:=spec_l9Meet.fc (regS m dst) (regS m src)
  have ck:=spec_l10Meet.fc (bitS m dst) (bitS m src)
  have cl:=spec_l9Less.fc (regS m dst) (regS m src) sd ss
  have q5:∀ x,(m.reg.set dst.toNat x)[src.toNat]? = some (if dst.toNat=src.toNat then x else regS m src):=fun x=>by
    rw [List.getElem?_set]
    have:dst.toNat < m.reg.length:=by omega
    split
    · rfl
    · exact q2
  have q6:∀ x,(m.bits.set dst.toNat x)[src.toNat]? = some (if dst.toNat=src.toNat then x else bitS m src):=fun x=>by
    rw [List.getElem?_set]
    have:dst.toNat < m.bits.length:=by omega
    split
    · rfl
    · exact q4
  have z1:(m.reg.set dst.toNat (regS m dst)).set src.toNat (regS m src)=m.reg:=by rw [set_same q1,set_same q2]
  have z2:dst=src→meetS (regS m dst) (regS m src)=regS m dst:=fun h=>by
    subst h
    have:=sd.le
    have e1:mxI (regS m dst).1 (regS m dst).1=(regS m dst).1:=by unfold mxI;split<;>rfl
    have e2:mnI (regS m dst).2 (regS m dst).2=(regS m dst).2:=by unfold mnI;split<;>rfl
    unfold meetS meetSb
    rw [e1,e2,if_neg (by rw [decide_eq_true_eq];omega)]
  have z3:dst=src→(regS m dst).2 ≥ (regS m src).1:=fun h=>by subst h;have:=sd.le;omega
  have z4:dst=src→((m.reg.set dst.toNat (meetS (regS m dst) (regS m src))).set src.toNat (meetS (regS m dst) (regS m src)))=m.reg:=fun h=>by
    rw [z2 h]
    subst h
    rw [set_same q1,set_same q1]
  clear gr gb gc sd ss kd1 ks
  unfold heedV setR2 setB2 zeroM
  rcases hk with rfl|rfl
  · cases t with
    | false =>
      clear z2 z3 z4
      cases hne:(dst == src)<;>repeat' (first|with_reducible rfl|with_reducible refine cdW_dec (fun _=>?_) (fun _=>?_)|refine cdW_not (fun _=>?_) (fun _=>?_)|refine cdW_any (fun _=>?_) (fun _=>?_)|with_reducible refine gdW_decT (fun _=>?_) (fun _=>?_)|with_reducible refine gdW_decF (fun _=>?_) (fun _=>?_)|refine gdW_not (fun _=>?_) (fun _=>?_)|refine gdW_any (fun _=>?_) (fun _=>?_)|simp only [go_sem,↓reduceIte,nE,nA,nM,nB,oN,iT,nS,nL,nD,iE,iL,reduceCtorEq,bne,Int.reduceEq,Int.reduceBEq,Int.reduceBNe,Int.reduceLE,Int.reduceNeg,Int.reduceAdd,Int.reduceSub,Int.reduceMul,z1,setAg,setSt,setKn,tk_S,tk_K,tk_B,take_map_len,List.length_set, *]|rfl)
    | true =>
      cases h1:meetSb (regS m dst) (regS m src)<;>rw [h1] at cm<;>cases h2:meetKb (bitS m dst) (bitS m src)<;>rw [h2] at ck
      · generalize meetS (regS m dst) (regS m src)=X at z2 z4 cm ⊢
        cases hne:(dst == src)
        · clear z1 z2 z3 z4
          repeat' (first|with_reducible rfl|refine fcW_bd (cm) rfl ?_|refine fcW_bd (ck) rfl ?_|with_reducible refine cdW_dec (fun _=>?_) (fun _=>?_)|refine cdW_not (fun _=>?_) (fun _=>?_)|refine cdW_any (fun _=>?_) (fun _=>?_)|with_reducible refine gdW_decT (fun _=>?_) (fun _=>?_)|with_reducible refine gdW_decF (fun _=>?_) (fun _=>?_)|refine gdW_not (fun _=>?_) (fun _=>?_)|refine gdW_any (fun _=>?_) (fun _=>?_)|simp only [go_sem,↓reduceIte,nE,nA,nM,nB,oN,iT,nS,nL,nD,iE,iL,reduceCtorEq,bne,Int.reduceEq,Int.reduceBEq,Int.reduceBNe,Int.reduceLE,Int.reduceNeg,Int.reduceAdd,Int.reduceSub,Int.reduceMul,setAg,setSt,setKn,tk_S,tk_K,tk_B,take_map_len,List.length_set, *]|rfl)
        · have z4:=z4 (by simpa using hne)
          clear z1 z2 z3
          repeat' (first|with_reducible rfl|refine fcW_bd (cm) rfl ?_|refine fcW_bd (ck) rfl ?_|with_reducible refine cdW_dec (fun _=>?_) (fun _=>?_)|refine cdW_not (fun _=>?_) (fun _=>?_)|refine cdW_any (fun _=>?_) (fun _=>?_)|with_reducible refine gdW_decT (fun _=>?_) (fun _=>?_)|with_reducible refine gdW_decF (fun _=>?_) (fun _=>?_)|refine gdW_not (fun _=>?_) (fun _=>?_)|refine gdW_any (fun _=>?_) (fun _=>?_)|simp only [go_sem,↓reduceIte,nE,nA,nM,nB,oN,iT,nS,nL,nD,iE,iL,reduceCtorEq,bne,Int.reduceEq,Int.reduceBEq,Int.reduceBNe,Int.reduceLE,Int.reduceNeg,Int.reduceAdd,Int.reduceSub,Int.reduceMul,setAg,setSt,setKn,tk_S,tk_K,tk_B,take_map_len,List.length_set, *]|rfl)
      all_goals
        clear z1 z2 z3 z4
        repeat' (first|with_reducible rfl|refine fcW_bd (cm) rfl ?_|refine fcW_bd (ck) rfl ?_|with_reducible refine cdW_dec (fun _=>?_) (fun _=>?_)|refine cdW_not (fun _=>?_) (fun _=>?_)|refine cdW_any (fun _=>?_) (fun _=>?_)|with_reducible refine gdW_decT (fun _=>?_) (fun _=>?_)|with_reducible refine gdW_decF (fun _=>?_) (fun _=>?_)|refine gdW_not (fun _=>?_) (fun _=>?_)|refine gdW_any (fun _=>?_) (fun _=>?_)|simp only [go_sem,↓reduceIte,nE,nA,nM,nB,oN,iT,nS,nL,nD,iE,iL,reduceCtorEq,bne,Int.reduceEq,Int.reduceBEq,Int.reduceBNe,Int.reduceLE,Int.reduceNeg,Int.reduceAdd,Int.reduceSub,Int.reduceMul,setAg,setSt,setKn,tk_S,tk_K,tk_B,take_map_len,List.length_set, *]|rfl)
  · cases t with
    | true =>
      clear z1 z2 z3 z4
      generalize lessS (regS m dst) (regS m src)=L at cl ⊢
      obtain ⟨L0,L1,L2⟩:=L
      dsimp only at cl ⊢
      cases L2<;>cases hne:(dst == src)<;>repeat' (first|with_reducible rfl|refine fcW_bd (cl) rfl ?_|with_reducible refine cdW_dec (fun _=>?_) (fun _=>?_)|refine cdW_not (fun _=>?_) (fun _=>?_)|refine cdW_any (fun _=>?_) (fun _=>?_)|with_reducible refine gdW_decT (fun _=>?_) (fun _=>?_)|with_reducible refine gdW_decF (fun _=>?_) (fun _=>?_)|refine gdW_not (fun _=>?_) (fun _=>?_)|refine gdW_any (fun _=>?_) (fun _=>?_)|simp only [go_sem,↓reduceIte,nE,nA,nM,nB,oN,iT,nS,nL,nD,iE,iL,reduceCtorEq,bne,Int.reduceEq,Int.reduceBEq,Int.reduceBNe,Int.reduceLE,Int.reduceNeg,Int.reduceAdd,Int.reduceSub,Int.reduceMul,setAg,setSt,setKn,tk_S,tk_K,tk_B,take_map_len,List.length_set, *]|rfl)
    | false =>
      cases hne:(dst == src)
      · clear z1 z2 z3 z4
        have sy:(if (regS m src).2 < (regS m dst).2 then (regS m src).2 else (regS m dst).2)=(if (regS m dst).2 < (regS m src).2 then (regS m dst).2 else (regS m src).2):=by split<;>split<;>omega
        by_cases hge:(regS m dst).2 ≥ (regS m src).1
        · repeat' (first|with_reducible rfl|refine fcW_int (spec_l1Most.fc ..) ?_|refine fcW_int (spec_l1Least.fc ..) ?_|with_reducible refine cdW_dec (fun _=>?_) (fun _=>?_)|refine cdW_not (fun _=>?_) (fun _=>?_)|refine cdW_any (fun _=>?_) (fun _=>?_)|with_reducible refine gdW_decT (fun _=>?_) (fun _=>?_)|with_reducible refine gdW_decF (fun _=>?_) (fun _=>?_)|refine gdW_not (fun _=>?_) (fun _=>?_)|refine gdW_any (fun _=>?_) (fun _=>?_)|simp only [go_sem,↓reduceIte,nE,nA,nM,nB,oN,iT,nS,nL,nD,iE,iL,reduceCtorEq,bne,Int.reduceEq,Int.reduceBEq,Int.reduceBNe,Int.reduceLE,Int.reduceNeg,Int.reduceAdd,Int.reduceSub,Int.reduceMul,mxI,mnI,setAg,setSt,setKn,tk_S,tk_K,tk_B,take_map_len,List.length_set, *]|rfl)
        · repeat' (first|with_reducible rfl|refine fcW_int (spec_l1Most.fc ..) ?_|refine fcW_int (spec_l1Least.fc ..) ?_|with_reducible refine cdW_dec (fun _=>?_) (fun _=>?_)|refine cdW_not (fun _=>?_) (fun _=>?_)|refine cdW_any (fun _=>?_) (fun _=>?_)|with_reducible refine gdW_decT (fun _=>?_) (fun _=>?_)|with_reducible refine gdW_decF (fun _=>?_) (fun _=>?_)|refine gdW_not (fun _=>?_) (fun _=>?_)|refine gdW_any (fun _=>?_) (fun _=>?_)|simp only [go_sem,↓reduceIte,nE,nA,nM,nB,oN,iT,nS,nL,nD,iE,iL,reduceCtorEq,bne,Int.reduceEq,Int.reduceBEq,Int.reduceBNe,Int.reduceLE,Int.reduceNeg,Int.reduceAdd,Int.reduceSub,Int.reduceMul,mxI,mnI,setAg,setSt,setKn,tk_S,tk_K,tk_B,take_map_len,List.length_set, *]|rfl)
      · have z3:=z3 (by simpa using hne)
        clear z1 z2 z4
        repeat' (first|with_reducible rfl|refine fcW_int (spec_l1Most.fc ..) ?_|refine fcW_int (spec_l1Least.fc ..) ?_|with_reducible refine cdW_dec (fun _=>?_) (fun _=>?_)|refine cdW_not (fun _=>?_) (fun _=>?_)|refine cdW_any (fun _=>?_) (fun _=>?_)|with_reducible refine gdW_decT (fun _=>?_) (fun _=>?_)|with_reducible refine gdW_decF (fun _=>?_) (fun _=>?_)|refine gdW_not (fun _=>?_) (fun _=>?_)|refine gdW_any (fun _=>?_) (fun _=>?_)|simp only [go_sem,↓reduceIte,nE,nA,nM,nB,oN,iT,nS,nL,nD,iE,iL,reduceCtorEq,bne,Int.reduceEq,Int.reduceBEq,Int.reduceBNe,Int.reduceLE,Int.reduceNeg,Int.reduceAdd,Int.reduceSub,Int.reduceMul,mxI,mnI,setAg,setSt,setKn,tk_S,tk_K,tk_B,take_map_len,List.length_set, *]|rfl)
theorem noRs_mayB {m:MayD} {b:Bool}:noRs (.tup [m.d,Bb b])=true:=noRs_t2 noRs_May rfl
end Go.Vm.Ytmbhjcgikblpiaa
namespace Go.Vm.Ytmbhjcgikblpiaa
open Go Go.Vm
set_option maxRecDepth 10000
set_option maxHeartbeats 8000000
set_option linter.unusedSimpArgs false
set_option linter.unusedVariables false
theorem tdiv_wd {a b:Int} (ha:wd a) (hb:wd b):wd (IntKind.i64.wrap (Int.tdiv a b)):=by
  have h1:0≤Int.tdiv a b:=by rw [Int.tdiv_eq_ediv_of_nonneg ha.1];exact Int.ediv_nonneg ha.1 hb.1
  have h2:Int.tdiv a b≤a:=by rw [Int.tdiv_eq_ediv_of_nonneg ha.1];exact Int.ediv_le_self b ha.1
  have:=ha.2
  rw [wrap_in (by omega) (by omega)]
  exact ⟨h1,by omega⟩
theorem tmod_wd {a b:Int} (ha:wd a) (hb:wd b) (h:b≠0):wd (Int.tmod a b):=by
  rw [Int.tmod_eq_emod_of_nonneg ha.1]
  have h1:=Int.emod_nonneg a h
  have h2:=Int.emod_lt_of_pos a (show 0 < b by have:=hb.1;omega)
  have:=hb.2
  exact ⟨h1,by omega⟩
theorem fdiv_wd {a:Int} {k:Nat} (ha:wd a):wd (Int.fdiv a (2 ^ k)):=by
  have hp:(0:Int)≤2 ^ k:=Int.pow_nonneg (by decide)
  rw [Int.fdiv_eq_ediv_of_nonneg _ hp]
  have h1:=Int.ediv_nonneg ha.1 hp
  have h2:=Int.ediv_le_self (2 ^ k:Int) ha.1
  have:=ha.2
  exact ⟨h1,by omega⟩
theorem doI_wd {op a b:Int} (ha:wd a) (hb:wd b):wd (doI op a b):=by
  have key:∀ (c:Prop) [Decidable c] (x y:Int),(c→wd x)→(¬ c→wd y)→wd (if c then x else y):=by
    intro c _ x y hx hy;split
    · rename_i h;exact hx h
    · rename_i h;exact hy h
  have z:wd 0:=⟨by decide,by decide⟩
  unfold doI
  refine key _ _ _ (fun _=>emod_wd _) fun _=>key _ _ _ (fun _=>emod_wd _) fun _=>key _ _ _ (fun _=>emod_wd _) fun _=>key _ _ _ (fun _=>key _ _ _ (fun _=>z) fun _=>tdiv_wd ha hb) fun _=>key _ _ _ (fun _=>key _ _ _ (fun _=>ha) fun h=>tmod_wd ha hb (by simpa using h)) fun _ =>
    key _ _ _ (fun _=>andI_wd ha) fun _=>key _ _ _ (fun _=>orI_wd ha hb) fun _=>key _ _ _ (fun _=>xorI_wd ha hb) fun _=>key _ _ _ (fun _=>emod_wd _) fun _=>fdiv_wd ha
end Go.Vm.Ytmbhjcgikblpiaa
namespace Go.Vm.Ytmbhjcgikblpiaa
open Go Go.Vm
set_option maxRecDepth 10000
set_option maxHeartbeats 4000000
set_option linter.unusedSimpArgs false
set_option linter.unusedVariables false
theorem mnI_le {a b:Int}:mnI a b≤a∧mnI a b≤b∧(mnI a b=a∨mnI a b=b):=by unfold mnI;split<;>omega
theorem mxI_ge {a b:Int}:a≤mxI a b∧b≤mxI a b∧(mxI a b=a∨mxI a b=b):=by unfold mxI;split<;>omega
theorem endsI_ok {a b:Int} (h:a≤b):SOk (endsI a b):=by
  unfold endsI
  split
  · exact ⟨by decide,by decide,by decide⟩
  · rename_i hc
    have hc:a / 65536=b / 65536:=by simpa using hc
    refine ⟨?_,?_,?_⟩<;>dsimp only<;>omega
theorem onesW_ge (n k:Int) (h0:0≤k):n≤onesW n k:=by
  by_cases h:k < n
  · rw [onesW_go h0 h]
    exact onesW_ge n (2 * k+1) (by omega)
  · rw [onesW_end h];omega
  termination_by (n - k).toNat
  decreasing_by omega
theorem onesW_form (n:Int) (hn:n≤65535):∃ j:Nat,j≤16∧onesW n 0=2 ^ j - 1:=by
  have key:∀ d j:Nat,d+j=16→∃ j':Nat,j'≤16∧onesW n (2 ^ j - 1)=2 ^ j' - 1:=by
    intro d
    induction d with
    | zero =>
      intro j h
      obtain rfl:j=16:=by omega
      refine ⟨16,Nat.le_refl _,onesW_end ?_⟩
      have:(2:Int) ^ 16=65536:=by decide
      omega
    | succ d ih =>
      intro j h
      by_cases hc:(2:Int) ^ j - 1 < n
      · have hp:(0:Int) < 2 ^ j:=Int.pow_pos (by decide)
        rw [onesW_go (by omega) hc]
        obtain ⟨j',h1,h2⟩:=ih (j+1) (by omega)
        refine ⟨j',h1,?_⟩
        rw [← h2,Int.pow_succ]
        exact congrArg _ (by omega)
      · exact ⟨j,by omega,onesW_end hc⟩
  exact key 16 0 (by omega)
theorem onesW_hi {n:Int} (hn:n≤65535):onesW n 0≤65535:=by
  obtain ⟨j,hj,e⟩:=onesW_form n hn
  rw [e]
  have h1:(2:Nat) ^ j≤2 ^ 16:=Nat.pow_le_pow_right (by decide) hj
  have h2:((2 ^ j:Nat):Int)=(2:Int) ^ j:=by simp
  omega
theorem all_ok:SOk (0,65535):=⟨by decide,by decide,by decide⟩
theorem tdiv_mono {a b m:Int} (h0:0≤a) (h:a≤b) (hm:0 < m):Int.tdiv a m≤Int.tdiv b m:=by
  rw [Int.tdiv_eq_ediv_of_nonneg h0,Int.tdiv_eq_ediv_of_nonneg (by omega)]
  exact Int.ediv_le_ediv hm h
theorem tdiv_anti {a b c d:Int} (h0:0≤a) (h:a≤b) (hc:0 < d) (hd:d≤c):Int.tdiv a c≤Int.tdiv b d:=by
  rw [Int.tdiv_eq_ediv_of_nonneg h0,Int.tdiv_eq_ediv_of_nonneg (by omega)]
  have h1:a / c≤a / d:=by
    refine (Int.le_ediv_iff_mul_le hc).2 ?_
    have h2:a / c * c≤a:=Int.ediv_mul_le a (by omega)
    have h3:0≤a / c:=Int.ediv_nonneg h0 (by omega)
    have h4:a / c * d≤a / c * c:=Int.mul_le_mul_of_nonneg_left hd h3
    omega
  have h2:a / d≤b / d:=Int.ediv_le_ediv hc h
  omega
theorem shS_ok {op:Int} {a b:Int×Int} (ha:SOk a) (hb:SOk b):SOk (shS op a b):=by
  obtain ⟨a1,a2,a3⟩:=ha
  obtain ⟨b1,b2,b3⟩:=hb
  have hp:=shP_in b1
  have hx:=tdiv_in (a:=a.1) (b:=shP b.1) a1 (by omega)
  have hy:=tdiv_in (a:=a.2) (b:=shP b.1) (by omega) (by omega)
  have hz:=tdiv_mono (m:=shP b.1) a1 a2 (by omega)
  unfold shS
  split
  · split
    · exact endsI_ok (Int.mul_le_mul_of_nonneg_right a2 (by omega))
    · exact all_ok
  · split
    · refine ⟨?_,?_,?_⟩<;>dsimp only<;>omega
    · refine ⟨?_,?_,?_⟩<;>dsimp only<;>omega
theorem stI_ok {op:Int} {a b:Int×Int} (ha:SOk a) (hb:SOk b):SOk (stI op a b):=by
  have hs:=shS_ok (op:=op) ha hb
  have ha':=ha
  obtain ⟨a1,a2,a3⟩:=ha
  obtain ⟨b1,b2,b3⟩:=hb
  have hn:=mnI_le (a:=a.2) (b:=b.2)
  have hn2:=mnI_le (a:=a.2) (b:=b.2 - 1)
  have hm:=mxI_ge (a:=a.1) (b:=b.1)
  have hm2:=mxI_ge (a:=a.2) (b:=b.2)
  have o1:=onesW_ge (mxI a.2 b.2) 0 (by omega)
  have o2:=onesW_hi (n:=mxI a.2 b.2) (by omega)
  unfold stI
  split
  · exact endsI_ok (by omega)
  split
  · exact endsI_ok (by omega)
  split
  · refine endsI_ok ?_
    exact Int.mul_le_mul a2 b2 b1 (by omega)
  split
  · split
    · refine ⟨?_,?_,?_⟩<;>dsimp only<;>omega
    · rename_i hb0
      have hb0:¬ b.1=0:=by simpa using hb0
      have h1:=tdiv_in (a:=a.1) (b:=b.2) a1 (by omega)
      have h2:=tdiv_in (a:=a.2) (b:=b.1) (by omega) (by omega)
      have h3:=tdiv_anti (a:=a.1) (b:=a.2) (c:=b.2) (d:=b.1) a1 a2 (by omega) b2
      refine ⟨?_,?_,?_⟩<;>dsimp only<;>omega
  split
  · unfold modS
    split
    · exact ha'
    split
    · refine ⟨?_,?_,?_⟩<;>dsimp only<;>omega
    · rename_i hb0
      have hb0:¬ b.1=0:=by simpa using hb0
      refine ⟨?_,?_,?_⟩<;>dsimp only<;>omega
  split
  · refine ⟨?_,?_,?_⟩<;>dsimp only<;>omega
  split
  · refine ⟨?_,?_,?_⟩<;>dsimp only<;>omega
  split
  · refine ⟨?_,?_,?_⟩<;>dsimp only<;>omega
  exact hs
theorem knN_ok {v m:Int} (hv:wd v) (hm:wd m):KOk (knN v m):=by
  refine ⟨andNotI_wd hv,hm,?_⟩
  show andI (andNotI v m) m=0
  rw [andI_bv,andNotI_bv,bI_toInt]
  have:bI v &&& ~~~bI m &&& bI m=0#64:=by
    apply BitVec.eq_of_getLsbD_eq
    intro i hi
    simp only [BitVec.getLsbD_and,BitVec.getLsbD_not]
    cases (bI v).getLsbD i<;>cases (bI m).getLsbD i<;>simp
  rw [this];rfl
theorem wd0:wd 0:=⟨by decide,by decide⟩
theorem wdF:wd 65535:=⟨by decide,by decide⟩
theorem unk_ok:KOk (0,65535):=⟨wd0,wdF,by decide⟩
theorem kbI_ok {op:Int} {a b:Int×Int} (ha:KOk a) (hb:KOk b):KOk (kbI op a b):=by
  unfold kbI
  split
  · refine ⟨andI_wd ha.v,andNotI_wd (andI_wd (orI_wd ha.v ha.m)),?_⟩
    dsimp only
    generalize andI a.1 b.1=v
    generalize andI (orI a.1 a.2) (orI b.1 b.2)=w
    rw [andI_bv,andNotI_bv,bI_toInt]
    have:bI v &&& (bI w &&& ~~~bI v)=0#64:=by
      apply BitVec.eq_of_getLsbD_eq
      intro i hi
      simp only [BitVec.getLsbD_and,BitVec.getLsbD_not]
      cases (bI v).getLsbD i<;>cases (bI w).getLsbD i<;>simp
    rw [this];rfl
  split
  · refine ⟨orI_wd ha.v hb.v,andNotI_wd (orI_wd ha.m hb.m),?_⟩
    dsimp only
    generalize orI a.1 b.1=v
    generalize orI a.2 b.2=w
    rw [andI_bv,andNotI_bv,bI_toInt]
    have:bI v &&& (bI w &&& ~~~bI v)=0#64:=by
      apply BitVec.eq_of_getLsbD_eq
      intro i hi
      simp only [BitVec.getLsbD_and,BitVec.getLsbD_not]
      cases (bI v).getLsbD i<;>cases (bI w).getLsbD i<;>simp
    rw [this];rfl
  · exact knN_ok (xorI_wd ha.v hb.v) (orI_wd ha.m hb.m)
theorem fdiv_shift {a:Int} (ha:wd a) (n:Nat):Int.fdiv a (2 ^ n)=((a.toNat >>> n:Nat):Int):=by
  have hp : (0 : Int) ≤ 2 ^ n := by have : (0 : Int) < 2 ^ n := Int.pow_pos (by decide)
                                    omega
  rw [Int.fdiv_eq_ediv_of_nonneg _ hp,Nat.shiftRight_eq_div_pow]
  have:a=(a.toNat:Int):=by have:=ha.1;omega
  rw [this]
  simp
theorem shl_mod {a:Int} (ha:wd a) {n:Nat} (hn:n < 16):IntKind.i64.wrap (a * 2 ^ n) % 65536=(((a.toNat <<< n) % 2 ^ 16:Nat):Int):=by
  have h0:=ha.1
  have e:a=(a.toNat:Int):=by omega
  have hl:a.toNat * 2 ^ n < 2 ^ 16 * 2 ^ 16:=Nat.mul_lt_mul'' ha.lt (Nat.pow_lt_pow_right (by decide) hn)
  rw [Nat.shiftLeft_eq]
  have e2:a * 2 ^ n=((a.toNat * 2 ^ n:Nat):Int):=by rw [Int.natCast_mul,← e];simp
  rw [e2,wrap_in (by omega) (by omega)]
  omega
theorem sh_ok {op:Int} {a b:Int×Int} (ho:op=9∨op=10) (ha:KOk a) (hb:KOk b):KOk (doI op a.1 b.1,doI op a.2 b.1):=by
  refine ⟨doI_wd ha.v hb.v,doI_wd ha.m hb.v,?_⟩
  dsimp only
  have ht:=tmod16 hb.v.1
  have hd:a.1.toNat &&& a.2.toNat=0:=by
    have:=ha.dj
    rw [andI_nat ha.v.nn ha.m.nn] at this
    omega
  have hn:min (Int.tmod b.1 16).toNat IntKind.i64.bits < 16:=by show min _ 64 < 16;omega
  generalize hk:min (Int.tmod b.1 16).toNat IntKind.i64.bits=k at hn
  rcases ho with rfl|rfl
  · have e:∀ x,doI 9 x b.1=IntKind.i64.wrap (x * 2 ^ k) % 65536:=fun x=>by rw [← hk];rfl
    rw [e,e,shl_mod ha.v hn,shl_mod ha.m hn,andI_nat ⟨by omega,by omega⟩ ⟨by omega,by omega⟩]
    simp only [Int.toNat_natCast]
    rw [← Nat.and_mod_two_pow,← Nat.shiftLeft_and_distrib,hd]
    simp
  · have e:∀ x,doI 10 x b.1=Int.fdiv x (2 ^ k):=fun x=>by rw [← hk];rfl
    have l1:a.1.toNat >>> k≤a.1.toNat:=by rw [Nat.shiftRight_eq_div_pow];exact Nat.div_le_self _ _
    have l2:a.2.toNat >>> k≤a.2.toNat:=by rw [Nat.shiftRight_eq_div_pow];exact Nat.div_le_self _ _
    have w1:=ha.v.lt
    have w2:=ha.m.lt
    have n1:nn ((a.1.toNat >>> k:Nat):Int):=⟨Int.natCast_nonneg _,by generalize a.1.toNat >>> k=u at l1 ⊢;omega⟩
    have n2:nn ((a.2.toNat >>> k:Nat):Int):=⟨Int.natCast_nonneg _,by generalize a.2.toNat >>> k=u at l2 ⊢;omega⟩
    rw [e,e,fdiv_shift ha.v,fdiv_shift ha.m,andI_nat n1 n2]
    simp only [Int.toNat_natCast]
    rw [← Nat.shiftRight_and_distrib,hd]
    simp
theorem kdI_ok {op:Int} {a b:Int×Int} (ha:KOk a) (hb:KOk b):KOk (kdI op a b):=by
  unfold kdI
  split
  · exact kbI_ok ha hb
  split
  · exact kbI_ok ha hb
  split
  · exact kbI_ok ha hb
  split
  · exact knN_ok (emod_wd _) (orI_wd (orI_wd ha.m hb.m) (xorI_wd (emod_wd _) (emod_wd _)))
  split
  · exact knN_ok (emod_wd _) (orI_wd (orI_wd ha.m hb.m) (xorI_wd (emod_wd _) (emod_wd _)))
  split
  · split
    · rename_i h _
      exact sh_ok (.inl (by simpa using h)) ha hb
    · exact unk_ok
  split
  · split
    · rename_i h _
      exact sh_ok (.inr (by simpa using h)) ha hb
    · exact unk_ok
  split
  · split
    · exact ⟨doI_wd ha.v hb.v,wd0,by
        show andI (doI op a.1 b.1) 0=0
        rw [andI_nat (doI_wd ha.v hb.v).nn wd0.nn];simp⟩
    · exact unk_ok
  · exact unk_ok
theorem exact_ok {n:Int} (h:wd n):KOk (n,0):=kOk_const h
theorem reduS_ok {s k:Int×Int} (hs:SOk s) (hk:KOk k) {r:(Int×Int)×(Int×Int)} (h:reduS s k=some r):SOk r.1∧KOk r.2:=by
  obtain ⟨s1,s2,s3⟩:=hs
  have k1:=hk.v
  have k2:=hk.m
  unfold wd at k1 k2
  have hw:IntKind.i64.wrap (k.1+k.2)=k.1+k.2:=wrap_in (by omega) (by omega)
  unfold reduS at h
  dsimp only at h
  rw [hw] at h
  generalize hlo:(if k.1 > s.1 then k.1 else s.1)=lo at h
  generalize hhi:(if k.1+k.2 < s.2 then k.1+k.2 else s.2)=hi at h
  have l1:k.1≤lo∧s.1≤lo∧(lo=k.1∨lo=s.1):=by subst hlo;split<;>omega
  have l2:hi≤k.1+k.2∧hi≤s.2∧(hi=k.1+k.2∨hi=s.2):=by subst hhi;split<;>omega
  clear hlo hhi
  by_cases c1:lo > hi
  · rw [if_pos c1] at h;cases h
  rw [if_neg c1] at h
  by_cases c2:lo < hi
  · rw [if_pos c2] at h
    injection h with h
    subst h
    exact ⟨⟨by dsimp only;omega,by dsimp only;omega,by dsimp only;omega⟩,hk⟩
  rw [if_neg c2] at h
  split at h
  · injection h with h
    subst h
    exact ⟨⟨by dsimp only;omega,by dsimp only;omega,by dsimp only;omega⟩,exact_ok ⟨by omega,by omega⟩⟩
  · cases h
theorem putV_ok {s k:Int×Int} (hs:SOk s) (hk:KOk k):SOk (putV s k).1∧KOk (putV s k).2:=by
  unfold putV
  split
  · rename_i r h
    exact reduS_ok hs hk h
  · exact ⟨hs,hk⟩
theorem mem_set_of {α:Type} {l:List α} {i:Nat} {x y:α} (h:y∈l.set i x):y=x∨y∈l:=by
  rcases List.mem_or_eq_of_mem_set h with h|h
  · exact .inr h
  · exact .inl h
theorem putM_ok {m:MayD} {i:Int} {r:(Int×Int)×(Int×Int)} (h:MayOk m) (h1:SOk r.1) (h2:KOk r.2):MayOk (putM m i r):=by
  have l:=putM_len (i:=i) (r:=r) h.len
  refine ⟨l.reg,l.bits,l.cell,l.isset,fun x hx=>?_,fun x hx=>?_,h.gc⟩
  · rcases mem_set_of hx with rfl|hx
    · exact ok_gS h1
    · exact h.gr x hx
  · rcases mem_set_of hx with rfl|hx
    · exact ok_gK h2
    · exact h.gb x hx
theorem getD_memL {α:Type} {l:List α} {i:Nat} {d:α} (h:i < l.length):l.getD i d∈l:=by
  rw [List.getD_eq_getElem?_getD,List.getElem?_eq_getElem h]
  exact List.getElem_mem h
theorem regS_ok {m:MayD} (h:MayOk m) {i:Int} (h0:0≤i) (h1:i≤5):SOk (regS m i):=gS_ok (h.gr _ (getD_memL (by have:=h.reg;omega)))
theorem bitS_ok {m:MayD} (h:MayOk m) {i:Int} (h0:0≤i) (h1:i≤5):KOk (bitS m i):=gK_ok (h.gb _ (getD_memL (by have:=h.bits;omega)))
theorem cellS_ok {m:MayD} (h:MayOk m) {i:Int} (h0:0≤i) (h1:¬ i ≥ 16):SOk (m.cell.getD i.toNat (0,0)):=gS_ok (h.gc _ (getD_memL (by have:=h.cell;omega)))
theorem mayV_ok {s:StepD} {m:MayD} (h:MayOk m) (hv:stepB s=true):MayOk (mayV s m).1:=by
  have ok:=step_ok hv
  obtain ⟨_,od,os,oi,oo,ot,_,_⟩:=ok
  have rd:=regS_ok h od.1 od.2
  have rs:=regS_ok h os.1 os.2
  have bd:=bitS_ok h od.1 od.2
  have bs:=bitS_ok h os.1 os.2
  have hi:wd s.imm:=oi
  have sc:=sOk_const oi
  have kc:=kOk_const oi
  unfold mayV
  split
  · have:=putV_ok (stI_ok (op:=s.op) rd rs) (kdI_ok (op:=s.op) bd bs);exact putM_ok h this.1 this.2
  split
  · have:=putV_ok (stI_ok (op:=s.op) rd sc) (kdI_ok (op:=s.op) bd kc);exact putM_ok h this.1 this.2
  split
  · exact putM_ok h sc kc
  split
  · exact putM_ok h sc kc
  split
  · split
    · exact h
    · exact putM_ok h ⟨by decide,by decide,by decide⟩ ⟨wd0,⟨by decide,by decide⟩,by decide⟩
  split
  · split
    · exact h
    · refine ⟨h.reg,h.bits,by simp [h.cell],by simp [h.isset],h.gr,h.gb,fun x hx=>?_⟩
      rcases mem_set_of hx with rfl|hx
      · exact ok_gS rd
      · exact h.gc x hx
  split
  · split
    · exact h
    · rename_i hn
      split
      · have:=putV_ok (cellS_ok h oi.1 hn) unk_ok;exact putM_ok h this.1 this.2
      · exact h
  exact h
theorem meetS_ok {a b:Int×Int} (ha:SOk a) (hb:SOk b) (h:meetSb a b=false):SOk (meetS a b):=by
  have h1:=mxI_ge (a:=a.1) (b:=b.1)
  have h2:=mnI_le (a:=a.2) (b:=b.2)
  have h3:=h
  obtain ⟨a1,a2,a3⟩:=ha
  obtain ⟨b1,b2,b3⟩:=hb
  unfold meetSb at h
  unfold meetS
  rw [h3]
  have h:¬ mxI a.1 b.1 > mnI a.2 b.2:=by simpa using h
  refine ⟨?_,?_,?_⟩<;>simp only [Bool.false_eq_true,if_false]<;>omega
theorem meetK_ok {a b:Int×Int} (ha:KOk a) (hb:KOk b):KOk (meetK a b):=by
  unfold meetK
  split
  · exact kOk_const ⟨by decide,by decide⟩
  · rw [← meet_kn ha hb]
    exact knN_ok (orI_wd ha.v hb.v) (andI_wd ha.m)
theorem lessS_ok {a b:Int×Int} (ha:SOk a) (hb:SOk b) (h:(lessS a b).2.2=true):SOk (lessS a b).1∧SOk (lessS a b).2.1:=by
  have h1:=mxI_ge (a:=b.1) (b:=a.1+1)
  have h2:=mnI_le (a:=a.2) (b:=b.2 - 1)
  obtain ⟨a1,a2,a3⟩:=ha
  obtain ⟨b1,b2,b3⟩:=hb
  unfold lessS at h ⊢
  split at h
  · cases h
  · rename_i hc
    rw [if_neg hc]
    refine ⟨⟨?_,?_,?_⟩,⟨?_,?_,?_⟩⟩<;>dsimp only<;>omega
theorem setR2_ok {m:MayD} {i j:Int} {x y:Int×Int} (h:MayOk m) (hx:SOk x) (hy:SOk y):MayOk (setR2 m i j x y):=by
  have l:=setR2_len (i:=i) (j:=j) (x:=x) (y:=y) h.len
  refine ⟨l.reg,l.bits,l.cell,l.isset,fun z hz=>?_,h.gb,h.gc⟩
  rcases mem_set_of hz with rfl|hz
  · exact ok_gS hy
  rcases mem_set_of hz with rfl|hz
  · exact ok_gS hx
  · exact h.gr z hz
theorem setB2_ok {m:MayD} {i j:Int} {x:Int×Int} (h:MayOk m) (hx:KOk x):MayOk (setB2 m i j x):=by
  have l:=setB2_len (i:=i) (j:=j) (x:=x) h.len
  refine ⟨l.reg,l.bits,l.cell,l.isset,h.gr,fun z hz=>?_,h.gc⟩
  rcases mem_set_of hz with rfl|hz
  · exact ok_gK hx
  rcases mem_set_of hz with rfl|hz
  · exact ok_gK hx
  · exact h.gb z hz
theorem heedV_ok {s:StepD} {m:MayD} {t:Bool} (h:MayOk m) (hv:stepB s=true) (hp:(heedV s m t).2=true):MayOk (heedV s m t).1:=by
  have ok:=step_ok hv
  obtain ⟨_,od,os,oi,oo,ot,_,_⟩:=ok
  have rd:=regS_ok h od.1 od.2
  have rs:=regS_ok h os.1 os.2
  have bd:=bitS_ok h od.1 od.2
  have bs:=bitS_ok h os.1 os.2
  revert hp
  unfold heedV
  split
  · split
    · split
      · intro h;cases h
      · rename_i hm
        split
        · intro h;cases h
        · intro _
          have ms:=meetS_ok rd rs (by simpa using hm)
          exact setB2_ok (setR2_ok h ms ms) (meetK_ok bd bs)
    · intro _;exact h
  split
  · split
    · rename_i hl
      split
      · intro h;cases h
      · intro _
        have:=lessS_ok rd rs hl
        exact setR2_ok h this.1 this.2
    · intro h;cases h
  split
  · intro _;exact h
  split
  · rename_i hge
    intro _
    have h1:=mxI_ge (a:=(regS m s.dst).1) (b:=(regS m s.src).1)
    have h2:=mnI_le (a:=(regS m s.src).2) (b:=(regS m s.dst).2)
    obtain ⟨a1,a2,a3⟩:=rd
    obtain ⟨b1,b2,b3⟩:=rs
    refine setR2_ok h ⟨?_,?_,?_⟩ ⟨?_,?_,?_⟩<;>dsimp only<;>omega
  · intro h;cases h
theorem startM_ok:MayOk startM:=by
  refine ⟨by rfl,by rfl,by rfl,by rfl,fun x hx=>?_,fun x hx=>?_,fun x hx=>?_⟩ <;>
  · rw [List.eq_of_mem_replicate hx];decide
end Go.Vm.Ytmbhjcgikblpiaa
namespace Go.Vm.Ytmbhjcgikblpiaa
open Go Go.Vm
set_option maxRecDepth 10000
set_option maxHeartbeats 16000000
set_option linter.unusedSimpArgs false
set_option linter.unusedVariables false
def nextsL (s:StepD) (i:Int):List Int :=
  if s.kind == 11 then [] else if s.kind == 8 then [i+s.to+1] else if s.kind == 9 then [i+1,i+s.to+1] else if s.kind == 10 then [i+1,i+s.to+1] else [i+1]
theorem impl_nexts.fc (p:List StepD) (i:Int) (s:StepD) (h0:0≤i) (h1:i < p.length) (hl:p.length≤20) (hs:p[i.toNat]? = some s) (hv:stepB s=true):FCt prog F_impl_nexts [.ro,.ro] [steps p,Ii i] (ints (nextsL s i)) []:=by
  refine fct_run impl_nexts.ok rfl ?_
  have ot:=(step_ok hv).to
  have w1:IntKind.i64.wrap (i+1)=i+1:=wrap_in (by omega) (by omega)
  have w2:IntKind.i64.wrap (i+s.to)=i+s.to:=wrap_in (by omega) (by omega)
  have w3:IntKind.i64.wrap (i+s.to+1)=i+s.to+1:=wrap_in (by omega) (by omega)
  unfold nextsL
  repeat' (first|with_reducible rfl|with_reducible refine cdW_dec (fun _=>?_) (fun _=>?_)|refine cdW_not (fun _=>?_) (fun _=>?_)|refine cdW_any (fun _=>?_) (fun _=>?_)|with_reducible refine gdW_decT (fun _=>?_) (fun _=>?_)|with_reducible refine gdW_decF (fun _=>?_) (fun _=>?_)|refine gdW_not (fun _=>?_) (fun _=>?_)|refine gdW_any (fun _=>?_) (fun _=>?_)|simp only [go_sem,↓reduceIte,nE,nA,nM,nB,oN,iT,nS,nL,nD,iE,iL,reduceCtorEq,bne,Int.reduceEq,Int.reduceBEq,Int.reduceBNe,Int.reduceLE,Int.reduceNeg,Int.reduceAdd,Int.reduceSub,Int.reduceMul, *]|rfl)
theorem spec_l2Nexts.fc (p:List StepD) (i:Int) (s:StepD) (h0:0≤i) (h1:i < p.length) (hl:p.length≤20) (hs:p[i.toNat]? = some s) (hv:stepB s=true):FCt prog F_spec_l2Nexts [.ro,.ro] [steps p,Ii i] (ints (nextsL s i)) []:=by
  refine fct_run spec_l2Nexts.ok rfl ?_
  have ot:=(step_ok hv).to
  have w1:IntKind.i64.wrap (i+1)=i+1:=wrap_in (by omega) (by omega)
  have w2:IntKind.i64.wrap (i+s.to)=i+s.to:=wrap_in (by omega) (by omega)
  have w3:IntKind.i64.wrap (i+s.to+1)=i+s.to+1:=wrap_in (by omega) (by omega)
  unfold nextsL
  repeat' (first|with_reducible rfl|with_reducible refine cdW_dec (fun _=>?_) (fun _=>?_)|refine cdW_not (fun _=>?_) (fun _=>?_)|refine cdW_any (fun _=>?_) (fun _=>?_)|with_reducible refine gdW_decT (fun _=>?_) (fun _=>?_)|with_reducible refine gdW_decF (fun _=>?_) (fun _=>?_)|refine gdW_not (fun _=>?_) (fun _=>?_)|refine gdW_any (fun _=>?_) (fun _=>?_)|simp only [go_sem,↓reduceIte,nE,nA,nM,nB,oN,iT,nS,nL,nD,iE,iL,reduceCtorEq,bne,Int.reduceEq,Int.reduceBEq,Int.reduceBNe,Int.reduceLE,Int.reduceNeg,Int.reduceAdd,Int.reduceSub,Int.reduceMul, *]|rfl)
end Go.Vm.Ytmbhjcgikblpiaa
namespace Go.Vm.Ytmbhjcgikblpiaa
open Go Go.Vm
set_option maxRecDepth 10000
set_option maxHeartbeats 16000000
set_option linter.unusedSimpArgs false
set_option linter.unusedVariables false
end Go.Vm.Ytmbhjcgikblpiaa
namespace Go.Vm.Ytmbhjcgikblpiaa
open Go Go.Vm
set_option maxRecDepth 10000
set_option maxHeartbeats 16000000
set_option linter.unusedSimpArgs false
set_option linter.unusedVariables false
end Go.Vm.Ytmbhjcgikblpiaa
namespace Go.Vm.Ytmbhjcgikblpiaa
open Go Go.Vm
set_option maxRecDepth 10000
set_option maxHeartbeats 16000000
set_option linter.unusedSimpArgs false
set_option linter.unusedVariables false
structure WayD where
  steps:List Int
  turns:List Bool
  deriving DecidableEq
abbrev WayD.d (x:WayD):D:=.agg [ints x.steps,bools x.turns]
abbrev TyWay:Ty:=.st [(.sl (.int .i64)),(.sl .bool)]
theorem noRs_Way {x:WayD}:noRs (WayD.d x)=true:=noRs_agg fun d hd=>by
  rcases List.mem_cons.1 hd with rfl|hd
  · exact noRs_ints
  rcases List.mem_cons.1 hd with rfl|hd
  · exact noRs_bools
  cases hd
def wWay (x:WayD):Nat:=x.steps.length+x.turns.length
def wfWay (x:WayD):Prop:=x.steps.length≤9223372036854775807∧x.turns.length≤9223372036854775807
theorem hasWay {d:D} (h:HasTy TyWay d):∃ x:WayD,d=WayD.d x∧wfWay x:=by
  simp only [HasTy] at h
  obtain ⟨ys,rfl,h⟩:=h
  simp only [HasTys] at h
  obtain ⟨d0,s0,rfl,h0,d1,s1,rfl,h1,rfl⟩:=h
  obtain ⟨x0,rfl,w0⟩:=hasIntS h0
  obtain ⟨x1,rfl,w1⟩:=hasBoolS h1
  exact ⟨⟨x0,x1⟩,rfl,⟨w0,w1⟩⟩
theorem laws_toWay.fcu (x:WayD) (h:wWay x≤1048576) :
    FCt prog F_laws_toWay [.ro] [WayD.d x] (WayD.d x) []:=by
  refine fct_run laws_toWay.ok rfl ?_
  have h:=h
  unfold wWay at h
  simp only [go_sem,↓reduceIte,nE,nA,nM,nB,oN,iT,nS,nL,nD,iE,iL,reduceCtorEq]
  refine fcW_bd (laws_toIntS.fcu x.steps (by omega)) noRs_ints ?_
  simp only [go_sem,↓reduceIte,nE,nA,nM,nB,oN,iT,nS,nL,nD,iE,iL,reduceCtorEq,take_map_len]
  refine fcW_bd (laws_toBoolS.fcu x.turns (by omega)) noRs_bools ?_
  simp only [go_sem,↓reduceIte,nE,nA,nM,nB,oN,iT,nS,nL,nD,iE,iL,reduceCtorEq,take_map_len]
theorem laws_eqWay.fcu (x:WayD) (h:wWay x≤1048576) :
    FCt prog F_laws_eqWay [.ro,.ro] [WayD.d x,WayD.d x] (Bb true) []:=by
  refine fct_run laws_eqWay.ok rfl ?_
  unfold wWay at h
  simp only [go_sem,↓reduceIte,nE,nA,nM,nB,oN,iT,nS,nL,nD,iE,iL,reduceCtorEq]
  refine fcW_bool (laws_eqIntS.fcu x.steps (by omega)) ?_
  simp only [go_sem,↓reduceIte,nE,nA,nM,nB,oN,iT,nS,nL,nD,iE,iL,reduceCtorEq]
  refine fcW_bool (laws_eqBoolS.fcu x.turns (by omega)) ?_
  simp only [go_sem,↓reduceIte,nE,nA,nM,nB,oN,iT,nS,nL,nD,iE,iL,reduceCtorEq]
theorem laws_szWay.fcu (x:WayD) (n:Int) (hn:0≤n∧n≤1048576) (hw:wfWay x) :
    FCt prog F_laws_szWay [.ro,.ro] [WayD.d x,Ii n] (Ii (if n < (wWay x:Nat) then -1 else n - (wWay x:Nat))) []:=by
  refine fct_run laws_szWay.ok rfl ?_
  unfold wWay
  obtain ⟨hw0,hw1⟩:=hw
  simp only [go_sem,↓reduceIte,nE,nA,nM,nB,oN,iT,nS,nL,nD,iE,iL,reduceCtorEq]
  refine fcW_int (laws_szIntS.fcu x.steps _ (by omega) hw0) ?_
  by_cases g0:n < (x.steps.length:Nat)
  · have e:n < ((x.steps.length+x.turns.length:Nat):Int):=by omega
    simp only [go_sem,↓reduceIte,nE,nA,nM,nB,oN,iT,nS,nL,nD,iE,iL,reduceCtorEq,if_pos g0,if_pos e]
  have e0:¬ (n - (x.steps.length:Nat) < 0):=by omega
  rw [if_neg g0]
  simp only [go_sem,↓reduceIte,nE,nA,nM,nB,oN,iT,nS,nL,nD,iE,iL,reduceCtorEq,e0]
  refine fcW_int (laws_szBoolS.fcu x.turns _ (by omega) hw1) ?_
  by_cases g1:n - (x.steps.length:Nat) < (x.turns.length:Nat)
  · have e:n < ((x.steps.length+x.turns.length:Nat):Int):=by omega
    simp only [go_sem,↓reduceIte,nE,nA,nM,nB,oN,iT,nS,nL,nD,iE,iL,reduceCtorEq,if_pos g1,if_pos e,e0]
  have e1:¬ (n - (x.steps.length:Nat) - (x.turns.length:Nat) < 0):=by omega
  rw [if_neg g1]
  have e:¬ n < ((x.steps.length+x.turns.length:Nat):Int):=by omega
  have eF:n - ((x.steps.length+x.turns.length:Nat):Int)=n - (x.steps.length:Nat) - (x.turns.length:Nat):=by omega
  first|rw [if_neg e,eF]|skip
  simp only [go_sem,↓reduceIte,nE,nA,nM,nB,oN,iT,nS,nL,nD,iE,iL,reduceCtorEq,e0,e1]
def brB (s:StepD):Bool:=s.kind == 9||s.kind == 10
theorem impl_Step_branches.fc (s:StepD):FCt prog F_impl_Step_branches [.ro] [s.d] (Bb (brB s)) []:=by
  refine fct_run impl_Step_branches.ok rfl ?_
  unfold brB
  repeat' (first|with_reducible rfl|with_reducible refine cdW_dec (fun _=>?_) (fun _=>?_)|refine cdW_not (fun _=>?_) (fun _=>?_)|refine cdW_any (fun _=>?_) (fun _=>?_)|with_reducible refine gdW_decT (fun _=>?_) (fun _=>?_)|with_reducible refine gdW_decF (fun _=>?_) (fun _=>?_)|refine gdW_not (fun _=>?_) (fun _=>?_)|refine gdW_any (fun _=>?_) (fun _=>?_)|simp only [go_sem,↓reduceIte,nE,nA,nM,nB,oN,iT,nS,nL,nD,iE,iL,reduceCtorEq,bne,Int.reduceEq,Int.reduceBEq,Int.reduceBNe,Int.reduceLE,Int.reduceNeg,Int.reduceAdd,Int.reduceSub,Int.reduceMul, *]|rfl)
theorem spec_l14Branch.fc (s:StepD):FCt prog F_spec_l14Branch [.ro] [s.d] (Bb (brB s)) []:=by
  refine fct_run spec_l14Branch.ok rfl ?_
  unfold brB
  repeat' (first|with_reducible rfl|with_reducible refine cdW_dec (fun _=>?_) (fun _=>?_)|refine cdW_not (fun _=>?_) (fun _=>?_)|refine cdW_any (fun _=>?_) (fun _=>?_)|with_reducible refine gdW_decT (fun _=>?_) (fun _=>?_)|with_reducible refine gdW_decF (fun _=>?_) (fun _=>?_)|refine gdW_not (fun _=>?_) (fun _=>?_)|refine gdW_any (fun _=>?_) (fun _=>?_)|simp only [go_sem,↓reduceIte,nE,nA,nM,nB,oN,iT,nS,nL,nD,iE,iL,reduceCtorEq,bne,Int.reduceEq,Int.reduceBEq,Int.reduceBNe,Int.reduceLE,Int.reduceNeg,Int.reduceAdd,Int.reduceSub,Int.reduceMul, *]|rfl)
def turnAt (p:List StepD) (l:List Int) (i:Nat):List Bool:=match l[i]?,l[i+1]? with
  | some a,some b=>(match p[a.toNat]? with|some s=>if brB s then [b == a+s.to+1] else []|none=>[])
  | _,_=>[]
def turnsN (p:List StepD) (l:List Int) (n:Nat):List Bool:=(List.range n).flatMap (turnAt p l)
def turnsV (p:List StepD) (l:List Int):List Bool:=turnsN p l l.length
theorem turnsN_succ (p:List StepD) (l:List Int) (n:Nat):turnsN p l (n+1)=turnsN p l n++turnAt p l n:=by
  unfold turnsN;rw [List.range_succ,List.flatMap_append];simp
theorem turnAt_len (p:List StepD) (l:List Int) (i:Nat):(turnAt p l i).length≤1:=by
  unfold turnAt;repeat' split
  all_goals simp
theorem turnsN_len (p:List StepD) (l:List Int):∀ n,(turnsN p l n).length≤n
  | 0=>by simp [turnsN]
  | n+1=>by rw [turnsN_succ,List.length_append];have:=turnsN_len p l n;have:=turnAt_len p l n;omega
def InP (p:List StepD) (l:List Int):Prop:=∀ a∈l,0≤a∧a < p.length
theorem impl_turnsOf.fc (p:List StepD) (l:List Int) (hp:ProgOk p) (hl:InP p l) (hll:l.length≤4194304):FCt prog F_impl_turnsOf [.ro,.ro] [steps p,ints l] (bools (turnsV p l)) []:=by
  refine fct_run impl_turnsOf.ok rfl ?_
  simp only [go_sem,↓reduceIte,nE,nA,nM,nB,oN,iT,nS,nL,nD,iE,iL,reduceCtorEq]
  refine R_loop (α:=Nat) (fun k s' M'=>k≤l.length∧s' 10=aI k∧∃ v,s' 5=.sl 2560 v 0 (turnsN p l k).length 1∧M'.m 2560=some (.arr v true 1 ((turnsN p l k).map Bb))) (fun k=>l.length - k) 0
    ⟨by omega,by simp only [go_sem,↓reduceIte,nE,nA,nM,nB,oN,iT,nS,nL,nD,iE,iL,reduceCtorEq];rfl,_,by simp only [go_sem,↓reduceIte,nE,nA,nM,nB,oN,iT,nS,nL,nD,iE,iL,reduceCtorEq];rfl,by simp only [go_sem,↓reduceIte,nE,nA,nM,nB,oN,iT,nS,nL,nD,iE,iL,reduceCtorEq];rfl⟩ ?_
  rintro k s' M' ⟨hk,h10,v,h5,hm⟩ ho
  unfold impl_turnsOf.b0
  have j0:s' 0=.dat none (steps p):=by rw [ho 0 rfl];simp only [go_sem,↓reduceIte,nE,nA,nM,nB,oN,iT,nS,nL,nD,iE,iL,reduceCtorEq]
  have j1:s' 1=.dat none (ints l):=by rw [ho 1 rfl];simp only [go_sem,↓reduceIte,nE,nA,nM,nB,oN,iT,nS,nL,nD,iE,iL,reduceCtorEq]
  have j8:s' 8=.dat none (ints l):=by rw [ho 8 rfl];simp only [go_sem,↓reduceIte,nE,nA,nM,nB,oN,iT,nS,nL,nD,iE,iL,reduceCtorEq]
  have j9:s' 9=aI l.length:=by rw [ho 9 rfl];simp only [go_sem,↓reduceIte,nE,nA,nM,nB,oN,iT,nS,nL,nD,iE,iL,reduceCtorEq]
  clear ho
  have tl:=turnsN_len p l k
  have sc:=turnsN_succ p l k
  generalize hT:turnsN p l k=T at h5 hm tl sc
  by_cases hlt:k < l.length
  · have hi':(k:Int) < l.length:=by omega
    have ga:l[k]? = some l[k]:=List.getElem?_eq_getElem hlt
    have hw:IntKind.i64.wrap (k+1)=((k+1:Nat):Int):=wrap_k hlt (by omega)
    obtain ⟨q0,q1⟩:=hl _ (List.getElem_mem hlt)
    obtain ⟨st,gs,hv⟩:∃ st,p[l[k].toNat]? = some st∧stepB st=true:=⟨_,List.getElem?_eq_getElem (by omega),(hp.all l[k].toNat (by omega)).1⟩
    have ok:=step_ok hv
    have hl20:=hp.len.2
    have hto:=ok.to
    have ta:turnAt p l k=match l[k+1]? with|some b=>if brB st then [b == l[k]+st.to+1] else []|none=>[]:=by
      unfold turnAt;rw [ga];cases l[k+1]? with
      | none=>rfl
      | some b=>dsimp only;rw [gs]
    have w1:IntKind.i64.wrap (l[k]+st.to)=l[k]+st.to:=wrap_in (by omega) (by omega)
    have w2:IntKind.i64.wrap (l[k]+st.to+1)=l[k]+st.to+1:=wrap_in (by omega) (by omega)
    simp only [go_sem,↓reduceIte,nE,nA,nM,nB,oN,iT,nS,nL,nD,iE,iL,reduceCtorEq,j0,j1,j8,j9,h10,h5,hm,hi',ga,q0,q1,gs,w1,w2]
    refine fcW_bool (impl_Step_branches.fc st) ?_
    cases hb:brB st with
    | false =>
      have e:turnsN p l (k+1)=T:=by
        rw [sc,ta,hb]
        cases l[k+1]?<;>simp
      simp only [go_sem,↓reduceIte,nE,nA,nM,nB,oN,iT,nS,nL,nD,iE,iL,reduceCtorEq,hw,j0,j1,j8,j9,h10,h5,hm,hi',ga,q0,q1,gs,w1,w2]
      exact ⟨k+1,by dsimp only;omega,by omega,by simp only [go_sem,↓reduceIte,nE,nA,nM,nB,oN,iT,nS,nL,nD,iE,iL,reduceCtorEq,j0,j1,j8,j9,h10,h5,hm,hi',ga,q0,q1,gs,w1,w2],v,by rw [e];simp only [go_sem,↓reduceIte,nE,nA,nM,nB,oN,iT,nS,nL,nD,iE,iL,reduceCtorEq,j0,j1,j8,j9,h10,h5,hm,hi',ga,q0,q1,gs,w1,w2],by rw [e];simp only [go_sem,↓reduceIte,nE,nA,nM,nB,oN,iT,nS,nL,nD,iE,iL,reduceCtorEq,j0,j1,j8,j9,h10,h5,hm,hi',ga,q0,q1,gs,w1,w2]⟩
    | true =>
      by_cases hl2:k+1 < l.length
      · have i2:((k+1:Nat):Int) < l.length:=by omega
        have g2:l[k+1]? = some l[k+1]:=List.getElem?_eq_getElem hl2
        rw [g2,hb] at ta
        dsimp only at ta
        rw [if_pos rfl] at ta
        have e:turnsN p l (k+1)=T++[l[k+1] == l[k]+st.to+1]:=by rw [sc,ta]
        have el:(T++[l[k+1] == l[k]+st.to+1]).length=T.length+1:=by simp
        have hb1:(T.length+1) * 1≤70368744177664:=by omega
        have ap:T.map Bb++[D.bool (l[k+1] == l[k]+st.to+1)]=(T++[l[k+1] == l[k]+st.to+1]).map Bb:=map_snoc
        have tk:(T.map Bb).take T.length=T.map Bb:=List.take_of_length_le (by simp)
        simp only [go_sem,↓reduceIte,nE,nA,nM,nB,oN,iT,nS,nL,nD,iE,iL,reduceCtorEq,hw,i2,g2,hb1,ap,tk,j0,j1,j8,j9,h10,h5,hm,hi',ga,q0,q1,gs,w1,w2]
        exact ⟨k+1,by dsimp only;omega,by omega,by simp only [go_sem,↓reduceIte,nE,nA,nM,nB,oN,iT,nS,nL,nD,iE,iL,reduceCtorEq,j0,j1,j8,j9,h10,h5,hm,hi',ga,q0,q1,gs,w1,w2],_,by rw [e,el];simp only [go_sem,↓reduceIte,nE,nA,nM,nB,oN,iT,nS,nL,nD,iE,iL,reduceCtorEq,j0,j1,j8,j9,h10,h5,hm,hi',ga,q0,q1,gs,w1,w2];rfl,by rw [e];simp only [go_sem,↓reduceIte,nE,nA,nM,nB,oN,iT,nS,nL,nD,iE,iL,reduceCtorEq,j0,j1,j8,j9,h10,h5,hm,hi',ga,q0,q1,gs,w1,w2]⟩
      · have i2:¬ ((k+1:Nat):Int) < l.length:=by omega
        have e:turnsN p l (k+1)=T:=by
          rw [sc,ta,List.getElem?_eq_none (by omega)];simp
        simp only [go_sem,↓reduceIte,nE,nA,nM,nB,oN,iT,nS,nL,nD,iE,iL,reduceCtorEq,hw,i2,j0,j1,j8,j9,h10,h5,hm,hi',ga,q0,q1,gs,w1,w2]
        exact ⟨k+1,by dsimp only;omega,by omega,by simp only [go_sem,↓reduceIte,nE,nA,nM,nB,oN,iT,nS,nL,nD,iE,iL,reduceCtorEq,j0,j1,j8,j9,h10,h5,hm,hi',ga,q0,q1,gs,w1,w2],v,by rw [e];simp only [go_sem,↓reduceIte,nE,nA,nM,nB,oN,iT,nS,nL,nD,iE,iL,reduceCtorEq,j0,j1,j8,j9,h10,h5,hm,hi',ga,q0,q1,gs,w1,w2],by rw [e];simp only [go_sem,↓reduceIte,nE,nA,nM,nB,oN,iT,nS,nL,nD,iE,iL,reduceCtorEq,j0,j1,j8,j9,h10,h5,hm,hi',ga,q0,q1,gs,w1,w2]⟩
  · have hi':¬ (k:Int) < l.length:=by omega
    obtain rfl:k=l.length:=by omega
    have tk:(T.map Bb).take T.length=T.map Bb:=List.take_of_length_le (by simp)
    have e:turnsV p l=T:=hT
    rw [e]
    simp only [go_sem,↓reduceIte,nE,nA,nM,nB,oN,iT,nS,nL,nD,iE,iL,reduceCtorEq,Int.lt_irrefl,tk,j0,j1,j8,j9,h10,h5,hm]
end Go.Vm.Ytmbhjcgikblpiaa
namespace Go.Vm.Ytmbhjcgikblpiaa
open Go Go.Vm
set_option maxRecDepth 10000
set_option maxHeartbeats 16000000
set_option linter.unusedSimpArgs false
set_option linter.unusedVariables false
theorem neq_b {a b:Int} (h:¬ a=b):(a == b)=false:=by rw [beq_eq_false_iff_ne];exact h
end Go.Vm.Ytmbhjcgikblpiaa
namespace Go.Vm.Ytmbhjcgikblpiaa
open Go Go.Vm
set_option maxRecDepth 10000
set_option maxHeartbeats 16000000
set_option linter.unusedSimpArgs false
set_option linter.unusedVariables false
def stepK (p:List StepD) (a:Int):Option StepD:=if 0≤a then p[a.toNat]? else none
def goW (p:List StepD):List Int→List Bool→Bool
  | [],ts=>ts.isEmpty
  | [a],ts=>match stepK p a with
    | some s=>(s.kind == 11)&&ts.isEmpty
    | none=>false
  | a::b::l,ts=>match stepK p a with
    | none=>false
    | some s=>if s.kind == 11 then false else
      if brB s then (match ts with
        | []=>false
        | t::ts'=>(b == (if t then a+s.to+1 else a+1))&&goW p (b::l) ts') else
      (b == (if s.kind == 8 then a+s.to+1 else a+1))&&goW p (b::l) ts
def headZ:List Int→Bool
  | []=>false
  | a::_=>a == 0
def goodW (p:List StepD) (w:WayD):Bool:=goodP p&&headZ w.steps&&goW p w.steps w.turns
theorem stepK_some {p:List StepD} {a:Int} (h0:0≤a) (h1:a < p.length) (hp:ProgOk p):∃ s,stepK p a=some s∧p[a.toNat]? = some s∧stepB s=true:=by
  have hi:a.toNat < p.length:=by omega
  exact ⟨p[a.toNat],by unfold stepK;rw [if_pos h0];exact List.getElem?_eq_getElem hi,List.getElem?_eq_getElem hi,(hp.all _ hi).1⟩
theorem stepK_none {p:List StepD} {a:Int} (h:a < 0∨a ≥ p.length):stepK p a=none:=by
  unfold stepK
  split
  · exact List.getElem?_eq_none (by omega)
  · rfl
theorem goW_out {p:List StepD} {a:Int} {l:List Int} {ts:List Bool} (h:stepK p a=none):goW p (a::l) ts=false:=by
  cases l with
  | nil=>unfold goW;rw [h]
  | cons b l=>unfold goW;rw [h]
theorem goW_one {p:List StepD} {a:Int} {ts:List Bool} {s:StepD} (ks:stepK p a=some s):goW p [a] ts=((s.kind == 11)&&ts.isEmpty):=by unfold goW;rw [ks]
theorem goW_two {p : List StepD} {a b : Int} {l : List Int} {ts : List Bool} {s : StepD} (ks : stepK p a = some s) : goW p (a :: b :: l) ts = if s.kind == 11 then false else
      if brB s then (match ts with
        | []=>false
        | t::ts'=>(b == (if t then a+s.to+1 else a+1))&&goW p (b::l) ts') else
      (b == (if s.kind == 8 then a+s.to+1 else a+1))&&goW p (b::l) ts:=by rw [goW,ks]
theorem goW_nil {p:List StepD} {ts:List Bool}:goW p [] ts=ts.isEmpty:=by unfold goW;rfl
theorem drop_isEmpty {α:Type} {l:List α} {j:Nat} (h:j≤l.length):(l.drop j).isEmpty=((j:Int) == (l.length:Int)):=by
  rw [Bool.eq_iff_iff,List.isEmpty_iff,List.drop_eq_nil_iff,beq_iff_eq]
  omega
theorem spec_GoodWay.fc (p:List StepD) (w:WayD) (hp:p.length≤4194304) (hw:wWay w≤4194304):FCt prog F_spec_GoodWay [.ro,.ro] [steps p,w.d] (Bb (goodW p w)) []:=by
  refine fct_run spec_GoodWay.ok rfl ?_
  obtain ⟨l,ts⟩:=w
  have hl:l.length+ts.length≤4194304:=hw
  unfold goodW
  dsimp only
  simp only [go_sem,↓reduceIte,nE,nA,nM,nB,oN,iT,nS,nL,nD,iE,iL,reduceCtorEq]
  refine fcW_bool (spec_GoodProgram.fc p hp) ?_
  cases hg:goodP p with
  | false=>simp only [go_sem,↓reduceIte,nE,nA,nM,nB,oN,iT,nS,nL,nD,iE,iL,reduceCtorEq]
  | true =>
    have op:=prog_ok hg
    cases hlq:l with
    | nil =>
      have z0:(((0:Nat):Int) == 0)=true:=rfl
      simp only [go_sem,↓reduceIte,nE,nA,nM,nB,oN,iT,nS,nL,nD,iE,iL,reduceCtorEq,List.length_nil,z0]
      rfl
    | cons a0 l0 =>
      rw [← hlq]
      have n0:((l.length:Int) == 0)=false:=by rw [hlq];exact neq_b (by simp only [List.length_cons];omega)
      have i0:(0:Int) < l.length:=by rw [hlq];simp only [List.length_cons];omega
      have hz:headZ l=(a0 == 0):=by rw [hlq];rfl
      have g0:l[0]? = some a0:=by rw [hlq];rfl
      have gt0:(0:Int).toNat=0:=rfl
      simp only [go_sem,↓reduceIte,nE,nA,nM,nB,oN,iT,nS,nL,nD,iE,iL,reduceCtorEq,n0,i0,g0,gt0,hz]
      cases ha:(a0 == 0) with
      | false =>
        have ha2:(a0 != 0)=true:=by rw [bne,ha];rfl
        simp only [go_sem,↓reduceIte,nE,nA,nM,nB,oN,iT,nS,nL,nD,iE,iL,reduceCtorEq,ha2,hz,ha]
      | true =>
        have ha2:(a0 != 0)=false:=by rw [bne,ha];rfl
        have hz2:headZ l=true:=by rw [hz,ha]
        have t1:((true == false) != true)=true:=rfl
        have t2:((false == true) != true)=true:=rfl
        simp only [go_sem,↓reduceIte,nE,nA,nM,nB,oN,iT,nS,nL,nD,iE,iL,reduceCtorEq,ha2,hz2]
        refine R_loop (α:=Nat×Nat) (fun a s' M'=>a.1≤l.length∧a.2≤ts.length∧s' 30=aI a.1∧s' 5=aI a.2∧M'.m 64=some (.box 0 (.dat none (WayD.d ⟨l,ts⟩)))∧goW p l ts=goW p (l.drop a.1) (ts.drop a.2)) (fun a=>l.length - a.1) (0,0)
          ⟨by dsimp only;omega,by dsimp only;omega,by simp only [go_sem,↓reduceIte,nE,nA,nM,nB,oN,iT,nS,nL,nD,iE,iL,reduceCtorEq];rfl,by simp only [go_sem,↓reduceIte,nE,nA,nM,nB,oN,iT,nS,nL,nD,iE,iL,reduceCtorEq];rfl,by simp only [go_sem,↓reduceIte,nE,nA,nM,nB,oN,iT,nS,nL,nD,iE,iL,reduceCtorEq],by simp⟩ ?_
        rintro ⟨i,j⟩ s' M' ⟨hi,hj,h30,h5,hm,hr⟩ ho
        dsimp only at hi hj h30 h5 hr
        unfold spec_GoodWay.b0
        have k0:s' 0=.dat none (steps p):=by rw [ho 0 rfl];simp only [go_sem,↓reduceIte,nE,nA,nM,nB,oN,iT,nS,nL,nD,iE,iL,reduceCtorEq]
        have k3:s' 3=.ptr 64 0 0 none:=by rw [ho 3 rfl];simp only [go_sem,↓reduceIte,nE,nA,nM,nB,oN,iT,nS,nL,nD,iE,iL,reduceCtorEq]
        have k28:s' 28=.dat none (ints l):=by rw [ho 28 rfl];simp only [go_sem,↓reduceIte,nE,nA,nM,nB,oN,iT,nS,nL,nD,iE,iL,reduceCtorEq]
        have k29:s' 29=aI l.length:=by rw [ho 29 rfl];simp only [go_sem,↓reduceIte,nE,nA,nM,nB,oN,iT,nS,nL,nD,iE,iL,reduceCtorEq]
        clear ho
        have o1:(0:Int) < ((1:Nat):Int):=by decide
        have o2:(0:Int) < ((2:Nat):Int):=by decide
        have o3:(1:Int) < ((2:Nat):Int):=by decide
        by_cases hlt:i < l.length
        · have hi':(i:Int) < l.length:=by omega
          have ga:l[i]? = some l[i]:=List.getElem?_eq_getElem hlt
          have hw:IntKind.i64.wrap (i+1)=((i+1:Nat):Int):=wrap_k hlt (by omega)
          have hd:l.drop i=l[i]::l.drop (i+1):=List.drop_eq_getElem_cons hlt
          rw [hd] at hr
          by_cases q0:l[i] < 0
          · have e:=goW_out (l:=l.drop (i+1)) (ts:=ts.drop j) (stepK_none (p:=p) (.inl q0))
            have e:=hr.trans e
            simp only [go_sem,↓reduceIte,nE,nA,nM,nB,oN,iT,nS,nL,nD,iE,iL,reduceCtorEq,q0,e,k0,k3,k28,k29,h30,h5,hm,hz2,t1,t2,o1,o2,o3,hi',ga]
          by_cases q1:l[i] ≥ p.length
          · have e:=goW_out (l:=l.drop (i+1)) (ts:=ts.drop j) (stepK_none (p:=p) (.inr q1))
            have e:=hr.trans e
            simp only [go_sem,↓reduceIte,nE,nA,nM,nB,oN,iT,nS,nL,nD,iE,iL,reduceCtorEq,q0,q1,e,k0,k3,k28,k29,h30,h5,hm,hz2,t1,t2,o1,o2,o3,hi',ga]
          have q00:0≤l[i]:=by omega
          have q11:l[i] < p.length:=by omega
          obtain ⟨st,ks,gs,hv⟩:=stepK_some q00 q11 op
          have sok:=step_ok hv
          have wl:IntKind.i64.wrap ((l.length:Int) - 1)=(l.length:Int) - 1:=wrap_in (by omega) (by omega)
          by_cases hlast:i+1=l.length
          · have e1:((i:Int) == (l.length:Int) - 1)=true:=by rw [beq_iff_eq];omega
            have hd2:l.drop (i+1)=[]:=List.drop_eq_nil_iff.2 (by omega)
            rw [hd2,goW_one ks] at hr
            cases hk:(st.kind == 11) with
            | false =>
              rw [hk,Bool.false_and] at hr
              simp only [go_sem,↓reduceIte,nE,nA,nM,nB,oN,iT,nS,nL,nD,iE,iL,reduceCtorEq,e1,hk,hr,k0,k3,k28,k29,h30,h5,hm,hz2,t1,t2,o1,o2,o3,hi',ga,q0,q1,q00,q11,gs,wl]
            | true =>
              rw [hk,Bool.true_and,drop_isEmpty hj] at hr
              simp only [go_sem,↓reduceIte,nE,nA,nM,nB,oN,iT,nS,nL,nD,iE,iL,reduceCtorEq,e1,hk,hr,k0,k3,k28,k29,h30,h5,hm,hz2,t1,t2,o1,o2,o3,hi',ga,q0,q1,q00,q11,gs,wl]
          · have e1:((i:Int) == (l.length:Int) - 1)=false:=neq_b (by omega)
            have hlt2:i+1 < l.length:=by omega
            have hd2:l.drop (i+1)=l[i+1]::l.drop (i+1+1):=List.drop_eq_getElem_cons hlt2
            rw [hd2,goW_two ks] at hr
            have g2:l[i+1]? = some l[i+1]:=List.getElem?_eq_getElem hlt2
            have i2:((i+1:Nat):Int) < l.length:=by omega
            cases hk:(st.kind == 11) with
            | true =>
              rw [hk] at hr
              simp only [if_true] at hr
              simp only [go_sem,↓reduceIte,nE,nA,nM,nB,oN,iT,nS,nL,nD,iE,iL,reduceCtorEq,e1,hk,hr,k0,k3,k28,k29,h30,h5,hm,hz2,t1,t2,o1,o2,o3,hi',ga,q0,q1,q00,q11,gs,wl]
            | false =>
              rw [hk] at hr
              have cn:=spec_l2Nexts.fc p l[i] st q00 q11 op.len.2 gs hv
              simp only [Bool.false_eq_true,if_false] at hr
              simp only [go_sem,↓reduceIte,nE,nA,nM,nB,oN,iT,nS,nL,nD,iE,iL,reduceCtorEq,e1,hk,k0,k3,k28,k29,h30,h5,hm,hz2,t1,t2,o1,o2,o3,hi',ga,q0,q1,q00,q11,gs,wl]
              refine fcW_bd cn noRs_ints ?_
              have nxt:∀ (v:Int) (j2:Nat),j2≤ts.length→(goW p l ts=((l[i+1] == v)&&goW p (l[i+1]::l.drop (i+1+1)) (ts.drop j2)))→l[i+1]=v→goW p l ts=goW p (l.drop (i+1)) (ts.drop j2):=by
                intro v j2 _ h1 h2
                rw [h1,h2,beq_self_eq_true,Bool.true_and,hd2,h2]
              have wi:IntKind.i64.wrap ((i:Int)+1)=((i+1:Nat):Int):=hw
              have w11:((i+1:Nat):Int) < l.length:=i2
              cases hb:brB st with
              | false =>
                rw [hb] at hr
                simp only [Bool.false_eq_true,if_false] at hr
                have hnx:nextsL st l[i]=[if st.kind == 8 then l[i]+st.to+1 else l[i]+1]:=by
                  unfold nextsL
                  rw [hk]
                  unfold brB at hb
                  rw [Bool.or_eq_false_iff] at hb
                  rw [hb.1,hb.2]
                  cases (st.kind == 8)<;>rfl
                generalize (if st.kind == 8 then l[i]+st.to+1 else l[i]+1)=v at hr hnx
                simp only [go_sem,↓reduceIte,nE,nA,nM,nB,oN,iT,nS,nL,nD,iE,iL,reduceCtorEq,hnx,k0,k3,k28,k29,h30,h5,hm,hz2,t1,t2,o1,o2,o3,hi',ga,q0,q1,q00,q11,gs,wl]
                refine fcW_bool (spec_l14Branch.fc st) ?_
                rw [hb]
                cases hq:(l[i+1] == v) with
                | false =>
                  have hq2:(l[i+1] != v)=true:=by rw [bne,hq];rfl
                  rw [hq,Bool.false_and] at hr
                  simp only [go_sem,↓reduceIte,nE,nA,nM,nB,oN,iT,nS,nL,nD,iE,iL,reduceCtorEq,wi,w11,g2,hq2,hr,k0,k3,k28,k29,h30,h5,hm,hz2,t1,t2,o1,o2,o3,hi',ga,q0,q1,q00,q11,gs,wl]
                | true =>
                  have hq2:(l[i+1] != v)=false:=by rw [bne,hq];rfl
                  have hr2:=nxt v j hj hr (by simpa using hq)
                  simp only [go_sem,↓reduceIte,nE,nA,nM,nB,oN,iT,nS,nL,nD,iE,iL,reduceCtorEq,wi,w11,g2,hq2,k0,k3,k28,k29,h30,h5,hm,hz2,t1,t2,o1,o2,o3,hi',ga,q0,q1,q00,q11,gs,wl]
                  exact ⟨(i+1,j),by dsimp only;omega,by dsimp only;omega,hj,by simp only [go_sem,↓reduceIte,nE,nA,nM,nB,oN,iT,nS,nL,nD,iE,iL,reduceCtorEq,k0,k3,k28,k29,h30,h5,hm,hz2,t1,t2,o1,o2,o3,hi',ga,q0,q1,q00,q11,gs,wl],by simp only [go_sem,↓reduceIte,nE,nA,nM,nB,oN,iT,nS,nL,nD,iE,iL,reduceCtorEq,k0,k3,k28,k29,h30,h5,hm,hz2,t1,t2,o1,o2,o3,hi',ga,q0,q1,q00,q11,gs,wl],by simp only [go_sem,↓reduceIte,nE,nA,nM,nB,oN,iT,nS,nL,nD,iE,iL,reduceCtorEq,k0,k3,k28,k29,h30,h5,hm,hz2,t1,t2,o1,o2,o3,hi',ga,q0,q1,q00,q11,gs,wl],hr2⟩
              | true =>
                rw [hb] at hr
                simp only [if_true] at hr
                have hnx:nextsL st l[i]=[l[i]+1,l[i]+st.to+1]:=by
                  unfold nextsL
                  rw [hk]
                  unfold brB at hb
                  have h8:(st.kind == 8)=false:=by rw [beq_eq_false_iff_ne];simp at hb;omega
                  rw [h8]
                  cases h9:(st.kind == 9) with
                  | true=>rfl
                  | false=>rw [h9,Bool.false_or] at hb;rw [hb];rfl
                simp only [go_sem,↓reduceIte,nE,nA,nM,nB,oN,iT,nS,nL,nD,iE,iL,reduceCtorEq,hnx,k0,k3,k28,k29,h30,h5,hm,hz2,t1,t2,o1,o2,o3,hi',ga,q0,q1,q00,q11,gs,wl]
                refine fcW_bool (spec_l14Branch.fc st) ?_
                rw [hb]
                by_cases hjl:j=ts.length
                · have ej:((j:Int) == (ts.length:Int))=true:=by rw [hjl];exact beq_self_eq_true _
                  have hd3:ts.drop j=[]:=List.drop_eq_nil_iff.2 (by omega)
                  rw [hd3] at hr
                  simp only [go_sem,↓reduceIte,nE,nA,nM,nB,oN,iT,nS,nL,nD,iE,iL,reduceCtorEq,ej,hr,k0,k3,k28,k29,h30,h5,hm,hz2,t1,t2,o1,o2,o3,hi',ga,q0,q1,q00,q11,gs,wl]
                · have ej:((j:Int) == (ts.length:Int))=false:=neq_b (by omega)
                  have hjlt:j < ts.length:=by omega
                  have gj:ts[j]? = some ts[j]:=List.getElem?_eq_getElem hjlt
                  have ij:(j:Int) < ts.length:=by omega
                  have hd3:ts.drop j=ts[j]::ts.drop (j+1):=List.drop_eq_getElem_cons hjlt
                  have wj:IntKind.i64.wrap ((j:Int)+1)=((j+1:Nat):Int):=by rw [wrap_in (by omega) (by omega)];omega
                  rw [hd3] at hr
                  dsimp only at hr
                  cases ht:ts[j] with
                  | false =>
                    rw [ht] at hr
                    simp only [Bool.false_eq_true,if_false] at hr
                    cases hq:(l[i+1] == l[i]+1) with
                    | false =>
                      have hq2:(l[i+1] != l[i]+1)=true:=by rw [bne,hq];rfl
                      rw [hq,Bool.false_and] at hr
                      simp only [go_sem,↓reduceIte,nE,nA,nM,nB,oN,iT,nS,nL,nD,iE,iL,reduceCtorEq,ej,gj,ij,ht,wi,w11,g2,hq2,hr,wj,k0,k3,k28,k29,h30,h5,hm,hz2,t1,t2,o1,o2,o3,hi',ga,q0,q1,q00,q11,gs,wl]
                    | true =>
                      have hq2:(l[i+1] != l[i]+1)=false:=by rw [bne,hq];rfl
                      have hr2:=nxt _ (j+1) hjlt hr (by simpa using hq)
                      simp only [go_sem,↓reduceIte,nE,nA,nM,nB,oN,iT,nS,nL,nD,iE,iL,reduceCtorEq,ej,gj,ij,ht,wi,w11,g2,hq2,wj,k0,k3,k28,k29,h30,h5,hm,hz2,t1,t2,o1,o2,o3,hi',ga,q0,q1,q00,q11,gs,wl]
                      exact ⟨(i+1,j+1),by dsimp only;omega,by dsimp only;omega,hjlt,by simp only [go_sem,↓reduceIte,nE,nA,nM,nB,oN,iT,nS,nL,nD,iE,iL,reduceCtorEq,k0,k3,k28,k29,h30,h5,hm,hz2,t1,t2,o1,o2,o3,hi',ga,q0,q1,q00,q11,gs,wl],by simp only [go_sem,↓reduceIte,nE,nA,nM,nB,oN,iT,nS,nL,nD,iE,iL,reduceCtorEq,k0,k3,k28,k29,h30,h5,hm,hz2,t1,t2,o1,o2,o3,hi',ga,q0,q1,q00,q11,gs,wl],by simp only [go_sem,↓reduceIte,nE,nA,nM,nB,oN,iT,nS,nL,nD,iE,iL,reduceCtorEq,k0,k3,k28,k29,h30,h5,hm,hz2,t1,t2,o1,o2,o3,hi',ga,q0,q1,q00,q11,gs,wl],hr2⟩
                  | true =>
                    rw [ht] at hr
                    simp only [if_true] at hr
                    cases hq:(l[i+1] == l[i]+st.to+1) with
                    | false =>
                      have hq2:(l[i+1] != l[i]+st.to+1)=true:=by rw [bne,hq];rfl
                      rw [hq,Bool.false_and] at hr
                      simp only [go_sem,↓reduceIte,nE,nA,nM,nB,oN,iT,nS,nL,nD,iE,iL,reduceCtorEq,ej,gj,ij,ht,wi,w11,g2,hq2,hr,wj,k0,k3,k28,k29,h30,h5,hm,hz2,t1,t2,o1,o2,o3,hi',ga,q0,q1,q00,q11,gs,wl]
                    | true =>
                      have hq2:(l[i+1] != l[i]+st.to+1)=false:=by rw [bne,hq];rfl
                      have hr2:=nxt _ (j+1) hjlt hr (by simpa using hq)
                      simp only [go_sem,↓reduceIte,nE,nA,nM,nB,oN,iT,nS,nL,nD,iE,iL,reduceCtorEq,ej,gj,ij,ht,wi,w11,g2,hq2,wj,k0,k3,k28,k29,h30,h5,hm,hz2,t1,t2,o1,o2,o3,hi',ga,q0,q1,q00,q11,gs,wl]
                      exact ⟨(i+1,j+1),by dsimp only;omega,by dsimp only;omega,hjlt,by simp only [go_sem,↓reduceIte,nE,nA,nM,nB,oN,iT,nS,nL,nD,iE,iL,reduceCtorEq,k0,k3,k28,k29,h30,h5,hm,hz2,t1,t2,o1,o2,o3,hi',ga,q0,q1,q00,q11,gs,wl],by simp only [go_sem,↓reduceIte,nE,nA,nM,nB,oN,iT,nS,nL,nD,iE,iL,reduceCtorEq,k0,k3,k28,k29,h30,h5,hm,hz2,t1,t2,o1,o2,o3,hi',ga,q0,q1,q00,q11,gs,wl],by simp only [go_sem,↓reduceIte,nE,nA,nM,nB,oN,iT,nS,nL,nD,iE,iL,reduceCtorEq,k0,k3,k28,k29,h30,h5,hm,hz2,t1,t2,o1,o2,o3,hi',ga,q0,q1,q00,q11,gs,wl],hr2⟩
        · have hi':¬ (i:Int) < l.length:=by omega
          obtain rfl:i=l.length:=by omega
          rw [List.drop_length] at hr
          rw [goW_nil,drop_isEmpty hj] at hr
          simp only [go_sem,↓reduceIte,nE,nA,nM,nB,oN,iT,nS,nL,nD,iE,iL,reduceCtorEq,Int.lt_irrefl,hr,k0,k3,k28,k29,h30,h5,hm,hz2,t1,t2,o1,o2,o3]
end Go.Vm.Ytmbhjcgikblpiaa
namespace Go.Vm.Ytmbhjcgikblpiaa
open Go Go.Vm
set_option maxRecDepth 10000
set_option maxHeartbeats 16000000
set_option linter.unusedSimpArgs false
set_option linter.unusedVariables false
section
variable {P:Program} {s:Nat→AV} {M:Mem} {nb ib:Nat} {lg:Lg} {es:List Ent}
@[go_sem ↓] theorem RE_EPgf {j d t:Nat} {b:Bool} {k:KO} {kd:Nat} {K:(Nat→AV)→Mem→Prop} :
    @RE P nb ib (EP j (some d) (some (t,b)) k kd false::es) s M lg ⟨K⟩ = @gdW (gB (s t)) b ⟨@KS P s M (nb+64 * j) (ib+64 * j) k ⟨fun a N T=>@okP kd nb j k M N T ⟨@RE P nb ib es (upd s d a) N lg ⟨K⟩⟩⟩⟩ ⟨@RE P nb ib es (upd s d (.tup [])) M lg ⟨K⟩⟩ :=
  RE_step (e:=EP j (some d) (some (t,b)) k kd false) rfl fun a N T=>and_assoc.symm
@[go_sem ↓] theorem RE_EPgt {j d t:Nat} {b:Bool} {k:KO} {kd:Nat} {K:(Nat→AV)→Mem→Prop} :
    @RE P nb ib (EP j (some d) (some (t,b)) k kd true::es) s M lg ⟨K⟩ = @gdW (gB (s t)) b ⟨@KS P s M (nb+64 * j) (ib+64 * j) k ⟨fun a N T=>@okP kd nb j k M N T ⟨@RE P nb ib es (upd s d a) N (upd lg j (wrt T M N)) ⟨K⟩⟩⟩⟩ ⟨@RE P nb ib es (upd s d (.tup [])) M lg ⟨K⟩⟩ :=
  RE_step (e:=EP j (some d) (some (t,b)) k kd true) rfl fun a N T=>and_assoc.symm
end
def nxL (p:List StepD):List Int→Bool
  | a::b::l=>(match stepK p a with|some s=>(nextsL s a).any (· == b)|none=>false)&&nxL p (b::l)
  | _=>true
def turnsR (p:List StepD):List Int→List Bool
  | a::b::l=>(match stepK p a with|some s=>if brB s then [b == a+s.to+1] else []|none=>[])++turnsR p (b::l)
  | _=>[]
def lastX (p:List StepD) (l:List Int):Bool:=match l.getLast? with
  | some a=>(match stepK p a with|some s=>s.kind == 11|none=>false)
  | none=>false
theorem stepK_ok {p:List StepD} {a:Int} {s:StepD} (hp:ProgOk p) (h:stepK p a=some s):stepB s=true:=by
  unfold stepK at h
  split at h
  · obtain ⟨hi,rfl⟩:=List.getElem?_eq_some_iff.1 h
    exact (hp.all _ hi).1
  · cases h
theorem goW_eq {p:List StepD} (hp:ProgOk p):∀ (l:List Int) (ts:List Bool),l≠[]→goW p l ts=(nxL p l&&lastX p l&&decide (turnsR p l=ts))
  | [],_,h=>absurd rfl h
  | [a],ts,_=>by
    cases hk:stepK p a with
    | none =>
      rw [goW_out hk]
      simp [lastX,hk]
    | some s =>
      rw [goW_one hk]
      cases ts<;>simp [nxL,lastX,turnsR,hk]
  | a::b::l,ts,_=>by
    have hlx:lastX p (a::b::l)=lastX p (b::l):=by unfold lastX;rw [List.getLast?_cons_cons]
    cases hk:stepK p a with
    | none =>
      rw [goW_out hk]
      simp [nxL,hk]
    | some s =>
      have ok:=step_ok (stepK_ok hp hk)
      rw [goW_two hk]
      have hnl:nxL p (a::b::l)=((nextsL s a).any (· == b)&&nxL p (b::l)):=by rw [nxL,hk]
      have htr:turnsR p (a::b::l)=(if brB s then [b == a+s.to+1] else [])++turnsR p (b::l):=by rw [turnsR,hk]
      rw [hnl,htr,hlx]
      cases h11:(s.kind == 11) with
      | true =>
        have:nextsL s a=[]:=by unfold nextsL;rw [h11];rfl
        simp [this]
      | false =>
        simp only [Bool.false_eq_true,if_false]
        cases hb:brB s with
        | false =>
          have hnx:nextsL s a=[if s.kind == 8 then a+s.to+1 else a+1]:=by
            unfold nextsL
            rw [h11]
            unfold brB at hb
            rw [Bool.or_eq_false_iff] at hb
            rw [hb.1,hb.2]
            cases (s.kind == 8)<;>rfl
          rw [hnx]
          generalize (if s.kind == 8 then a+s.to+1 else a+1)=v
          simp only [Bool.false_eq_true,if_false,List.nil_append,List.any_cons,List.any_nil,Bool.or_false]
          rw [goW_eq hp (b::l) ts (by simp),Bool.beq_comm (a:=v)]
          cases (b == v)<;>simp
        | true =>
          have hgt:s.to > 0:=ok.jmp.2 (by unfold brB at hb;simp at hb;omega)
          have hnx:nextsL s a=[a+1,a+s.to+1]:=by
            unfold nextsL
            rw [h11]
            unfold brB at hb
            have h8:(s.kind == 8)=false:=by rw [beq_eq_false_iff_ne];simp at hb;omega
            rw [h8]
            cases h9:(s.kind == 9) with
            | true=>rfl
            | false=>rw [h9,Bool.false_or] at hb;rw [hb];rfl
          rw [hnx]
          simp only [if_true,List.any_cons,List.any_nil,Bool.or_false,List.cons_append,List.nil_append]
          cases ts with
          | nil=>simp
          | cons t ts =>
            dsimp only
            rw [goW_eq hp (b::l) ts (by simp)]
            by_cases e1:b=a+1
            · have e2:¬ b=a+s.to+1:=by omega
              have n1:(a+1 == b)=true:=by rw [e1];exact beq_self_eq_true _
              have n2:(b == a+s.to+1)=false:=neq_b e2
              have n3:(b == a+1)=true:=by rw [e1];exact beq_self_eq_true _
              cases t<;>simp [n1,n2,n3]
            · by_cases e2:b=a+s.to+1
              · have n1:(a+s.to+1 == b)=true:=by rw [e2];exact beq_self_eq_true _
                have n2:(b == a+s.to+1)=true:=by rw [e2];exact beq_self_eq_true _
                have n3:(b == a+1)=false:=neq_b e1
                cases t<;>simp [n1,n2,n3]
              · have n1:(a+s.to+1 == b)=false:=neq_b (fun h=>e2 h.symm)
                have n2:(b == a+s.to+1)=false:=neq_b e2
                have n3:(b == a+1)=false:=neq_b e1
                have n4:(a+1 == b)=false:=neq_b (fun h=>e1 h.symm)
                cases t<;>simp [n1,n2,n3,n4]
theorem turnsR_eq {p:List StepD}:∀ {l:List Int},InP p l→turnsV p l=turnsR p l
  | [],_=>rfl
  | [a],_=>by unfold turnsV turnsN;simp [turnAt,turnsR]
  | a::b::l,h=>by
    have ih:=turnsR_eq (p:=p) (l:=b::l) fun x hx=>h x (List.mem_cons_of_mem _ hx)
    have ha:=h a List.mem_cons_self
    have hk:stepK p a=p[a.toNat]?:=by unfold stepK;rw [if_pos ha.1]
    unfold turnsV turnsN at ih ⊢
    rw [List.length_cons,List.range_succ_eq_map,List.flatMap_cons,List.flatMap_map]
    have e:(fun i=>turnAt p (a::b::l) (i+1))=turnAt p (b::l):=by funext i;rfl
    rw [show (List.range (b::l).length).flatMap (fun i=>turnAt p (a::b::l) i.succ)=(List.range (b::l).length).flatMap (turnAt p (b::l)) from rfl,ih]
    rw [turnsR,hk]
    rfl
theorem slices_Equal__sbool_bool.fc (a b:List Bool) (ha:a.length≤4294967296) (hb:b.length≤4294967296):FCt prog F_slices_Equal__sbool_bool [.ro,.ro] [bools a,bools b] (Bb (decide (a=b))) []:=by
  refine fct_run slices_Equal__sbool_bool.ok rfl ?_
  simp only [go_sem,↓reduceIte,nE,nA,nM,nB,oN,iT,nS,nL,nD,iE,iL,reduceCtorEq]
  by_cases hl:a.length=b.length
  case neg =>
    have e:((a.length:Int) != (b.length:Int))=true:=by simp;omega
    have hne:¬ a=b:=fun h=>hl (by rw [h])
    simp only [go_sem,↓reduceIte,nE,nA,nM,nB,oN,iT,nS,nL,nD,iE,iL,reduceCtorEq,e,decide_eq_false hne]
  have e:((a.length:Int) != (b.length:Int))=false:=by simp;omega
  simp only [go_sem,↓reduceIte,nE,nA,nM,nB,oN,iT,nS,nL,nD,iE,iL,reduceCtorEq,e]
  refine R_loop (α:=Nat) (fun k s' M'=>k≤a.length∧s' 13=aI k∧a.take k=b.take k) (fun k=>a.length - k) 0 ⟨by omega,by simp only [go_sem,↓reduceIte,nE,nA,nM,nB,oN,iT,nS,nL,nD,iE,iL,reduceCtorEq];rfl,by simp⟩ ?_
  rintro k s' M' ⟨hk,h13,hr⟩ ho
  unfold slices_Equal__sbool_bool.b0
  have j0:s' 0=.dat none (bools a):=by rw [ho 0 rfl];simp only [go_sem,↓reduceIte,nE,nA,nM,nB,oN,iT,nS,nL,nD,iE,iL,reduceCtorEq]
  have j1:s' 1=.dat none (bools b):=by rw [ho 1 rfl];simp only [go_sem,↓reduceIte,nE,nA,nM,nB,oN,iT,nS,nL,nD,iE,iL,reduceCtorEq]
  have j12:s' 12=aI a.length:=by rw [ho 12 rfl];simp only [go_sem,↓reduceIte,nE,nA,nM,nB,oN,iT,nS,nL,nD,iE,iL,reduceCtorEq]
  clear ho
  by_cases hlt:k < a.length
  · have hi':(k:Int) < a.length:=by omega
    have ga:a[k]? = some a[k]:=List.getElem?_eq_getElem hlt
    have hw:IntKind.i64.wrap (k+1)=((k+1:Nat):Int):=wrap_k hlt (by omega)
    have gb:b[k]? = some b[k]:=List.getElem?_eq_getElem (by omega)
    have ib:(k:Int) < b.length:=by omega
    cases hq:(a[k] == b[k]) with
    | false =>
      have hne:¬ a=b:=fun h=>by subst h;simp at hq
      have hq1:(a[k] != b[k])=true:=by rw [bne,hq];rfl
      have hq2:((a[k] == b[k]) != true)=true:=by rw [hq];rfl
      simp only [go_sem,↓reduceIte,nE,nA,nM,nB,oN,iT,nS,nL,nD,iE,iL,reduceCtorEq,hi',ga,gb,ib,hq1,hq2,decide_eq_false hne,j0,j1,j12,h13]
    | true =>
      have hq1:(a[k] != b[k])=false:=by rw [bne,hq];rfl
      have hq2:((a[k] == b[k]) != true)=false:=by rw [hq];rfl
      simp only [go_sem,↓reduceIte,nE,nA,nM,nB,oN,iT,nS,nL,nD,iE,iL,reduceCtorEq,hi',ga,gb,ib,hq1,hq2,hw,j0,j1,j12,h13]
      exact ⟨k+1,by dsimp only;omega,by omega,by simp only [go_sem,↓reduceIte,nE,nA,nM,nB,oN,iT,nS,nL,nD,iE,iL,reduceCtorEq,j0,j1,j12,h13],by rw [take_succ' hlt,take_succ' (show k < b.length by omega),hr,eq_of_beq hq]⟩
  · have hi':¬ (k:Int) < a.length:=by omega
    obtain rfl:k=a.length:=by omega
    rw [List.take_length,hl,List.take_length] at hr
    simp only [go_sem,↓reduceIte,nE,nA,nM,nB,oN,iT,nS,nL,nD,iE,iL,reduceCtorEq,Int.lt_irrefl,decide_eq_true hr,j0,j1,j12,h13]
theorem goodW_eq {p:List StepD} {l:List Int} {ts:List Bool} (hp:ProgOk p) (h:l≠[]):goW p l ts=(nxL p l&&lastX p l&&decide (turnsR p l=ts)):=goW_eq hp l ts h
theorem next_in {p:List StepD} {a b:Int} {s:StepD} (hp:ProgOk p) (ha:0≤a) (gs:p[a.toNat]? = some s) (h:(nextsL s a).any (· == b)=true):0≤b∧b < p.length:=by
  obtain ⟨hi,rfl⟩:=List.getElem?_eq_some_iff.1 gs
  obtain ⟨hv,ht⟩:=hp.all _ hi
  have ok:=step_ok hv
  have hto:=ok.to
  have hj:=ok.jmp
  have hl:p[a.toNat].kind=11∨a+1 < p.length:=by
    by_cases h:a+1 < p.length
    · exact .inr h
    · left
      have e:p.length - 1=a.toNat:=by omega
      have:=hp.last
      unfold lastK at this
      rw [e,gs] at this
      exact this
  generalize p[a.toNat]=s at h ht hto hj hl
  unfold nextsL at h
  split at h
  · simp at h
  · rename_i h11
    have n11:¬ s.kind=11:=by simpa using h11
    split at h
    · rename_i h8
      have k8:s.kind=8:=by simpa using h8
      simp only [List.any_cons,List.any_nil,Bool.or_false,beq_iff_eq] at h
      have:=ht (hj.2 (.inl k8))
      omega
    · split at h
      · rename_i h9
        have k9:s.kind=9:=by simpa using h9
        simp only [List.any_cons,List.any_nil,Bool.or_false,Bool.or_eq_true,beq_iff_eq] at h
        have:=ht (hj.2 (.inr (.inl k9)))
        omega
      · split at h
        · rename_i h10
          have k10:s.kind=10:=by simpa using h10
          simp only [List.any_cons,List.any_nil,Bool.or_false,Bool.or_eq_true,beq_iff_eq] at h
          have:=ht (hj.2 (.inr (.inr k10)))
          omega
        · simp only [List.any_cons,List.any_nil,Bool.or_false,beq_iff_eq] at h
          omega
theorem nexts_len {s:StepD} {i:Int}:(nextsL s i).length≤2:=by
  unfold nextsL
  repeat' split
  all_goals simp
theorem impl_GoodWay.fc (p:List StepD) (w:WayD) (hp:p.length≤4194304) (hw:wWay w≤4194304):FCt prog F_impl_GoodWay [.ro,.ro] [steps p,w.d] (Bb (goodW p w)) []:=by
  refine fct_run impl_GoodWay.ok rfl ?_
  obtain ⟨l,ts⟩:=w
  have hl:l.length+ts.length≤4194304:=hw
  unfold goodW
  dsimp only
  simp only [go_sem,↓reduceIte,nE,nA,nM,nB,oN,iT,nS,nL,nD,iE,iL,reduceCtorEq]
  refine fcW_bool (impl_GoodProgram.fc p hp) ?_
  cases hg:goodP p with
  | false=>simp only [go_sem,↓reduceIte,nE,nA,nM,nB,oN,iT,nS,nL,nD,iE,iL,reduceCtorEq]
  | true =>
    have op:=prog_ok hg
    cases hlq:l with
    | nil =>
      have z0:(((0:Nat):Int) == 0)=true:=rfl
      simp only [go_sem,↓reduceIte,nE,nA,nM,nB,oN,iT,nS,nL,nD,iE,iL,reduceCtorEq,List.length_nil,z0]
      rfl
    | cons a0 l0 =>
      rw [← hlq]
      have hne:l≠[]:=by rw [hlq];simp
      have n0:((l.length:Int) == 0)=false:=by rw [hlq];exact neq_b (by simp only [List.length_cons];omega)
      have i0:(0:Int) < l.length:=by rw [hlq];simp only [List.length_cons];omega
      have hz:headZ l=(a0 == 0):=by rw [hlq];rfl
      have g0:l[0]? = some a0:=by rw [hlq];rfl
      have gt0:(0:Int).toNat=0:=rfl
      have hgw:=goodW_eq (ts:=ts) op hne
      simp only [go_sem,↓reduceIte,nE,nA,nM,nB,oN,iT,nS,nL,nD,iE,iL,reduceCtorEq,n0,i0,g0,gt0,hz]
      cases ha:(a0 == 0) with
      | false =>
        have ha2:(a0 != 0)=true:=by rw [bne,ha];rfl
        simp only [go_sem,↓reduceIte,nE,nA,nM,nB,oN,iT,nS,nL,nD,iE,iL,reduceCtorEq,ha2,hz,ha]
      | true =>
        have ha2:(a0 != 0)=false:=by rw [bne,ha];rfl
        have hz2:headZ l=true:=by rw [hz,ha]
        have a00:a0=0:=by simpa using ha
        have hpl:=op.len.1
        simp only [go_sem,↓reduceIte,nE,nA,nM,nB,oN,iT,nS,nL,nD,iE,iL,reduceCtorEq,ha2,hz2]
        refine R_loop (α:=Nat) (fun k s' M'=>k+1≤l.length∧s' 5=aI ((k+1:Nat):Int)∧M'.m 64=some (.box 0 (.dat none (WayD.d ⟨l,ts⟩)))∧InP p (l.take (k+1))∧nxL p l=nxL p (l.drop k)) (fun k=>l.length - k) 0
          ⟨by omega,by simp only [go_sem,↓reduceIte,nE,nA,nM,nB,oN,iT,nS,nL,nD,iE,iL,reduceCtorEq];rfl,by simp only [go_sem,↓reduceIte,nE,nA,nM,nB,oN,iT,nS,nL,nD,iE,iL,reduceCtorEq],by rw [hlq];intro x hx;simp at hx;rw [hx,a00];omega,by simp⟩ ?_
        rintro k s' M' ⟨hk,h5,hm,hin,hr⟩ ho
        unfold impl_GoodWay.b0
        have j0:s' 0=.dat none (steps p):=by rw [ho 0 rfl];simp only [go_sem,↓reduceIte,nE,nA,nM,nB,oN,iT,nS,nL,nD,iE,iL,reduceCtorEq]
        have j3:s' 3=.ptr 64 0 0 none:=by rw [ho 3 rfl];simp only [go_sem,↓reduceIte,nE,nA,nM,nB,oN,iT,nS,nL,nD,iE,iL,reduceCtorEq]
        clear ho
        have gk:l[k]? = some l[k]:=List.getElem?_eq_getElem (by omega)
        have ik:(k:Int) < l.length:=by omega
        have hmem:l[k]∈l.take (k+1):=by rw [take_succ' (show k < l.length by omega)];exact List.mem_append_right _ (List.mem_singleton.2 rfl)
        obtain ⟨q0,q1⟩:=hin _ hmem
        obtain ⟨st,ks,gs,hv⟩:=stepK_some q0 q1 op
        by_cases hlt:k+1 < l.length
        · have hi':((k+1:Nat):Int) < l.length:=by omega
          have w0:IntKind.i64.wrap (((k+1:Nat):Int) - 1)=(k:Int):=by rw [wrap_in (by omega) (by omega)];omega
          have wk:IntKind.i64.wrap (((k+1:Nat):Int)+1)=((k+1+1:Nat):Int):=by rw [wrap_in (by omega) (by omega)];omega
          have g2:l[k+1]? = some l[k+1]:=List.getElem?_eq_getElem hlt
          have hd:l.drop k=l[k]::l[k+1]::l.drop (k+1+1):=by rw [List.drop_eq_getElem_cons (show k < l.length by omega),List.drop_eq_getElem_cons hlt]
          have hd2:l.drop (k+1)=l[k+1]::l.drop (k+1+1):=List.drop_eq_getElem_cons hlt
          rw [hd,nxL,ks] at hr
          dsimp only at hr
          rw [← hd2] at hr
          have nl:(nextsL st l[k]).length≤2:=nexts_len
          simp only [go_sem,↓reduceIte,nE,nA,nM,nB,oN,iT,nS,nL,nD,iE,iL,reduceCtorEq,hi',w0,gk,ik,j0,j3,h5,hm,hz2]
          refine fcW_bd (impl_nexts.fc p l[k] st q0 q1 op.len.2 gs hv) noRs_ints ?_
          simp only [go_sem,↓reduceIte,nE,nA,nM,nB,oN,iT,nS,nL,nD,iE,iL,reduceCtorEq,hi',gk,ik,g2,take_map_len,j0,j3,h5,hm,hz2]
          refine fcW_bool (slices_Contains__sint_int.fc (nextsL st l[k]) l[k+1] (by omega)) ?_
          cases hc:(nextsL st l[k]).any (· == l[k+1]) with
          | false =>
            rw [hc,Bool.false_and] at hr
            rw [hr,Bool.false_and,Bool.false_and] at hgw
            simp only [go_sem,↓reduceIte,nE,nA,nM,nB,oN,iT,nS,nL,nD,iE,iL,reduceCtorEq,hgw,j0,j3,h5,hm,hz2]
          | true =>
            rw [hc,Bool.true_and] at hr
            simp only [go_sem,↓reduceIte,nE,nA,nM,nB,oN,iT,nS,nL,nD,iE,iL,reduceCtorEq,wk,j0,j3,h5,hm,hz2]
            exact ⟨k+1,by dsimp only;omega,hlt,by simp only [go_sem,↓reduceIte,nE,nA,nM,nB,oN,iT,nS,nL,nD,iE,iL,reduceCtorEq,j0,j3,h5,hm,hz2],by simp only [go_sem,↓reduceIte,nE,nA,nM,nB,oN,iT,nS,nL,nD,iE,iL,reduceCtorEq,j0,j3,h5,hm,hz2],fun x hx=>by
              rw [take_succ' hlt] at hx
              rcases List.mem_append.1 hx with hx|hx
              · exact hin x hx
              · rw [List.mem_singleton] at hx;subst hx;exact next_in op q0 gs hc,hr⟩
        · have hi':¬ ((k+1:Nat):Int) < l.length:=by omega
          have hkl:k+1=l.length:=by omega
          have hnx:nxL p l=true:=by
            rw [hr,List.drop_eq_getElem_cons (show k < l.length by omega),List.drop_eq_nil_iff.2 (by omega)];rfl
          have hlx:lastX p l=(st.kind == 11):=by
            unfold lastX
            rw [List.getLast?_eq_getElem?,show l.length - 1=k by omega,gk]
            dsimp only
            rw [ks]
          have hinp:InP p l:=by
            have:l.take (k+1)=l:=List.take_of_length_le (by omega)
            rw [this] at hin;exact hin
          have w0:IntKind.i64.wrap ((l.length:Int) - 1)=(k:Int):=by rw [wrap_in (by omega) (by omega)];omega
          rw [hnx,hlx,← turnsR_eq hinp,Bool.true_and] at hgw
          simp only [go_sem,↓reduceIte,nE,nA,nM,nB,oN,iT,nS,nL,nD,iE,iL,reduceCtorEq,hi',w0,gk,ik,q0,q1,gs,j0,j3,h5,hm,hz2]
          cases h11:(st.kind == 11) with
          | false =>
            rw [h11,Bool.false_and] at hgw
            simp only [go_sem,↓reduceIte,nE,nA,nM,nB,oN,iT,nS,nL,nD,iE,iL,reduceCtorEq,h11,hgw,j0,j3,h5,hm,hz2]
          | true =>
            rw [h11,Bool.true_and] at hgw
            simp only [go_sem,↓reduceIte,nE,nA,nM,nB,oN,iT,nS,nL,nD,iE,iL,reduceCtorEq,h11,j0,j3,h5,hm,hz2]
            refine fcW_bd (impl_turnsOf.fc p l op hinp (by omega)) noRs_bools ?_
            simp only [go_sem,↓reduceIte,nE,nA,nM,nB,oN,iT,nS,nL,nD,iE,iL,reduceCtorEq,take_map_len,j0,j3,h5,hm,hz2]
            have htl:(turnsV p l).length≤l.length:=turnsN_len p l l.length
            refine fcW_bool (slices_Equal__sbool_bool.fc (turnsV p l) ts (by omega) (by omega)) ?_
            simp only [go_sem,↓reduceIte,nE,nA,nM,nB,oN,iT,nS,nL,nD,iE,iL,reduceCtorEq,hgw,j0,j3,h5,hm,hz2]
end Go.Vm.Ytmbhjcgikblpiaa
namespace Go.Vm.Ytmbhjcgikblpiaa
open Go Go.Vm
set_option maxRecDepth 10000
set_option maxHeartbeats 16000000
set_option linter.unusedSimpArgs false
set_option linter.unusedVariables false
end Go.Vm.Ytmbhjcgikblpiaa
namespace Go.Vm.Ytmbhjcgikblpiaa
open Go Go.Vm
set_option maxRecDepth 10000
set_option maxHeartbeats 16000000
set_option linter.unusedSimpArgs false
set_option linter.unusedVariables false
end Go.Vm.Ytmbhjcgikblpiaa
namespace Go.Vm.Ytmbhjcgikblpiaa
open Go Go.Vm
set_option maxRecDepth 10000
set_option maxHeartbeats 16000000
set_option linter.unusedSimpArgs false
set_option linter.unusedVariables false
abbrev ways (l:List WayD):D:=.sl 2 (l.map WayD.d)
end Go.Vm.Ytmbhjcgikblpiaa
namespace Go.Vm.Ytmbhjcgikblpiaa
open Go Go.Vm
set_option maxRecDepth 10000
set_option maxHeartbeats 4000000
set_option linter.unusedSimpArgs false
set_option linter.unusedVariables false
abbrev mayss (l:List MayD):D:=.sl 4 (l.map MayD.d)
structure RepD where
  met:List Bool
  mays:List MayD
  bad:List Int
  deriving DecidableEq
abbrev RepD.d (x:RepD):D:=.agg [bools x.met,mayss x.mays,ints x.bad]
end Go.Vm.Ytmbhjcgikblpiaa
namespace Go.Vm.Ytmbhjcgikblpiaa
open Go Go.Vm
set_option maxRecDepth 10000
set_option maxHeartbeats 32000000
set_option linter.unusedSimpArgs false
set_option linter.unusedVariables false
theorem noRs_mayI {m:MayD} {n:Int}:noRs (.tup [m.d,Ii n])=true:=noRs_t2 noRs_May rfl
end Go.Vm.Ytmbhjcgikblpiaa
namespace Go.Vm.Ytmbhjcgikblpiaa
open Go Go.Vm
set_option maxRecDepth 10000
set_option maxHeartbeats 32000000
set_option linter.unusedSimpArgs false
set_option linter.unusedVariables false
end Go.Vm.Ytmbhjcgikblpiaa
namespace Go.Vm.Ytmbhjcgikblpiaa
open Go Go.Vm
set_option maxRecDepth 10000
set_option maxHeartbeats 32000000
set_option linter.unusedSimpArgs false
set_option linter.unusedVariables false
def takeF (p:List StepD):List Int→List Bool→MayD→Bool
  | [],_,_=>true
  | a::l,ts,m=>match p[a.toNat]? with
    | none=>false
    | some s=>if (mayV s m).2 == 0 then (if brB s then (match ts with
        | []=>false
        | t::ts'=>if (heedV s (mayV s m).1 t).2 then takeF p l ts' (heedV s (mayV s m).1 t).1 else false) else takeF p l ts (mayV s m).1) else false
theorem takeF_cons {p:List StepD} {a:Int} {l:List Int} {ts:List Bool} {m:MayD}:takeF p (a::l) ts m=match p[a.toNat]? with
    | none=>false
    | some s=>if (mayV s m).2 == 0 then (if brB s then (match ts with
        | []=>false
        | t::ts'=>if (heedV s (mayV s m).1 t).2 then takeF p l ts' (heedV s (mayV s m).1 t).1 else false) else takeF p l ts (mayV s m).1) else false:=by
  cases ts<;>rfl
def takeV (p:List StepD) (w:WayD):Bool:=goodW p w&&takeF p w.steps w.turns startM
theorem go_step {p:List StepD} {a:Int} {l:List Int} {ts:List Bool} (h:goW p (a::l) ts=true) :
    ∃ s,0≤a∧p[a.toNat]? = some s∧(brB s=false→goW p l ts=true)∧(brB s=true→∃ t ts',ts=t::ts'∧goW p l ts'=true):=by
  cases l with
  | nil =>
    unfold goW at h
    split at h
    · rename_i s hs
      unfold stepK at hs
      split at hs
      · rename_i h0
        simp only [Bool.and_eq_true] at h
        refine ⟨s,h0,hs,fun _=>h.2,fun hb=>?_⟩
        have hk:s.kind=11:=by simpa using h.1
        unfold brB at hb
        rw [hk] at hb
        exact absurd hb (by decide)
      · cases hs
    · cases h
  | cons b l =>
    unfold goW at h
    split at h
    · cases h
    · rename_i s hs
      unfold stepK at hs
      split at hs
      · rename_i h0
        split at h
        · cases h
        split at h
        · rename_i hb
          cases ts with
          | nil=>cases h
          | cons t ts' =>
            simp only [Bool.and_eq_true] at h
            exact ⟨s,h0,hs,fun hf=>by rw [hf] at hb;(exact absurd hb (by decide)),fun _=>⟨t,ts',rfl,h.2⟩⟩
        · rename_i hb
          simp only [Bool.and_eq_true] at h
          exact ⟨s,h0,hs,fun _=>h.2,fun hf=>absurd hf hb⟩
      · cases hs
theorem impl_MayTake.fc (p:List StepD) (w:WayD) (hp:p.length≤4194304) (hw:wWay w≤4194304):FCt prog F_impl_MayTake [.ro,.ro] [steps p,w.d] (.tup [Bb (takeV p w),Bb (goodW p w)]) []:=by
  refine fct_run impl_MayTake.ok rfl ?_
  have cg:=impl_GoodWay.fc p w hp hw
  unfold takeV
  simp only [go_sem,↓reduceIte,nE,nA,nM,nB,oN,iT,nS,nL,nD,iE,iL,reduceCtorEq]
  refine fcW_bool cg ?_
  cases hg:goodW p w with
  | false=>simp only [go_sem,↓reduceIte,nE,nA,nM,nB,oN,iT,nS,nL,nD,iE,iL,reduceCtorEq];try rfl
  | true =>
    have op:=prog_ok (p:=p) (by unfold goodW at hg;simp only [Bool.and_eq_true] at hg;exact hg.1.1)
    have hgo:goW p w.steps w.turns=true:=by unfold goodW at hg;simp only [Bool.and_eq_true] at hg;exact hg.2
    obtain ⟨l,ts⟩:=w
    have hl:l.length≤4194304:=by unfold wWay at hw;dsimp only at hw;omega
    have ht:ts.length≤4194304:=by unfold wWay at hw;dsimp only at hw;omega
    dsimp only at hgo ⊢
    have st:=startM_ok.len
    have s1:=st.reg
    have s2:=st.bits
    have s3:=st.cell
    have s4:=st.isset
    simp only [go_sem,↓reduceIte,nE,nA,nM,nB,oN,iT,nS,nL,nD,iE,iL,reduceCtorEq]
    refine fcW_bd impl_StartMay.fc noRs_May ?_
    simp only [go_sem,↓reduceIte,nE,nA,nM,nB,oN,iT,nS,nL,nD,iE,iL,reduceCtorEq,s1,s2,s3,s4]
    refine R_loop (α:=Nat×List Bool×MayD) (fun a s' M'=>a.1≤l.length∧s' 24=aI a.1∧a.2.1.length≤4194304∧MayOk a.2.2∧goW p (l.drop a.1) a.2.1=true∧takeF p l ts startM=takeF p (l.drop a.1) a.2.1 a.2.2∧s' 7=.dat none (bools a.2.1)∧M'.m 64=some (.box 0 (.dat none (WayD.d ⟨l,ts⟩))) ∧
        (∃ n1 n2 n3 n4 v v1 v2 v3 v4,M'.m 832=some (.box v (.agg [.sl n1 v1 0 6 2,.sl n2 v2 0 6 2,.sl n3 v3 0 16 2,.sl n4 v4 0 16 1]))∧s' 6=.ptr 832 v 0 none∧M'.m n1=some (.arr v1 true 2 (a.2.2.reg.map strD))∧M'.m n2=some (.arr v2 true 2 (a.2.2.bits.map knownD))∧M'.m n3=some (.arr v3 true 2 (a.2.2.cell.map strD))∧M'.m n4=some (.arr v4 true 1 (a.2.2.isset.map Bb)) ∧
          ((n1=640∧n2=641∧n3=642∧n4=643)∨(n1=1856∧n2=1857∧n3=1858∧n4=1859)∨(n1=3520∧n2=3521∧n3=3522∧n4=3523)))) (fun a=>l.length - a.1) (0,ts,startM)
      ⟨Nat.zero_le _,by simp only [go_sem,↓reduceIte,nE,nA,nM,nB,oN,iT,nS,nL,nD,iE,iL,reduceCtorEq];rfl,ht,startM_ok,hgo,rfl,by simp only [go_sem,↓reduceIte,nE,nA,nM,nB,oN,iT,nS,nL,nD,iE,iL,reduceCtorEq],by simp only [go_sem,↓reduceIte,nE,nA,nM,nB,oN,iT,nS,nL,nD,iE,iL,reduceCtorEq];try rfl,⟨640,641,642,643,_,_,_,_,_,by simp only [go_sem,↓reduceIte,nE,nA,nM,nB,oN,iT,nS,nL,nD,iE,iL,reduceCtorEq,s1,s2,s3,s4];try rfl,by simp only [go_sem,↓reduceIte,nE,nA,nM,nB,oN,iT,nS,nL,nD,iE,iL,reduceCtorEq];try rfl,by simp only [go_sem,↓reduceIte,nE,nA,nM,nB,oN,iT,nS,nL,nD,iE,iL,reduceCtorEq];try rfl,by simp only [go_sem,↓reduceIte,nE,nA,nM,nB,oN,iT,nS,nL,nD,iE,iL,reduceCtorEq];try rfl,by simp only [go_sem,↓reduceIte,nE,nA,nM,nB,oN,iT,nS,nL,nD,iE,iL,reduceCtorEq];try rfl,by simp only [go_sem,↓reduceIte,nE,nA,nM,nB,oN,iT,nS,nL,nD,iE,iL,reduceCtorEq];try rfl,.inl ⟨rfl,rfl,rfl,rfl⟩⟩⟩ ?_
    rintro ⟨k,r,m⟩ s' M' ⟨hk,h24,hr,hm,hgw,htk,h7,hb64,⟨n1,n2,n3,n4,v,v1,v2,v3,v4,hb,h6,m1,m2,m3,m4,hn⟩⟩ ho
    dsimp only at hk h24 hr hm hgw htk h7 hb m1 m2 m3 m4
    unfold impl_MayTake.b0
    have j0:s' 0=.dat none (steps p):=by rw [ho 0 rfl];simp only [go_sem,↓reduceIte,nE,nA,nM,nB,oN,iT,nS,nL,nD,iE,iL,reduceCtorEq]
    have j3:s' 3=.ptr 64 0 0 none:=by rw [ho 3 rfl];simp only [go_sem,↓reduceIte,nE,nA,nM,nB,oN,iT,nS,nL,nD,iE,iL,reduceCtorEq]
    have j22:s' 22=.dat none (ints l):=by rw [ho 22 rfl];simp only [go_sem,↓reduceIte,nE,nA,nM,nB,oN,iT,nS,nL,nD,iE,iL,reduceCtorEq]
    have j23:s' 23=aI l.length:=by rw [ho 23 rfl];simp only [go_sem,↓reduceIte,nE,nA,nM,nB,oN,iT,nS,nL,nD,iE,iL,reduceCtorEq]
    clear ho
    by_cases hlt:k < l.length
    · have hi':(k:Int) < l.length:=by omega
      have ga:l[k]? = some l[k]:=List.getElem?_eq_getElem hlt
      have hw:IntKind.i64.wrap (k+1)=((k+1:Nat):Int):=wrap_k hlt (by omega)
      have hd:l.drop k=l[k]::l.drop (k+1):=List.drop_eq_getElem_cons hlt
      rw [hd] at hgw htk
      obtain ⟨s,a0,gs,q1,q2⟩:=go_step hgw
      rw [takeF_cons,gs] at htk
      dsimp only at htk
      generalize l[k]=a at ga a0 gs htk hgw
      have a1:a.toNat < p.length:=(List.getElem?_eq_some_iff.1 gs).1
      have a2:a < p.length:=by omega
      have hv:stepB s=true:=by
        obtain ⟨h,rfl⟩:=List.getElem?_eq_some_iff.1 gs
        exact (op.all _ h).1
      have cs:=impl_stepMay.fc s m hm hv
      have oa:=mayV_ok hm hv
      obtain ⟨e1,e2,e3,e4⟩:=hm.len
      have t1:=tk_S e1
      have t2:=tk_K e2
      have t3:=tk_S e3
      have t4:=tk_B e4
      have cb:=impl_Step_branches.fc s
      generalize mayV s m=A at cs oa htk
      obtain ⟨b,f⟩:=A
      dsimp only at cs oa htk
      obtain ⟨f1,f2,f3,f4⟩:=oa.len
      have u1:=tk_S f1
      have u2:=tk_K f2
      have u3:=tk_S f3
      have u4:=tk_B f4
      have hbr:brB s=true→s.kind=9∨s.kind=10:=fun h=>by simpa [brB] using h
      rcases hn with ⟨rfl,rfl,rfl,rfl⟩|⟨rfl,rfl,rfl,rfl⟩|⟨rfl,rfl,rfl,rfl⟩ <;>
      · simp only [go_sem,↓reduceIte,nE,nA,nM,nB,oN,iT,nS,nL,nD,iE,iL,reduceCtorEq,t1,t2,t3,t4,e1,e2,e3,e4,Nat.le_refl,j0,j3,j22,j23,h24,h7,hb64,hb,h6,m1,m2,m3,m4,hi',ga,hw,a0,a2,gs]
        refine fcW_bd cs noRs_mayI ?_
        unfold MayZ
        cases hf:(f == 0) with
        | false =>
          have hf2:(f != 0)=true:=by rw [bne,hf];rfl
          rw [hf] at htk
          simp only [Bool.false_eq_true,if_false] at htk
          rw [htk]
          simp only [go_sem,↓reduceIte,nE,nA,nM,nB,oN,iT,nS,nL,nD,iE,iL,reduceCtorEq,hf2,j0,j3,j22,j23,h24,h7,hb64,hb,h6,m1,m2,m3,m4,hi',ga,hw,a0,a2,gs];try rfl
        | true =>
          have hf2:(f != 0)=false:=by rw [bne,hf];rfl
          rw [hf] at htk
          simp only [if_true] at htk
          simp only [go_sem,↓reduceIte,nE,nA,nM,nB,oN,iT,nS,nL,nD,iE,iL,reduceCtorEq,hf2,f1,f2,f3,f4,j0,j3,j22,j23,h24,h7,hb64,hb,h6,m1,m2,m3,m4,hi',ga,hw,a0,a2,gs]
          refine fcW_bool cb ?_
          cases hbb:brB s with
          | false =>
            rw [hbb] at htk
            simp only [Bool.false_eq_true,if_false] at htk
            simp only [go_sem,↓reduceIte,nE,nA,nM,nB,oN,iT,nS,nL,nD,iE,iL,reduceCtorEq,j0,j3,j22,j23,h24,h7,hb64,hb,h6,m1,m2,m3,m4,hi',ga,hw,a0,a2,gs]
            exact ⟨(k+1,r,b),by dsimp only;omega,by dsimp only;omega,by simp only [go_sem,↓reduceIte,nE,nA,nM,nB,oN,iT,nS,nL,nD,iE,iL,reduceCtorEq,j0,j3,j22,j23,h24,h7,hb64,hb,h6,m1,m2,m3,m4,hi',ga,hw,a0,a2,gs],hr,oa,q1 hbb,htk,by simp only [go_sem,↓reduceIte,nE,nA,nM,nB,oN,iT,nS,nL,nD,iE,iL,reduceCtorEq,j0,j3,j22,j23,h24,h7,hb64,hb,h6,m1,m2,m3,m4,hi',ga,hw,a0,a2,gs],by simp only [go_sem,↓reduceIte,nE,nA,nM,nB,oN,iT,nS,nL,nD,iE,iL,reduceCtorEq,j0,j3,j22,j23,h24,h7,hb64,hb,h6,m1,m2,m3,m4,hi',ga,hw,a0,a2,gs],⟨1856,1857,1858,1859,_,_,_,_,_,by simp only [go_sem,↓reduceIte,nE,nA,nM,nB,oN,iT,nS,nL,nD,iE,iL,reduceCtorEq,f1,f2,f3,f4,j0,j3,j22,j23,h24,h7,hb64,hb,h6,m1,m2,m3,m4,hi',ga,hw,a0,a2,gs];try rfl,by simp only [go_sem,↓reduceIte,nE,nA,nM,nB,oN,iT,nS,nL,nD,iE,iL,reduceCtorEq,j0,j3,j22,j23,h24,h7,hb64,hb,h6,m1,m2,m3,m4,hi',ga,hw,a0,a2,gs];try rfl,by simp only [go_sem,↓reduceIte,nE,nA,nM,nB,oN,iT,nS,nL,nD,iE,iL,reduceCtorEq,j0,j3,j22,j23,h24,h7,hb64,hb,h6,m1,m2,m3,m4,hi',ga,hw,a0,a2,gs];try rfl,by simp only [go_sem,↓reduceIte,nE,nA,nM,nB,oN,iT,nS,nL,nD,iE,iL,reduceCtorEq,j0,j3,j22,j23,h24,h7,hb64,hb,h6,m1,m2,m3,m4,hi',ga,hw,a0,a2,gs];try rfl,by simp only [go_sem,↓reduceIte,nE,nA,nM,nB,oN,iT,nS,nL,nD,iE,iL,reduceCtorEq,j0,j3,j22,j23,h24,h7,hb64,hb,h6,m1,m2,m3,m4,hi',ga,hw,a0,a2,gs];try rfl,by simp only [go_sem,↓reduceIte,nE,nA,nM,nB,oN,iT,nS,nL,nD,iE,iL,reduceCtorEq,j0,j3,j22,j23,h24,h7,hb64,hb,h6,m1,m2,m3,m4,hi',ga,hw,a0,a2,gs];try rfl,.inr (.inl ⟨rfl,rfl,rfl,rfl⟩)⟩⟩
          | true =>
            rw [hbb] at htk
            simp only [if_true] at htk
            obtain ⟨t,r',hrr,hgw'⟩:=q2 hbb
            rw [hrr] at htk
            dsimp only at htk
            have ch:=impl_heedJump.fc s b t oa hv (hbr hbb)
            have oh:=heedV_ok (t:=t) oa hv
            generalize heedV s b t=H at ch oh htk
            obtain ⟨h,z⟩:=H
            dsimp only at ch oh htk
            have lr:r.length=r'.length+1:=by rw [hrr];rfl
            have p0:(0:Int) < r.length:=by omega
            have g0:r[0]? = some t:=by rw [hrr];rfl
            simp only [go_sem,↓reduceIte,nE,nA,nM,nB,oN,iT,nS,nL,nD,iE,iL,reduceCtorEq,p0,g0,f1,f2,f3,f4,u1,u2,u3,u4,Nat.le_refl,j0,j3,j22,j23,h24,h7,hb64,hb,h6,m1,m2,m3,m4,hi',ga,hw,a0,a2,gs]
            refine fcW_bd ch noRs_mayB ?_
            cases z with
            | false =>
              simp only [Bool.false_eq_true,if_false] at htk
              rw [htk]
              simp only [go_sem,↓reduceIte,nE,nA,nM,nB,oN,iT,nS,nL,nD,iE,iL,reduceCtorEq,j0,j3,j22,j23,h24,h7,hb64,hb,h6,m1,m2,m3,m4,hi',ga,hw,a0,a2,gs];try rfl
            | true =>
              simp only [if_true] at htk
              have oh:=oh rfl
              obtain ⟨d1,d2,d3,d4⟩:=oh.len
              have p1:(1:Int)≤r.length:=by omega
              have dr:((r.map Bb).take r.length).drop 1=r'.map Bb:=by rw [take_map_len,hrr];rfl
              have hr':r'.length≤4194304:=by omega
              simp only [go_sem,↓reduceIte,nE,nA,nM,nB,oN,iT,nS,nL,nD,iE,iL,reduceCtorEq,p1,dr,d1,d2,d3,d4,Int.le_refl,j0,j3,j22,j23,h24,h7,hb64,hb,h6,m1,m2,m3,m4,hi',ga,hw,a0,a2,gs]
              exact ⟨(k+1,r',h),by dsimp only;omega,by dsimp only;omega,by simp only [go_sem,↓reduceIte,nE,nA,nM,nB,oN,iT,nS,nL,nD,iE,iL,reduceCtorEq,j0,j3,j22,j23,h24,h7,hb64,hb,h6,m1,m2,m3,m4,hi',ga,hw,a0,a2,gs],hr',oh,hgw',htk,by simp only [go_sem,↓reduceIte,nE,nA,nM,nB,oN,iT,nS,nL,nD,iE,iL,reduceCtorEq,j0,j3,j22,j23,h24,h7,hb64,hb,h6,m1,m2,m3,m4,hi',ga,hw,a0,a2,gs],by simp only [go_sem,↓reduceIte,nE,nA,nM,nB,oN,iT,nS,nL,nD,iE,iL,reduceCtorEq,j0,j3,j22,j23,h24,h7,hb64,hb,h6,m1,m2,m3,m4,hi',ga,hw,a0,a2,gs],⟨3520,3521,3522,3523,_,_,_,_,_,by simp only [go_sem,↓reduceIte,nE,nA,nM,nB,oN,iT,nS,nL,nD,iE,iL,reduceCtorEq,d1,d2,d3,d4,j0,j3,j22,j23,h24,h7,hb64,hb,h6,m1,m2,m3,m4,hi',ga,hw,a0,a2,gs];try rfl,by simp only [go_sem,↓reduceIte,nE,nA,nM,nB,oN,iT,nS,nL,nD,iE,iL,reduceCtorEq,j0,j3,j22,j23,h24,h7,hb64,hb,h6,m1,m2,m3,m4,hi',ga,hw,a0,a2,gs];try rfl,by simp only [go_sem,↓reduceIte,nE,nA,nM,nB,oN,iT,nS,nL,nD,iE,iL,reduceCtorEq,j0,j3,j22,j23,h24,h7,hb64,hb,h6,m1,m2,m3,m4,hi',ga,hw,a0,a2,gs];try rfl,by simp only [go_sem,↓reduceIte,nE,nA,nM,nB,oN,iT,nS,nL,nD,iE,iL,reduceCtorEq,j0,j3,j22,j23,h24,h7,hb64,hb,h6,m1,m2,m3,m4,hi',ga,hw,a0,a2,gs];try rfl,by simp only [go_sem,↓reduceIte,nE,nA,nM,nB,oN,iT,nS,nL,nD,iE,iL,reduceCtorEq,j0,j3,j22,j23,h24,h7,hb64,hb,h6,m1,m2,m3,m4,hi',ga,hw,a0,a2,gs];try rfl,by simp only [go_sem,↓reduceIte,nE,nA,nM,nB,oN,iT,nS,nL,nD,iE,iL,reduceCtorEq,j0,j3,j22,j23,h24,h7,hb64,hb,h6,m1,m2,m3,m4,hi',ga,hw,a0,a2,gs];try rfl,.inr (.inr ⟨rfl,rfl,rfl,rfl⟩)⟩⟩
    · have hi':¬ (k:Int) < l.length:=by omega
      obtain rfl:k=l.length:=by omega
      rw [List.drop_length] at htk
      have htk:takeF p l ts startM=true:=htk
      rw [htk]
      simp only [go_sem,↓reduceIte,nE,nA,nM,nB,oN,iT,nS,nL,nD,iE,iL,reduceCtorEq,Int.lt_irrefl,j0,j3,j22,j23,h24,h7,hb64,hb,h6,m1,m2,m3,m4];try rfl
end Go.Vm.Ytmbhjcgikblpiaa
namespace Go.Vm.Ytmbhjcgikblpiaa
open Go Go.Vm
set_option maxRecDepth 10000
set_option maxHeartbeats 32000000
set_option linter.unusedSimpArgs false
set_option linter.unusedVariables false
theorem spec_MayTake.fc (p:List StepD) (w:WayD) (hp:p.length≤4194304) (hw:wWay w≤4194304):FCt prog F_spec_MayTake [.ro,.ro] [steps p,w.d] (.tup [Bb (takeV p w),Bb (goodW p w)]) []:=by
  refine fct_run spec_MayTake.ok rfl ?_
  have cg:=spec_GoodWay.fc p w hp hw
  unfold takeV
  simp only [go_sem,↓reduceIte,nE,nA,nM,nB,oN,iT,nS,nL,nD,iE,iL,reduceCtorEq]
  refine fcW_bool cg ?_
  cases hg:goodW p w with
  | false=>simp only [go_sem,↓reduceIte,nE,nA,nM,nB,oN,iT,nS,nL,nD,iE,iL,reduceCtorEq];try rfl
  | true =>
    have op:=prog_ok (p:=p) (by unfold goodW at hg;simp only [Bool.and_eq_true] at hg;exact hg.1.1)
    have hgo:goW p w.steps w.turns=true:=by unfold goodW at hg;simp only [Bool.and_eq_true] at hg;exact hg.2
    obtain ⟨l,ts⟩:=w
    have hl:l.length≤4194304:=by unfold wWay at hw;dsimp only at hw;omega
    have ht:ts.length≤4194304:=by unfold wWay at hw;dsimp only at hw;omega
    dsimp only at hgo ⊢
    have st:=startM_ok.len
    have s1:=st.reg
    have s2:=st.bits
    have s3:=st.cell
    have s4:=st.isset
    simp only [go_sem,↓reduceIte,nE,nA,nM,nB,oN,iT,nS,nL,nD,iE,iL,reduceCtorEq]
    refine fcW_bd spec_StartMay.fc noRs_May ?_
    simp only [go_sem,↓reduceIte,nE,nA,nM,nB,oN,iT,nS,nL,nD,iE,iL,reduceCtorEq,s1,s2,s3,s4]
    refine R_loop (α:=Nat×List Bool×MayD) (fun a s' M'=>a.1≤l.length∧s' 22=aI a.1∧a.2.1.length≤4194304∧MayOk a.2.2∧goW p (l.drop a.1) a.2.1=true∧takeF p l ts startM=takeF p (l.drop a.1) a.2.1 a.2.2∧(∃ j:Nat,s' 7=aI j∧a.2.1=ts.drop j∧j+a.2.1.length=ts.length)∧M'.m 64=some (.box 0 (.dat none (WayD.d ⟨l,ts⟩))) ∧
        (∃ n1 n2 n3 n4 v v1 v2 v3 v4,M'.m 704=some (.box v (.agg [.sl n1 v1 0 6 2,.sl n2 v2 0 6 2,.sl n3 v3 0 16 2,.sl n4 v4 0 16 1]))∧s' 6=.ptr 704 v 0 none∧M'.m n1=some (.arr v1 true 2 (a.2.2.reg.map strD))∧M'.m n2=some (.arr v2 true 2 (a.2.2.bits.map knownD))∧M'.m n3=some (.arr v3 true 2 (a.2.2.cell.map strD))∧M'.m n4=some (.arr v4 true 1 (a.2.2.isset.map Bb)) ∧
          ((n1=640∧n2=641∧n3=642∧n4=643)∨(n1=1728∧n2=1729∧n3=1730∧n4=1731)∨(n1=3584∧n2=3585∧n3=3586∧n4=3587)))) (fun a=>l.length - a.1) (0,ts,startM)
      ⟨Nat.zero_le _,by simp only [go_sem,↓reduceIte,nE,nA,nM,nB,oN,iT,nS,nL,nD,iE,iL,reduceCtorEq];rfl,ht,startM_ok,hgo,rfl,⟨0,by simp only [go_sem,↓reduceIte,nE,nA,nM,nB,oN,iT,nS,nL,nD,iE,iL,reduceCtorEq];try rfl,rfl,by simp⟩,by simp only [go_sem,↓reduceIte,nE,nA,nM,nB,oN,iT,nS,nL,nD,iE,iL,reduceCtorEq];try rfl,⟨640,641,642,643,_,_,_,_,_,by simp only [go_sem,↓reduceIte,nE,nA,nM,nB,oN,iT,nS,nL,nD,iE,iL,reduceCtorEq,s1,s2,s3,s4];try rfl,by simp only [go_sem,↓reduceIte,nE,nA,nM,nB,oN,iT,nS,nL,nD,iE,iL,reduceCtorEq];try rfl,by simp only [go_sem,↓reduceIte,nE,nA,nM,nB,oN,iT,nS,nL,nD,iE,iL,reduceCtorEq];try rfl,by simp only [go_sem,↓reduceIte,nE,nA,nM,nB,oN,iT,nS,nL,nD,iE,iL,reduceCtorEq];try rfl,by simp only [go_sem,↓reduceIte,nE,nA,nM,nB,oN,iT,nS,nL,nD,iE,iL,reduceCtorEq];try rfl,by simp only [go_sem,↓reduceIte,nE,nA,nM,nB,oN,iT,nS,nL,nD,iE,iL,reduceCtorEq];try rfl,.inl ⟨rfl,rfl,rfl,rfl⟩⟩⟩ ?_
    rintro ⟨k,r,m⟩ s' M' ⟨hk,h22,hr,hm,hgw,htk,⟨j7,h7,hrj,hjl⟩,hb64,⟨n1,n2,n3,n4,v,v1,v2,v3,v4,hb,h6,m1,m2,m3,m4,hn⟩⟩ ho
    dsimp only at hk h22 hr hm hgw htk h7 hrj hjl hb m1 m2 m3 m4
    unfold spec_MayTake.b0
    have j0:s' 0=.dat none (steps p):=by rw [ho 0 rfl];simp only [go_sem,↓reduceIte,nE,nA,nM,nB,oN,iT,nS,nL,nD,iE,iL,reduceCtorEq]
    have j3:s' 3=.ptr 64 0 0 none:=by rw [ho 3 rfl];simp only [go_sem,↓reduceIte,nE,nA,nM,nB,oN,iT,nS,nL,nD,iE,iL,reduceCtorEq]
    have j20:s' 20=.dat none (ints l):=by rw [ho 20 rfl];simp only [go_sem,↓reduceIte,nE,nA,nM,nB,oN,iT,nS,nL,nD,iE,iL,reduceCtorEq]
    have j21:s' 21=aI l.length:=by rw [ho 21 rfl];simp only [go_sem,↓reduceIte,nE,nA,nM,nB,oN,iT,nS,nL,nD,iE,iL,reduceCtorEq]
    clear ho
    by_cases hlt:k < l.length
    · have hi':(k:Int) < l.length:=by omega
      have ga:l[k]? = some l[k]:=List.getElem?_eq_getElem hlt
      have hw:IntKind.i64.wrap (k+1)=((k+1:Nat):Int):=wrap_k hlt (by omega)
      have hd:l.drop k=l[k]::l.drop (k+1):=List.drop_eq_getElem_cons hlt
      rw [hd] at hgw htk
      obtain ⟨s,a0,gs,q1,q2⟩:=go_step hgw
      rw [takeF_cons,gs] at htk
      dsimp only at htk
      generalize l[k]=a at ga a0 gs htk hgw
      have a1:a.toNat < p.length:=(List.getElem?_eq_some_iff.1 gs).1
      have a2:a < p.length:=by omega
      have hv:stepB s=true:=by
        obtain ⟨h,rfl⟩:=List.getElem?_eq_some_iff.1 gs
        exact (op.all _ h).1
      have cs:=spec_l13Step.fc s m hm hv
      have hfz:=mayV_fault (s:=s) (m:=m)
      have oa:=mayV_ok hm hv
      obtain ⟨e1,e2,e3,e4⟩:=hm.len
      have t1:=tk_S e1
      have t2:=tk_K e2
      have t3:=tk_S e3
      have t4:=tk_B e4
      have cb:=spec_l14Branch.fc s
      generalize mayV s m=A at cs oa htk hfz
      obtain ⟨b,f⟩:=A
      dsimp only at cs oa htk hfz
      obtain ⟨f1,f2,f3,f4⟩:=oa.len
      have u1:=tk_S f1
      have u2:=tk_K f2
      have u3:=tk_S f3
      have u4:=tk_B f4
      have hbr:brB s=true→s.kind=9∨s.kind=10:=fun h=>by simpa [brB] using h
      rcases hn with ⟨rfl,rfl,rfl,rfl⟩|⟨rfl,rfl,rfl,rfl⟩|⟨rfl,rfl,rfl,rfl⟩ <;>
      · simp only [go_sem,↓reduceIte,nE,nA,nM,nB,oN,iT,nS,nL,nD,iE,iL,reduceCtorEq,t1,t2,t3,t4,e1,e2,e3,e4,Nat.le_refl,j0,j3,j20,j21,h22,h7,hb64,hb,h6,m1,m2,m3,m4,hi',ga,hw,a0,a2,gs]
        refine coW_of cs noRs_mayI rfl ?_
        cases hf:(f == 0) with
        | false =>
          have hf2:f > 0:=by rcases hfz with q|q;rw [q] at hf;cases hf;exact q
          rw [hf] at htk
          simp only [Bool.false_eq_true,if_false] at htk
          rw [htk]
          simp only [go_sem,↓reduceIte,nE,nA,nM,nB,oN,iT,nS,nL,nD,iE,iL,reduceCtorEq,hf2,j0,j3,j20,j21,h22,h7,hb64,hb,h6,m1,m2,m3,m4,hi',ga,hw,a0,a2,gs];try rfl
        | true =>
          have hf2:¬ f > 0:=by have:f=0:=(by simpa using hf);omega
          rw [hf] at htk
          simp only [if_true] at htk
          simp only [go_sem,↓reduceIte,nE,nA,nM,nB,oN,iT,nS,nL,nD,iE,iL,reduceCtorEq,hf2,f1,f2,f3,f4,j0,j3,j20,j21,h22,h7,hb64,hb,h6,m1,m2,m3,m4,hi',ga,hw,a0,a2,gs]
          refine fcW_bool cb ?_
          cases hbb:brB s with
          | false =>
            rw [hbb] at htk
            simp only [Bool.false_eq_true,if_false] at htk
            simp only [go_sem,↓reduceIte,nE,nA,nM,nB,oN,iT,nS,nL,nD,iE,iL,reduceCtorEq,j0,j3,j20,j21,h22,h7,hb64,hb,h6,m1,m2,m3,m4,hi',ga,hw,a0,a2,gs]
            exact ⟨(k+1,r,b),by dsimp only;omega,by dsimp only;omega,by simp only [go_sem,↓reduceIte,nE,nA,nM,nB,oN,iT,nS,nL,nD,iE,iL,reduceCtorEq,j0,j3,j20,j21,h22,h7,hb64,hb,h6,m1,m2,m3,m4,hi',ga,hw,a0,a2,gs],hr,oa,q1 hbb,htk,⟨j7,by simp only [go_sem,↓reduceIte,nE,nA,nM,nB,oN,iT,nS,nL,nD,iE,iL,reduceCtorEq,j0,j3,j20,j21,h22,h7,hb64,hb,h6,m1,m2,m3,m4,hi',ga,hw,a0,a2,gs],hrj,hjl⟩,by simp only [go_sem,↓reduceIte,nE,nA,nM,nB,oN,iT,nS,nL,nD,iE,iL,reduceCtorEq,j0,j3,j20,j21,h22,h7,hb64,hb,h6,m1,m2,m3,m4,hi',ga,hw,a0,a2,gs],⟨1728,1729,1730,1731,_,_,_,_,_,by simp only [go_sem,↓reduceIte,nE,nA,nM,nB,oN,iT,nS,nL,nD,iE,iL,reduceCtorEq,f1,f2,f3,f4,j0,j3,j20,j21,h22,h7,hb64,hb,h6,m1,m2,m3,m4,hi',ga,hw,a0,a2,gs];try rfl,by simp only [go_sem,↓reduceIte,nE,nA,nM,nB,oN,iT,nS,nL,nD,iE,iL,reduceCtorEq,j0,j3,j20,j21,h22,h7,hb64,hb,h6,m1,m2,m3,m4,hi',ga,hw,a0,a2,gs];try rfl,by simp only [go_sem,↓reduceIte,nE,nA,nM,nB,oN,iT,nS,nL,nD,iE,iL,reduceCtorEq,j0,j3,j20,j21,h22,h7,hb64,hb,h6,m1,m2,m3,m4,hi',ga,hw,a0,a2,gs];try rfl,by simp only [go_sem,↓reduceIte,nE,nA,nM,nB,oN,iT,nS,nL,nD,iE,iL,reduceCtorEq,j0,j3,j20,j21,h22,h7,hb64,hb,h6,m1,m2,m3,m4,hi',ga,hw,a0,a2,gs];try rfl,by simp only [go_sem,↓reduceIte,nE,nA,nM,nB,oN,iT,nS,nL,nD,iE,iL,reduceCtorEq,j0,j3,j20,j21,h22,h7,hb64,hb,h6,m1,m2,m3,m4,hi',ga,hw,a0,a2,gs];try rfl,by simp only [go_sem,↓reduceIte,nE,nA,nM,nB,oN,iT,nS,nL,nD,iE,iL,reduceCtorEq,j0,j3,j20,j21,h22,h7,hb64,hb,h6,m1,m2,m3,m4,hi',ga,hw,a0,a2,gs];try rfl,.inr (.inl ⟨rfl,rfl,rfl,rfl⟩)⟩⟩
          | true =>
            rw [hbb] at htk
            simp only [if_true] at htk
            obtain ⟨t,r',hrr,hgw'⟩:=q2 hbb
            rw [hrr] at htk
            dsimp only at htk
            have ch:=spec_l13Heed.fc s b t oa hv (hbr hbb)
            have oh:=heedV_ok (t:=t) oa hv
            generalize heedV s b t=H at ch oh htk
            obtain ⟨h,z⟩:=H
            dsimp only at ch oh htk
            have lr:r.length=r'.length+1:=by rw [hrr];rfl
            have p0:(j7:Int) < ts.length:=by omega
            have g0:ts[j7]? = some t:=by
              have:(ts.drop j7)[0]? = some t:=by rw [← hrj,hrr];rfl
              rwa [List.getElem?_drop] at this
            simp only [go_sem,↓reduceIte,nE,nA,nM,nB,oN,iT,nS,nL,nD,iE,iL,reduceCtorEq,p0,g0,f1,f2,f3,f4,u1,u2,u3,u4,Nat.le_refl,j0,j3,j20,j21,h22,h7,hb64,hb,h6,m1,m2,m3,m4,hi',ga,hw,a0,a2,gs]
            refine coW_of ch noRs_mayB rfl ?_
            cases z with
            | false =>
              simp only [Bool.false_eq_true,if_false] at htk
              rw [htk]
              simp only [go_sem,↓reduceIte,nE,nA,nM,nB,oN,iT,nS,nL,nD,iE,iL,reduceCtorEq,j0,j3,j20,j21,h22,h7,hb64,hb,h6,m1,m2,m3,m4,hi',ga,hw,a0,a2,gs];try rfl
            | true =>
              simp only [if_true] at htk
              have oh:=oh rfl
              obtain ⟨d1,d2,d3,d4⟩:=oh.len
              have hr':r'.length≤4194304:=by omega
              have wj:IntKind.i64.wrap ((j7:Int)+1)=((j7+1:Nat):Int):=by rw [wrap_in (by omega) (by omega)];omega
              have hrj':r'=ts.drop (j7+1):=by
                have:ts.drop (j7+1)=(ts.drop j7).drop 1:=by rw [List.drop_drop]
                rw [this,← hrj,hrr];rfl
              simp only [go_sem,↓reduceIte,nE,nA,nM,nB,oN,iT,nS,nL,nD,iE,iL,reduceCtorEq,wj,d1,d2,d3,d4,Int.le_refl,j0,j3,j20,j21,h22,h7,hb64,hb,h6,m1,m2,m3,m4,hi',ga,hw,a0,a2,gs]
              exact ⟨(k+1,r',h),by dsimp only;omega,by dsimp only;omega,by simp only [go_sem,↓reduceIte,nE,nA,nM,nB,oN,iT,nS,nL,nD,iE,iL,reduceCtorEq,j0,j3,j20,j21,h22,h7,hb64,hb,h6,m1,m2,m3,m4,hi',ga,hw,a0,a2,gs],hr',oh,hgw',htk,⟨j7+1,by simp only [go_sem,↓reduceIte,nE,nA,nM,nB,oN,iT,nS,nL,nD,iE,iL,reduceCtorEq,wj,j0,j3,j20,j21,h22,h7,hb64,hb,h6,m1,m2,m3,m4,hi',ga,hw,a0,a2,gs];try rfl,hrj',by dsimp only;omega⟩,by simp only [go_sem,↓reduceIte,nE,nA,nM,nB,oN,iT,nS,nL,nD,iE,iL,reduceCtorEq,j0,j3,j20,j21,h22,h7,hb64,hb,h6,m1,m2,m3,m4,hi',ga,hw,a0,a2,gs],⟨3584,3585,3586,3587,_,_,_,_,_,by simp only [go_sem,↓reduceIte,nE,nA,nM,nB,oN,iT,nS,nL,nD,iE,iL,reduceCtorEq,d1,d2,d3,d4,j0,j3,j20,j21,h22,h7,hb64,hb,h6,m1,m2,m3,m4,hi',ga,hw,a0,a2,gs];try rfl,by simp only [go_sem,↓reduceIte,nE,nA,nM,nB,oN,iT,nS,nL,nD,iE,iL,reduceCtorEq,j0,j3,j20,j21,h22,h7,hb64,hb,h6,m1,m2,m3,m4,hi',ga,hw,a0,a2,gs];try rfl,by simp only [go_sem,↓reduceIte,nE,nA,nM,nB,oN,iT,nS,nL,nD,iE,iL,reduceCtorEq,j0,j3,j20,j21,h22,h7,hb64,hb,h6,m1,m2,m3,m4,hi',ga,hw,a0,a2,gs];try rfl,by simp only [go_sem,↓reduceIte,nE,nA,nM,nB,oN,iT,nS,nL,nD,iE,iL,reduceCtorEq,j0,j3,j20,j21,h22,h7,hb64,hb,h6,m1,m2,m3,m4,hi',ga,hw,a0,a2,gs];try rfl,by simp only [go_sem,↓reduceIte,nE,nA,nM,nB,oN,iT,nS,nL,nD,iE,iL,reduceCtorEq,j0,j3,j20,j21,h22,h7,hb64,hb,h6,m1,m2,m3,m4,hi',ga,hw,a0,a2,gs];try rfl,by simp only [go_sem,↓reduceIte,nE,nA,nM,nB,oN,iT,nS,nL,nD,iE,iL,reduceCtorEq,j0,j3,j20,j21,h22,h7,hb64,hb,h6,m1,m2,m3,m4,hi',ga,hw,a0,a2,gs];try rfl,.inr (.inr ⟨rfl,rfl,rfl,rfl⟩)⟩⟩
    · have hi':¬ (k:Int) < l.length:=by omega
      obtain rfl:k=l.length:=by omega
      rw [List.drop_length] at htk
      have htk:takeF p l ts startM=true:=htk
      rw [htk]
      simp only [go_sem,↓reduceIte,nE,nA,nM,nB,oN,iT,nS,nL,nD,iE,iL,reduceCtorEq,Int.lt_irrefl,j0,j3,j20,j21,h22,h7,hb64,hb,h6,m1,m2,m3,m4];try rfl
end Go.Vm.Ytmbhjcgikblpiaa
