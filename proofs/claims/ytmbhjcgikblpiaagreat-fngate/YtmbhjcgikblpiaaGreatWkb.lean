/- What the functions that the law reaches return: part 2 (the conditions stand at each). -/
import Derived.Test.YtmbhjcgikblpiaaGreatWka
open Int renaming reduceEq → iQ, reduceBEq → iB, reduceBNe → iX, reduceNeg → iN, reduceAdd → iA, reduceSub → iS, reduceMul → iM
namespace Go.Vm.YtmbhjcgikblpiaaGreat
open Go Go.Vm
set_option maxRecDepth 10000
set_option maxHeartbeats 16000000
set_option linter.unusedSimpArgs false
set_option linter.unusedVariables false
def isB (n:Int):Bool:=inB n 0 255
def ctxB (l:List Int):Bool:=decide (l.length=8)&&l.all isB
structure CtxOk (l:List Int):Prop where
 len:l.length=8
 all:∀ x∈l,0≤x∧x≤255
theorem ctx_ok {l:List Int} (h:ctxB l=true):CtxOk l:=by
 simp only [ctxB,Bool.and_eq_true,decide_eq_true_eq,List.all_eq_true,isB,inB] at h
 exact ⟨h.1,h.2⟩
theorem impl_isContext_c1.fc (n:Int):FCt prog F_impl_isContext_c1 [.ro] [Ii n] (Bb (!isB n)) []:=by
 refine fct_run impl_isContext_c1.ok rfl ?_
 unfold isB
 repeat' (first|with_reducible rfl|refine fcW_bool (impl_in.fc ..) ?_|with_reducible refine cdW_dec (fun _=>?_) (fun _=>?_)|refine cdW_not (fun _=>?_) (fun _=>?_)|refine cdW_any (fun _=>?_) (fun _=>?_)|with_reducible refine gdW_decT (fun _=>?_) (fun _=>?_)|with_reducible refine gdW_decF (fun _=>?_) (fun _=>?_)|refine gdW_not (fun _=>?_) (fun _=>?_)|refine gdW_any (fun _=>?_) (fun _=>?_)|simp only [go_sem,bne,iQ,iB,iX,Int.reduceLE,iN,iA,iS,iM, *]|rfl)
theorem impl_isContext.fc (l:List Int) (hl:l.length≤4294967296):FCt prog F_impl_isContext [.ro] [ints l] (Bb (ctxB l)) []:=by
 refine fct_run impl_isContext.ok rfl ?_
 have e1:((l.length:Int) == 8)=decide (l.length=8):=eq_dec (b:=8)
 have e2:l.any (fun n=>!isB n) = !l.all isB:=by rw [List.not_all_eq_any_not]
 unfold ctxB
 by_cases h:l.length=8
 · rw [decide_eq_true h] at e1 ⊢
   simp only [go_sem,e1]
   refine fcW_bool (slices_ContainsFunc__sint_int.fc l F_impl_isContext_c1 [] (fun n=>!isB n) hl (fun n _=>impl_isContext_c1.fc n)) ?_
   simp only [go_sem,e2,Bool.not_not]
 · rw [decide_eq_false h] at e1 ⊢
   simp only [go_sem,e1]
theorem spec_l3Ctx.fc (l:List Int) (hl:l.length≤4294967296):FCt prog F_spec_l3Ctx [.ro] [ints l] (Bb (ctxB l)) []:=by
 refine fct_run spec_l3Ctx.ok rfl ?_
 have e1:((l.length:Int) == 8)=decide (l.length=8):=eq_dec (b:=8)
 unfold ctxB
 by_cases h:l.length=8
 · rw [decide_eq_true h] at e1 ⊢
   simp only [go_sem,e1]
   refine fcW_bool (spec_l1All.fc l 0 255 hl) ?_
   simp only [go_sem]
   rfl
 · rw [decide_eq_false h] at e1 ⊢
   simp only [go_sem,e1]
structure MachLen (m:MachD):Prop where
 regs:m.regs.length=6
 cells:m.cells.length=16
 isset:m.isset.length=16
theorem MachOk.len {m:MachD} (h:MachOk m):MachLen m:=⟨h.regs,h.cells,h.isset⟩
def regI (m:MachD) (i:Int):Int:=m.regs.getD i.toNat 0
def setR (m:MachD) (i n:Int):MachD:={ m with pc:=m.pc+1,regs:=m.regs.set i.toNat n }
def setC (m:MachD) (i n:Int):MachD:={ m with pc:=m.pc+1,cells:=m.cells.set i.toNat n,isset:=m.isset.set i.toNat true }
def setP (m:MachD) (n:Int):MachD:={ m with pc:=n }
def stepM (s:StepD) (ctx:List Int) (m:MachD):MachD×Int×Bool :=
 if s.kind == 1 then (setR m s.dst (doI s.op (regI m s.dst) (regI m s.src)),0,false) else
 if s.kind == 2 then (setR m s.dst (doI s.op (regI m s.dst) s.imm),0,false) else
 if s.kind == 3 then (setR m s.dst s.imm,0,false) else
 if s.kind == 4 then (setR m s.dst s.imm,0,false) else
 if s.kind == 5 then (if regI m s.src+s.imm ≥ 8 then (m,1,false) else (setR m s.dst (ctx.getD (regI m s.src+s.imm).toNat 0),0,false)) else
 if s.kind == 7 then (if s.imm ≥ 16 then (m,2,false) else (setC m s.imm (regI m s.dst),0,false)) else
 if s.kind == 6 then (if s.imm ≥ 16 then (m,2,false) else if m.isset.getD s.imm.toNat false then (setR m s.dst (m.cells.getD s.imm.toNat 0),0,false) else (m,3,false)) else
 if s.kind == 11 then (m,0,true) else
 if s.kind == 8 then (setP m (m.pc+s.to+1),0,false) else
 if s.kind == 9 then (if regI m s.dst == regI m s.src then (setP m (m.pc+s.to+1),0,false) else (setP m (m.pc+1),0,false)) else
 (if regI m s.dst < regI m s.src then (setP m (m.pc+s.to+1),0,false) else (setP m (m.pc+1),0,false))
theorem setIi {l:List Int} {i:Nat} {x:Int}:(l.map Ii).set i (D.int .i64 x)=(l.set i x).map Ii:=by rw [List.map_set]
theorem setBb {l:List Bool} {i:Nat} {x:Bool}:(l.map Bb).set i (D.bool x)=(l.set i x).map Bb:=by rw [List.map_set]
theorem getD_some {α:Type} {l:List α} {i:Nat} {d:α} (h:i < l.length):l[i]? = some (l.getD i d):=by rw [getD_get h];exact List.getElem?_eq_getElem h
theorem tk_I {n:Nat} {l:List Int} (h:l.length=n):(l.map Ii).take n=l.map Ii:=List.take_of_length_le (by simp [h])
theorem tk_B {n:Nat} {l:List Bool} (h:l.length=n):(l.map Bb).take n=l.map Bb:=List.take_of_length_le (by simp [h])
theorem impl_pMachine_step.fc (p:List StepD) (ctx:List Int) (m:MachD) (s:StepD) (hp:p.length≤20) (hc:CtxOk ctx) (hm:MachOk m) (hpc:m.pc < p.length) (hs:p[m.pc.toNat]? = some s) (hv:stepB s=true) :
 FCt prog F_impl_pMachine_step [.io,.ro,.ro] [.ptr m.d,steps p,ints ctx] (.tup [Ii (stepM s ctx m).2.1,Bb (stepM s ctx m).2.2]) [.ptr (stepM s ctx m).1.d]:=by
 refine fct_run impl_pMachine_step.ok rfl ?_
 have ok:=step_ok hv
 have kd:=valid_kind (.inr hv)
 obtain ⟨⟨pc0,pc1⟩,l1,l2,l3,wr,wc⟩:=hm
 obtain ⟨cl,ca⟩:=hc
 obtain ⟨pc,regs,cells,isset⟩:=m
 obtain ⟨k,op,dst,src,imm,to⟩:=s
 obtain ⟨_,od,os,oi,oo,ot,_,_⟩:=ok
 dsimp only at *
 have gd:regs[dst.toNat]? = some (regI ⟨pc,regs,cells,isset⟩ dst):=getD_some (by omega)
 have gs:regs[src.toNat]? = some (regI ⟨pc,regs,cells,isset⟩ src):=getD_some (by omega)
 have ws:0≤regI ⟨pc,regs,cells,isset⟩ src∧regI ⟨pc,regs,cells,isset⟩ src≤65535:=wr _ (List.mem_of_getElem? gs)
 have w1:IntKind.i64.wrap (pc+1)=pc+1:=wrap_in (by omega) (by omega)
 have w2:IntKind.i64.wrap (pc+1+to)=pc+to+1:=by rw [wrap_in (by omega) (by omega)];omega
 have w3:IntKind.i64.wrap (regI ⟨pc,regs,cells,isset⟩ src+imm)=regI ⟨pc,regs,cells,isset⟩ src+imm:=wrap_in (by omega) (by omega)
 have od1:=od.1
 have od2:dst < 6:=by omega
 have os1:=os.1
 have os2:src < 6:=by omega
 have c6:((6:Nat):Int)=6:=rfl
 have c8:((8:Nat):Int)=8:=rfl
 have c16:((16:Nat):Int)=16:=rfl
 have i0:0≤imm:=oi.1
 have r0:0≤regI ⟨pc,regs,cells,isset⟩ src+imm:=by omega
 have h5:¬ regI ⟨pc,regs,cells,isset⟩ src+imm ≥ 8→ctx[(regI ⟨pc,regs,cells,isset⟩ src+imm).toNat]? = some (ctx.getD (regI ⟨pc,regs,cells,isset⟩ src+imm).toNat 0):=fun h=>getD_some (by omega)
 have h6:¬ imm ≥ 16→cells[imm.toNat]? = some (cells.getD imm.toNat 0):=fun h=>getD_some (by omega)
 have h7:¬ imm ≥ 16→isset[imm.toNat]? = some (isset.getD imm.toNat false):=fun h=>getD_some (by omega)
 have b5:¬ regI ⟨pc,regs,cells,isset⟩ src+imm ≥ 8→regI ⟨pc,regs,cells,isset⟩ src+imm < 8:=fun h=>by omega
 have b6:¬ imm ≥ 16→imm < 16:=fun h=>by omega
 unfold stepM setR setC setP
 rcases kd with rfl|rfl|rfl|rfl|rfl|rfl|rfl|rfl|rfl|rfl|rfl
 · clear h5 h6 h7 b5 b6
   repeat' (first|with_reducible rfl|refine fcW_int (impl_do.fc _ _ _ ws.1) ?_|refine fcW_int (impl_do.fc _ _ _ i0) ?_|with_reducible refine cdW_dec (fun _=>?_) (fun _=>?_)|refine cdW_not (fun _=>?_) (fun _=>?_)|refine cdW_any (fun _=>?_) (fun _=>?_)|with_reducible refine gdW_decT (fun _=>?_) (fun _=>?_)|with_reducible refine gdW_decF (fun _=>?_) (fun _=>?_)|refine gdW_not (fun _=>?_) (fun _=>?_)|refine gdW_any (fun _=>?_) (fun _=>?_)|simp only [go_sem,bne,iQ,iB,iX,Int.reduceLE,iN,iA,iS,iM,setIi,setBb,tk_I,tk_B,List.length_set, *]|rfl)
 · clear h5 h6 h7 b5 b6
   repeat' (first|with_reducible rfl|refine fcW_int (impl_do.fc _ _ _ ws.1) ?_|refine fcW_int (impl_do.fc _ _ _ i0) ?_|with_reducible refine cdW_dec (fun _=>?_) (fun _=>?_)|refine cdW_not (fun _=>?_) (fun _=>?_)|refine cdW_any (fun _=>?_) (fun _=>?_)|with_reducible refine gdW_decT (fun _=>?_) (fun _=>?_)|with_reducible refine gdW_decF (fun _=>?_) (fun _=>?_)|refine gdW_not (fun _=>?_) (fun _=>?_)|refine gdW_any (fun _=>?_) (fun _=>?_)|simp only [go_sem,bne,iQ,iB,iX,Int.reduceLE,iN,iA,iS,iM,setIi,setBb,tk_I,tk_B,List.length_set, *]|rfl)
 · clear h5 h6 h7 b5 b6
   repeat' (first|with_reducible rfl|refine fcW_int (impl_do.fc _ _ _ ws.1) ?_|refine fcW_int (impl_do.fc _ _ _ i0) ?_|with_reducible refine cdW_dec (fun _=>?_) (fun _=>?_)|refine cdW_not (fun _=>?_) (fun _=>?_)|refine cdW_any (fun _=>?_) (fun _=>?_)|with_reducible refine gdW_decT (fun _=>?_) (fun _=>?_)|with_reducible refine gdW_decF (fun _=>?_) (fun _=>?_)|refine gdW_not (fun _=>?_) (fun _=>?_)|refine gdW_any (fun _=>?_) (fun _=>?_)|simp only [go_sem,bne,iQ,iB,iX,Int.reduceLE,iN,iA,iS,iM,setIi,setBb,tk_I,tk_B,List.length_set, *]|rfl)
 · clear h5 h6 h7 b5 b6
   repeat' (first|with_reducible rfl|refine fcW_int (impl_do.fc _ _ _ ws.1) ?_|refine fcW_int (impl_do.fc _ _ _ i0) ?_|with_reducible refine cdW_dec (fun _=>?_) (fun _=>?_)|refine cdW_not (fun _=>?_) (fun _=>?_)|refine cdW_any (fun _=>?_) (fun _=>?_)|with_reducible refine gdW_decT (fun _=>?_) (fun _=>?_)|with_reducible refine gdW_decF (fun _=>?_) (fun _=>?_)|refine gdW_not (fun _=>?_) (fun _=>?_)|refine gdW_any (fun _=>?_) (fun _=>?_)|simp only [go_sem,bne,iQ,iB,iX,Int.reduceLE,iN,iA,iS,iM,setIi,setBb,tk_I,tk_B,List.length_set, *]|rfl)
 · clear h6 h7 b6
   by_cases h:regI ⟨pc,regs,cells,isset⟩ src+imm ≥ 8
   · clear h5 b5
     repeat' (first|with_reducible rfl|refine fcW_int (impl_do.fc _ _ _ ws.1) ?_|refine fcW_int (impl_do.fc _ _ _ i0) ?_|with_reducible refine cdW_dec (fun _=>?_) (fun _=>?_)|refine cdW_not (fun _=>?_) (fun _=>?_)|refine cdW_any (fun _=>?_) (fun _=>?_)|with_reducible refine gdW_decT (fun _=>?_) (fun _=>?_)|with_reducible refine gdW_decF (fun _=>?_) (fun _=>?_)|refine gdW_not (fun _=>?_) (fun _=>?_)|refine gdW_any (fun _=>?_) (fun _=>?_)|simp only [go_sem,bne,iQ,iB,iX,Int.reduceLE,iN,iA,iS,iM,setIi,setBb,tk_I,tk_B,List.length_set, *]|rfl)
   · have h5:=h5 h
     have b5:=b5 h
     repeat' (first|with_reducible rfl|refine fcW_int (impl_do.fc _ _ _ ws.1) ?_|refine fcW_int (impl_do.fc _ _ _ i0) ?_|with_reducible refine cdW_dec (fun _=>?_) (fun _=>?_)|refine cdW_not (fun _=>?_) (fun _=>?_)|refine cdW_any (fun _=>?_) (fun _=>?_)|with_reducible refine gdW_decT (fun _=>?_) (fun _=>?_)|with_reducible refine gdW_decF (fun _=>?_) (fun _=>?_)|refine gdW_not (fun _=>?_) (fun _=>?_)|refine gdW_any (fun _=>?_) (fun _=>?_)|simp only [go_sem,bne,iQ,iB,iX,Int.reduceLE,iN,iA,iS,iM,setIi,setBb,tk_I,tk_B,List.length_set, *]|rfl)
 · clear h5 b5
   by_cases h:imm ≥ 16
   · clear h6 h7 b6
     repeat' (first|with_reducible rfl|refine fcW_int (impl_do.fc _ _ _ ws.1) ?_|refine fcW_int (impl_do.fc _ _ _ i0) ?_|with_reducible refine cdW_dec (fun _=>?_) (fun _=>?_)|refine cdW_not (fun _=>?_) (fun _=>?_)|refine cdW_any (fun _=>?_) (fun _=>?_)|with_reducible refine gdW_decT (fun _=>?_) (fun _=>?_)|with_reducible refine gdW_decF (fun _=>?_) (fun _=>?_)|refine gdW_not (fun _=>?_) (fun _=>?_)|refine gdW_any (fun _=>?_) (fun _=>?_)|simp only [go_sem,bne,iQ,iB,iX,Int.reduceLE,iN,iA,iS,iM,setIi,setBb,tk_I,tk_B,List.length_set, *]|rfl)
   · have h6:=h6 h
     have h7:=h7 h
     have b6:=b6 h
     cases hq:isset.getD imm.toNat false<;>rw [hq] at h7
     · repeat' (first|with_reducible rfl|refine fcW_int (impl_do.fc _ _ _ ws.1) ?_|refine fcW_int (impl_do.fc _ _ _ i0) ?_|with_reducible refine cdW_dec (fun _=>?_) (fun _=>?_)|refine cdW_not (fun _=>?_) (fun _=>?_)|refine cdW_any (fun _=>?_) (fun _=>?_)|with_reducible refine gdW_decT (fun _=>?_) (fun _=>?_)|with_reducible refine gdW_decF (fun _=>?_) (fun _=>?_)|refine gdW_not (fun _=>?_) (fun _=>?_)|refine gdW_any (fun _=>?_) (fun _=>?_)|simp only [go_sem,bne,iQ,iB,iX,Int.reduceLE,iN,iA,iS,iM,setIi,setBb,tk_I,tk_B,List.length_set, *]|rfl)
     · repeat' (first|with_reducible rfl|refine fcW_int (impl_do.fc _ _ _ ws.1) ?_|refine fcW_int (impl_do.fc _ _ _ i0) ?_|with_reducible refine cdW_dec (fun _=>?_) (fun _=>?_)|refine cdW_not (fun _=>?_) (fun _=>?_)|refine cdW_any (fun _=>?_) (fun _=>?_)|with_reducible refine gdW_decT (fun _=>?_) (fun _=>?_)|with_reducible refine gdW_decF (fun _=>?_) (fun _=>?_)|refine gdW_not (fun _=>?_) (fun _=>?_)|refine gdW_any (fun _=>?_) (fun _=>?_)|simp only [go_sem,bne,iQ,iB,iX,Int.reduceLE,iN,iA,iS,iM,setIi,setBb,tk_I,tk_B,List.length_set, *]|rfl)
 · clear h5 b5
   by_cases h:imm ≥ 16
   · clear h6 h7 b6
     repeat' (first|with_reducible rfl|refine fcW_int (impl_do.fc _ _ _ ws.1) ?_|refine fcW_int (impl_do.fc _ _ _ i0) ?_|with_reducible refine cdW_dec (fun _=>?_) (fun _=>?_)|refine cdW_not (fun _=>?_) (fun _=>?_)|refine cdW_any (fun _=>?_) (fun _=>?_)|with_reducible refine gdW_decT (fun _=>?_) (fun _=>?_)|with_reducible refine gdW_decF (fun _=>?_) (fun _=>?_)|refine gdW_not (fun _=>?_) (fun _=>?_)|refine gdW_any (fun _=>?_) (fun _=>?_)|simp only [go_sem,bne,iQ,iB,iX,Int.reduceLE,iN,iA,iS,iM,setIi,setBb,tk_I,tk_B,List.length_set, *]|rfl)
   · have h6:=h6 h
     have h7:=h7 h
     have b6:=b6 h
     repeat' (first|with_reducible rfl|refine fcW_int (impl_do.fc _ _ _ ws.1) ?_|refine fcW_int (impl_do.fc _ _ _ i0) ?_|with_reducible refine cdW_dec (fun _=>?_) (fun _=>?_)|refine cdW_not (fun _=>?_) (fun _=>?_)|refine cdW_any (fun _=>?_) (fun _=>?_)|with_reducible refine gdW_decT (fun _=>?_) (fun _=>?_)|with_reducible refine gdW_decF (fun _=>?_) (fun _=>?_)|refine gdW_not (fun _=>?_) (fun _=>?_)|refine gdW_any (fun _=>?_) (fun _=>?_)|simp only [go_sem,bne,iQ,iB,iX,Int.reduceLE,iN,iA,iS,iM,setIi,setBb,tk_I,tk_B,List.length_set, *]|rfl)
 · clear h5 h6 h7 b5 b6
   repeat' (first|with_reducible rfl|refine fcW_int (impl_do.fc _ _ _ ws.1) ?_|refine fcW_int (impl_do.fc _ _ _ i0) ?_|with_reducible refine cdW_dec (fun _=>?_) (fun _=>?_)|refine cdW_not (fun _=>?_) (fun _=>?_)|refine cdW_any (fun _=>?_) (fun _=>?_)|with_reducible refine gdW_decT (fun _=>?_) (fun _=>?_)|with_reducible refine gdW_decF (fun _=>?_) (fun _=>?_)|refine gdW_not (fun _=>?_) (fun _=>?_)|refine gdW_any (fun _=>?_) (fun _=>?_)|simp only [go_sem,bne,iQ,iB,iX,Int.reduceLE,iN,iA,iS,iM,setIi,setBb,tk_I,tk_B,List.length_set, *]|rfl)
 · clear h5 h6 h7 b5 b6
   repeat' (first|with_reducible rfl|refine fcW_int (impl_do.fc _ _ _ ws.1) ?_|refine fcW_int (impl_do.fc _ _ _ i0) ?_|with_reducible refine cdW_dec (fun _=>?_) (fun _=>?_)|refine cdW_not (fun _=>?_) (fun _=>?_)|refine cdW_any (fun _=>?_) (fun _=>?_)|with_reducible refine gdW_decT (fun _=>?_) (fun _=>?_)|with_reducible refine gdW_decF (fun _=>?_) (fun _=>?_)|refine gdW_not (fun _=>?_) (fun _=>?_)|refine gdW_any (fun _=>?_) (fun _=>?_)|simp only [go_sem,bne,iQ,iB,iX,Int.reduceLE,iN,iA,iS,iM,setIi,setBb,tk_I,tk_B,List.length_set, *]|rfl)
 · clear h5 h6 h7 b5 b6
   repeat' (first|with_reducible rfl|refine fcW_int (impl_do.fc _ _ _ ws.1) ?_|refine fcW_int (impl_do.fc _ _ _ i0) ?_|with_reducible refine cdW_dec (fun _=>?_) (fun _=>?_)|refine cdW_not (fun _=>?_) (fun _=>?_)|refine cdW_any (fun _=>?_) (fun _=>?_)|with_reducible refine gdW_decT (fun _=>?_) (fun _=>?_)|with_reducible refine gdW_decF (fun _=>?_) (fun _=>?_)|refine gdW_not (fun _=>?_) (fun _=>?_)|refine gdW_any (fun _=>?_) (fun _=>?_)|simp only [go_sem,bne,iQ,iB,iX,Int.reduceLE,iN,iA,iS,iM,setIi,setBb,tk_I,tk_B,List.length_set, *]|rfl)
 · clear h5 h6 h7 b5 b6
   repeat' (first|with_reducible rfl|refine fcW_int (impl_do.fc _ _ _ ws.1) ?_|refine fcW_int (impl_do.fc _ _ _ i0) ?_|with_reducible refine cdW_dec (fun _=>?_) (fun _=>?_)|refine cdW_not (fun _=>?_) (fun _=>?_)|refine cdW_any (fun _=>?_) (fun _=>?_)|with_reducible refine gdW_decT (fun _=>?_) (fun _=>?_)|with_reducible refine gdW_decF (fun _=>?_) (fun _=>?_)|refine gdW_not (fun _=>?_) (fun _=>?_)|refine gdW_any (fun _=>?_) (fun _=>?_)|simp only [go_sem,bne,iQ,iB,iX,Int.reduceLE,iN,iA,iS,iM,setIi,setBb,tk_I,tk_B,List.length_set, *]|rfl)
theorem spec_l3Do.fc (p:List StepD) (ctx:List Int) (m:MachD) (s:StepD) (hp:p.length≤20) (hc:CtxOk ctx) (hm:MachOk m) (hpc:m.pc < p.length) (hs:p[m.pc.toNat]? = some s) (hv:stepB s=true) :
 FCt prog F_spec_l3Do [.ro,.ro,.co] [steps p,ints ctx,m.d] (.tup [(stepM s ctx m).1.d,Ii (stepM s ctx m).2.1,Bb (stepM s ctx m).2.2]) []:=by
 refine fct_run spec_l3Do.ok rfl ?_
 have ok:=step_ok hv
 have kd:=valid_kind (.inr hv)
 obtain ⟨⟨pc0,pc1⟩,l1,l2,l3,wr,wc⟩:=hm
 obtain ⟨cl,ca⟩:=hc
 obtain ⟨pc,regs,cells,isset⟩:=m
 obtain ⟨k,op,dst,src,imm,to⟩:=s
 obtain ⟨_,od,os,oi,oo,ot,_,_⟩:=ok
 dsimp only at *
 have gd:regs[dst.toNat]? = some (regI ⟨pc,regs,cells,isset⟩ dst):=getD_some (by omega)
 have gs:regs[src.toNat]? = some (regI ⟨pc,regs,cells,isset⟩ src):=getD_some (by omega)
 have ws:0≤regI ⟨pc,regs,cells,isset⟩ src∧regI ⟨pc,regs,cells,isset⟩ src≤65535:=wr _ (List.mem_of_getElem? gs)
 have w1:IntKind.i64.wrap (pc+1)=pc+1:=wrap_in (by omega) (by omega)
 have w2:IntKind.i64.wrap (pc+1+to)=pc+to+1:=by rw [wrap_in (by omega) (by omega)];omega
 have w4:IntKind.i64.wrap (pc+to)=pc+to:=wrap_in (by omega) (by omega)
 have w5:IntKind.i64.wrap (pc+to+1)=pc+to+1:=wrap_in (by omega) (by omega)
 have w3:IntKind.i64.wrap (regI ⟨pc,regs,cells,isset⟩ src+imm)=regI ⟨pc,regs,cells,isset⟩ src+imm:=wrap_in (by omega) (by omega)
 have od1:=od.1
 have od2:dst < 6:=by omega
 have os1:=os.1
 have os2:src < 6:=by omega
 have c6:((6:Nat):Int)=6:=rfl
 have c8:((8:Nat):Int)=8:=rfl
 have c16:((16:Nat):Int)=16:=rfl
 have i0:0≤imm:=oi.1
 have r0:0≤regI ⟨pc,regs,cells,isset⟩ src+imm:=by omega
 have h5:¬ regI ⟨pc,regs,cells,isset⟩ src+imm ≥ 8→ctx[(regI ⟨pc,regs,cells,isset⟩ src+imm).toNat]? = some (ctx.getD (regI ⟨pc,regs,cells,isset⟩ src+imm).toNat 0):=fun h=>getD_some (by omega)
 have h6:¬ imm ≥ 16→cells[imm.toNat]? = some (cells.getD imm.toNat 0):=fun h=>getD_some (by omega)
 have h7:¬ imm ≥ 16→isset[imm.toNat]? = some (isset.getD imm.toNat false):=fun h=>getD_some (by omega)
 have b5:¬ regI ⟨pc,regs,cells,isset⟩ src+imm ≥ 8→regI ⟨pc,regs,cells,isset⟩ src+imm < 8:=fun h=>by omega
 have b6:¬ imm ≥ 16→imm < 16:=fun h=>by omega
 unfold stepM setR setC setP
 rcases kd with rfl|rfl|rfl|rfl|rfl|rfl|rfl|rfl|rfl|rfl|rfl
 · clear h5 h6 h7 b5 b6
   repeat' (first|with_reducible rfl|refine fcW_int (spec_l1Do.fc _ _ _ ws.1) ?_|refine fcW_int (spec_l1Do.fc _ _ _ i0) ?_|with_reducible refine cdW_dec (fun _=>?_) (fun _=>?_)|refine cdW_not (fun _=>?_) (fun _=>?_)|refine cdW_any (fun _=>?_) (fun _=>?_)|with_reducible refine gdW_decT (fun _=>?_) (fun _=>?_)|with_reducible refine gdW_decF (fun _=>?_) (fun _=>?_)|refine gdW_not (fun _=>?_) (fun _=>?_)|refine gdW_any (fun _=>?_) (fun _=>?_)|simp only [go_sem,bne,iQ,iB,iX,Int.reduceLE,iN,iA,iS,iM,setIi,setBb,tk_I,tk_B,List.length_set, *]|rfl)
 · clear h5 h6 h7 b5 b6
   repeat' (first|with_reducible rfl|refine fcW_int (spec_l1Do.fc _ _ _ ws.1) ?_|refine fcW_int (spec_l1Do.fc _ _ _ i0) ?_|with_reducible refine cdW_dec (fun _=>?_) (fun _=>?_)|refine cdW_not (fun _=>?_) (fun _=>?_)|refine cdW_any (fun _=>?_) (fun _=>?_)|with_reducible refine gdW_decT (fun _=>?_) (fun _=>?_)|with_reducible refine gdW_decF (fun _=>?_) (fun _=>?_)|refine gdW_not (fun _=>?_) (fun _=>?_)|refine gdW_any (fun _=>?_) (fun _=>?_)|simp only [go_sem,bne,iQ,iB,iX,Int.reduceLE,iN,iA,iS,iM,setIi,setBb,tk_I,tk_B,List.length_set, *]|rfl)
 · clear h5 h6 h7 b5 b6
   repeat' (first|with_reducible rfl|refine fcW_int (spec_l1Do.fc _ _ _ ws.1) ?_|refine fcW_int (spec_l1Do.fc _ _ _ i0) ?_|with_reducible refine cdW_dec (fun _=>?_) (fun _=>?_)|refine cdW_not (fun _=>?_) (fun _=>?_)|refine cdW_any (fun _=>?_) (fun _=>?_)|with_reducible refine gdW_decT (fun _=>?_) (fun _=>?_)|with_reducible refine gdW_decF (fun _=>?_) (fun _=>?_)|refine gdW_not (fun _=>?_) (fun _=>?_)|refine gdW_any (fun _=>?_) (fun _=>?_)|simp only [go_sem,bne,iQ,iB,iX,Int.reduceLE,iN,iA,iS,iM,setIi,setBb,tk_I,tk_B,List.length_set, *]|rfl)
 · clear h5 h6 h7 b5 b6
   repeat' (first|with_reducible rfl|refine fcW_int (spec_l1Do.fc _ _ _ ws.1) ?_|refine fcW_int (spec_l1Do.fc _ _ _ i0) ?_|with_reducible refine cdW_dec (fun _=>?_) (fun _=>?_)|refine cdW_not (fun _=>?_) (fun _=>?_)|refine cdW_any (fun _=>?_) (fun _=>?_)|with_reducible refine gdW_decT (fun _=>?_) (fun _=>?_)|with_reducible refine gdW_decF (fun _=>?_) (fun _=>?_)|refine gdW_not (fun _=>?_) (fun _=>?_)|refine gdW_any (fun _=>?_) (fun _=>?_)|simp only [go_sem,bne,iQ,iB,iX,Int.reduceLE,iN,iA,iS,iM,setIi,setBb,tk_I,tk_B,List.length_set, *]|rfl)
 · clear h6 h7 b6
   by_cases h:regI ⟨pc,regs,cells,isset⟩ src+imm ≥ 8
   · clear h5 b5
     repeat' (first|with_reducible rfl|refine fcW_int (spec_l1Do.fc _ _ _ ws.1) ?_|refine fcW_int (spec_l1Do.fc _ _ _ i0) ?_|with_reducible refine cdW_dec (fun _=>?_) (fun _=>?_)|refine cdW_not (fun _=>?_) (fun _=>?_)|refine cdW_any (fun _=>?_) (fun _=>?_)|with_reducible refine gdW_decT (fun _=>?_) (fun _=>?_)|with_reducible refine gdW_decF (fun _=>?_) (fun _=>?_)|refine gdW_not (fun _=>?_) (fun _=>?_)|refine gdW_any (fun _=>?_) (fun _=>?_)|simp only [go_sem,bne,iQ,iB,iX,Int.reduceLE,iN,iA,iS,iM,setIi,setBb,tk_I,tk_B,List.length_set, *]|rfl)
   · have h5:=h5 h
     have b5:=b5 h
     repeat' (first|with_reducible rfl|refine fcW_int (spec_l1Do.fc _ _ _ ws.1) ?_|refine fcW_int (spec_l1Do.fc _ _ _ i0) ?_|with_reducible refine cdW_dec (fun _=>?_) (fun _=>?_)|refine cdW_not (fun _=>?_) (fun _=>?_)|refine cdW_any (fun _=>?_) (fun _=>?_)|with_reducible refine gdW_decT (fun _=>?_) (fun _=>?_)|with_reducible refine gdW_decF (fun _=>?_) (fun _=>?_)|refine gdW_not (fun _=>?_) (fun _=>?_)|refine gdW_any (fun _=>?_) (fun _=>?_)|simp only [go_sem,bne,iQ,iB,iX,Int.reduceLE,iN,iA,iS,iM,setIi,setBb,tk_I,tk_B,List.length_set, *]|rfl)
 · clear h5 b5
   by_cases h:imm ≥ 16
   · clear h6 h7 b6
     repeat' (first|with_reducible rfl|refine fcW_int (spec_l1Do.fc _ _ _ ws.1) ?_|refine fcW_int (spec_l1Do.fc _ _ _ i0) ?_|with_reducible refine cdW_dec (fun _=>?_) (fun _=>?_)|refine cdW_not (fun _=>?_) (fun _=>?_)|refine cdW_any (fun _=>?_) (fun _=>?_)|with_reducible refine gdW_decT (fun _=>?_) (fun _=>?_)|with_reducible refine gdW_decF (fun _=>?_) (fun _=>?_)|refine gdW_not (fun _=>?_) (fun _=>?_)|refine gdW_any (fun _=>?_) (fun _=>?_)|simp only [go_sem,bne,iQ,iB,iX,Int.reduceLE,iN,iA,iS,iM,setIi,setBb,tk_I,tk_B,List.length_set, *]|rfl)
   · have h6:=h6 h
     have h7:=h7 h
     have b6:=b6 h
     cases hq:isset.getD imm.toNat false<;>rw [hq] at h7
     · repeat' (first|with_reducible rfl|refine fcW_int (spec_l1Do.fc _ _ _ ws.1) ?_|refine fcW_int (spec_l1Do.fc _ _ _ i0) ?_|with_reducible refine cdW_dec (fun _=>?_) (fun _=>?_)|refine cdW_not (fun _=>?_) (fun _=>?_)|refine cdW_any (fun _=>?_) (fun _=>?_)|with_reducible refine gdW_decT (fun _=>?_) (fun _=>?_)|with_reducible refine gdW_decF (fun _=>?_) (fun _=>?_)|refine gdW_not (fun _=>?_) (fun _=>?_)|refine gdW_any (fun _=>?_) (fun _=>?_)|simp only [go_sem,bne,iQ,iB,iX,Int.reduceLE,iN,iA,iS,iM,setIi,setBb,tk_I,tk_B,List.length_set, *]|rfl)
     · repeat' (first|with_reducible rfl|refine fcW_int (spec_l1Do.fc _ _ _ ws.1) ?_|refine fcW_int (spec_l1Do.fc _ _ _ i0) ?_|with_reducible refine cdW_dec (fun _=>?_) (fun _=>?_)|refine cdW_not (fun _=>?_) (fun _=>?_)|refine cdW_any (fun _=>?_) (fun _=>?_)|with_reducible refine gdW_decT (fun _=>?_) (fun _=>?_)|with_reducible refine gdW_decF (fun _=>?_) (fun _=>?_)|refine gdW_not (fun _=>?_) (fun _=>?_)|refine gdW_any (fun _=>?_) (fun _=>?_)|simp only [go_sem,bne,iQ,iB,iX,Int.reduceLE,iN,iA,iS,iM,setIi,setBb,tk_I,tk_B,List.length_set, *]|rfl)
 · clear h5 b5
   by_cases h:imm ≥ 16
   · clear h6 h7 b6
     repeat' (first|with_reducible rfl|refine fcW_int (spec_l1Do.fc _ _ _ ws.1) ?_|refine fcW_int (spec_l1Do.fc _ _ _ i0) ?_|with_reducible refine cdW_dec (fun _=>?_) (fun _=>?_)|refine cdW_not (fun _=>?_) (fun _=>?_)|refine cdW_any (fun _=>?_) (fun _=>?_)|with_reducible refine gdW_decT (fun _=>?_) (fun _=>?_)|with_reducible refine gdW_decF (fun _=>?_) (fun _=>?_)|refine gdW_not (fun _=>?_) (fun _=>?_)|refine gdW_any (fun _=>?_) (fun _=>?_)|simp only [go_sem,bne,iQ,iB,iX,Int.reduceLE,iN,iA,iS,iM,setIi,setBb,tk_I,tk_B,List.length_set, *]|rfl)
   · have h6:=h6 h
     have h7:=h7 h
     have b6:=b6 h
     repeat' (first|with_reducible rfl|refine fcW_int (spec_l1Do.fc _ _ _ ws.1) ?_|refine fcW_int (spec_l1Do.fc _ _ _ i0) ?_|with_reducible refine cdW_dec (fun _=>?_) (fun _=>?_)|refine cdW_not (fun _=>?_) (fun _=>?_)|refine cdW_any (fun _=>?_) (fun _=>?_)|with_reducible refine gdW_decT (fun _=>?_) (fun _=>?_)|with_reducible refine gdW_decF (fun _=>?_) (fun _=>?_)|refine gdW_not (fun _=>?_) (fun _=>?_)|refine gdW_any (fun _=>?_) (fun _=>?_)|simp only [go_sem,bne,iQ,iB,iX,Int.reduceLE,iN,iA,iS,iM,setIi,setBb,tk_I,tk_B,List.length_set, *]|rfl)
 · clear h5 h6 h7 b5 b6
   repeat' (first|with_reducible rfl|refine fcW_int (spec_l1Do.fc _ _ _ ws.1) ?_|refine fcW_int (spec_l1Do.fc _ _ _ i0) ?_|with_reducible refine cdW_dec (fun _=>?_) (fun _=>?_)|refine cdW_not (fun _=>?_) (fun _=>?_)|refine cdW_any (fun _=>?_) (fun _=>?_)|with_reducible refine gdW_decT (fun _=>?_) (fun _=>?_)|with_reducible refine gdW_decF (fun _=>?_) (fun _=>?_)|refine gdW_not (fun _=>?_) (fun _=>?_)|refine gdW_any (fun _=>?_) (fun _=>?_)|simp only [go_sem,bne,iQ,iB,iX,Int.reduceLE,iN,iA,iS,iM,setIi,setBb,tk_I,tk_B,List.length_set, *]|rfl)
 · clear h5 h6 h7 b5 b6
   repeat' (first|with_reducible rfl|refine fcW_int (spec_l1Do.fc _ _ _ ws.1) ?_|refine fcW_int (spec_l1Do.fc _ _ _ i0) ?_|with_reducible refine cdW_dec (fun _=>?_) (fun _=>?_)|refine cdW_not (fun _=>?_) (fun _=>?_)|refine cdW_any (fun _=>?_) (fun _=>?_)|with_reducible refine gdW_decT (fun _=>?_) (fun _=>?_)|with_reducible refine gdW_decF (fun _=>?_) (fun _=>?_)|refine gdW_not (fun _=>?_) (fun _=>?_)|refine gdW_any (fun _=>?_) (fun _=>?_)|simp only [go_sem,bne,iQ,iB,iX,Int.reduceLE,iN,iA,iS,iM,setIi,setBb,tk_I,tk_B,List.length_set, *]|rfl)
 · clear h5 h6 h7 b5 b6
   repeat' (first|with_reducible rfl|refine fcW_int (spec_l1Do.fc _ _ _ ws.1) ?_|refine fcW_int (spec_l1Do.fc _ _ _ i0) ?_|with_reducible refine cdW_dec (fun _=>?_) (fun _=>?_)|refine cdW_not (fun _=>?_) (fun _=>?_)|refine cdW_any (fun _=>?_) (fun _=>?_)|with_reducible refine gdW_decT (fun _=>?_) (fun _=>?_)|with_reducible refine gdW_decF (fun _=>?_) (fun _=>?_)|refine gdW_not (fun _=>?_) (fun _=>?_)|refine gdW_any (fun _=>?_) (fun _=>?_)|simp only [go_sem,bne,iQ,iB,iX,Int.reduceLE,iN,iA,iS,iM,setIi,setBb,tk_I,tk_B,List.length_set, *]|rfl)
 · clear h5 h6 h7 b5 b6
   repeat' (first|with_reducible rfl|refine fcW_int (spec_l1Do.fc _ _ _ ws.1) ?_|refine fcW_int (spec_l1Do.fc _ _ _ i0) ?_|with_reducible refine cdW_dec (fun _=>?_) (fun _=>?_)|refine cdW_not (fun _=>?_) (fun _=>?_)|refine cdW_any (fun _=>?_) (fun _=>?_)|with_reducible refine gdW_decT (fun _=>?_) (fun _=>?_)|with_reducible refine gdW_decF (fun _=>?_) (fun _=>?_)|refine gdW_not (fun _=>?_) (fun _=>?_)|refine gdW_any (fun _=>?_) (fun _=>?_)|simp only [go_sem,bne,iQ,iB,iX,Int.reduceLE,iN,iA,iS,iM,setIi,setBb,tk_I,tk_B,List.length_set, *]|rfl)
theorem noRs_t4 {a b c d:D} (ha:noRs a=true) (hb:noRs b=true) (hc:noRs c=true) (hd:noRs d=true):noRs (.tup [a,b,c,d])=true:=by
 simp only [noRs,noRsL,ha,hb,hc,hd,Bool.and_self]
structure ProgOk (p:List StepD):Prop where
 len:1≤p.length∧p.length≤20
 all:∀ (i:Nat) (h:i < p.length),stepB p[i]=true∧(p[i].to > 0→(i:Int)+p[i].to+1 < p.length)
 last:lastK p=11
theorem prog_ok {p:List StepD} (h:goodP p=true):ProgOk p:=by
 simp only [goodP,Bool.and_eq_true,inB,decide_eq_true_eq,beq_iff_eq,List.all_eq_true,List.mem_range] at h
 refine ⟨by omega,fun i hi=>?_,h.1.2⟩
 have:=h.2 i hi
 unfold okAt at this
 rw [List.getElem?_eq_getElem hi] at this
 simp only [Bool.and_eq_true,Bool.not_eq_true',Bool.and_eq_false_iff,decide_eq_false_iff_not] at this
 exact ⟨this.1,by omega⟩
def stepAt (p:List StepD) (ctx:List Int) (m:MachD):MachD×Int×Bool:=match p[m.pc.toNat]? with
 | some s=>stepM s ctx m
 | none=>(m,0,false)
theorem step_fault {s:StepD} {ctx:List Int} {m:MachD}:(stepM s ctx m).2.1=0∨(stepM s ctx m).2.1 > 0:=by
 have key:∀ (c:Prop) [Decidable c] (a b:MachD×Int×Bool),(a.2.1=0∨a.2.1 > 0)→(b.2.1=0∨b.2.1 > 0)→((if c then a else b).2.1=0∨(if c then a else b).2.1 > 0):=by
  intro c _ a b ha hb;split
  · exact ha
  · exact hb
 unfold stepM
 repeat' (first|exact .inl rfl|exact .inr (show (1:Int) > 0 by decide)|exact .inr (show (2:Int) > 0 by decide)|exact .inr (show (3:Int) > 0 by decide)|apply key)
theorem noRsL_pM {m:MachD}:noRsL [.ptr m.d]=true:=by
 show (noRs (.ptr m.d)&&true)=true
 rw [Bool.and_true]
 exact noRs_Machine
theorem bits_Mul64.fc8:FCt prog F_bits_Mul64 [.ro,.ro] [.int .u64 1,.int .u64 8] (.tup [.int .u64 0,.int .u64 8]) []:=by
 refine fct_run bits_Mul64.ok rfl ?_
 simp only [go_sem]
 rfl
theorem bits_Mul.fc8:FCt prog F_bits_Mul [.ro,.ro] [.int .u64 1,.int .u64 8] (.tup [.int .u64 0,.int .u64 8]) []:=by
 refine fct_run bits_Mul.ok rfl ?_
 simp only [go_sem]
 refine fcW_bd bits_Mul64.fc8 rfl ?_
 simp only [go_sem]
theorem slices_Repeat__sint_int.fc8 (x:Int):FCt prog F_slices_Repeat__sint_int [.ro,.ro] [ints [x],Ii 8] (ints (List.replicate 8 x)) []:=by
 refine fct_run slices_Repeat__sint_int.ok rfl ?_
 have w1:IntKind.u64.wrap ((1:Nat):Int)=1:=by decide
 have w2:IntKind.u64.wrap 8=8:=by decide
 have w3:IntKind.i64.wrap 8=8:=by decide
 have hd1:¬ ((0:Int) > 0):=by omega
 have hd2:¬ ((8:Int) > 9223372036854775807):=by omega
 have hd3:¬ ((8:Int) < 0):=by omega
 have hb:(8:Int) * (8:Nat)≤70368744177664:=by omega
 simp only [go_sem,w1,w2,w3,hd1,hd2,hd3]
 refine fcW_bd bits_Mul.fc8 rfl ?_
 have hz1:((List.replicate 8 (D.int .i64 0)).take 1).all isSc=true:=rfl
 simp only [go_sem,w1,w2,w3,hd1,hd2,hd3,hb,Int.le_refl,List.length_replicate,hz1]
 have hsc:∀ (a b:Nat),(((List.replicate a (Ii x)++List.replicate b (D.int .i64 0))).all isSc)=true:=fun a b=>List.all_eq_true.2 fun d hd=>by
  rcases List.mem_append.1 hd with h|h
  · rw [List.eq_of_mem_replicate h];rfl
  · rw [List.eq_of_mem_replicate h];rfl
 refine R_loop (α:=Nat) (fun c s' M'=>1≤c∧c≤8∧s' 8=aI c∧∃ v,s' 7=.sl 1728 v 0 8 1∧M'.m 1728=some (.arr v true 1 (List.replicate c (Ii x)++List.replicate (8 - c) (D.int .i64 0)))) (fun c=>8 - c) 1
  ⟨by omega,by omega,by simp only [go_sem];rfl,_,by simp only [go_sem];rfl,by simp only [go_sem];rfl⟩ ?_
 rintro c s' M' ⟨hc1,hc,h8,v,h7,hm⟩ ho
 clear ho
 unfold slices_Repeat__sint_int.b0
 have hR:(List.replicate c (Ii x)).all isSc=true:=by have:=hsc c 0;simpa using this
 have hrl:(List.replicate c (Ii x)++List.replicate (8 - c) (D.int .i64 0)).length=8:=by simp;omega
 have hrt:(List.replicate c (Ii x)++List.replicate (8 - c) (D.int .i64 0)).take c=List.replicate c (Ii x):=by rw [List.take_append_of_le_length (by simp)];exact List.take_of_length_le (by simp)
 have hrs:∀ a b,(((List.replicate c (Ii x)++List.replicate (8 - c) (D.int .i64 0)).drop a).take b).all isSc=true:=fun a b=>List.all_eq_true.2 fun d hd=>List.all_eq_true.1 (hsc c (8 - c)) d (List.mem_of_mem_drop (List.mem_of_mem_take hd))
 have hyl:((List.replicate c (Ii x)).take (8 - c)).length=min c (8 - c):=by simp [Nat.min_comm]
 by_cases hlt:c < 8
 · have hi':(c:Int) < 8:=by omega
   have heq:List.replicate c (Ii x)++(List.replicate c (Ii x)).take (8 - c)++(List.replicate c (Ii x)++List.replicate (8 - c) (D.int .i64 0)).drop (c+min c (8 - c))=List.replicate (c+min c (8 - c)) (Ii x)++List.replicate (8 - (c+min c (8 - c))) (D.int .i64 0):=by
    rw [List.drop_append,List.take_replicate,List.drop_replicate,List.drop_replicate,List.length_replicate]
    have e0:c - (c+min c (8 - c))=0:=by omega
    have e1:8 - c - (c+min c (8 - c) - c)=8 - (c+min c (8 - c)):=by omega
    rw [e0,e1,Nat.min_comm (8 - c) c,List.replicate_append_replicate]
    simp
   have q1:(c:Int)≤8:=by omega
   have q2:(((8:Nat):Int) - (c:Int)).toNat=8 - c:=by omega
   have q3:¬ 8 - c=0:=by omega
   have q4:c+min c (8 - c)≤8:=by omega
   have q5:IntKind.i64.wrap ((c:Int)+((min c (8 - c):Nat):Int))=((c+min c (8 - c):Nat):Int):=by rw [wrap_in (by omega) (by omega)];omega
   have q6:((8:Nat):Int)=8:=rfl
   have q7:((8:Int) - (c:Int)).toNat=8 - c:=by omega
   have q8:c≤8:=hc
   generalize hrow:List.replicate c (Ii x)++List.replicate (8 - c) (D.int .i64 0)=row at hm hrl hrt hrs heq
   simp only [go_sem,h8,h7,hm,hi',hrl,hrt,hrs,hR,hyl,q1,q2,q3,q4,q5,q6,q7,q8,List.length_replicate,Nat.zero_add,Nat.zero_le,Int.le_refl]
   refine ⟨c+min c (8 - c),by dsimp only;omega,by omega,q4,by simp only [go_sem],v,by simp only [go_sem,h7],by simp only [go_sem,heq]⟩
 · have hi':¬ (c:Int) < 8:=by omega
   obtain rfl:c=8:=by omega
   have e:List.replicate 8 (Ii x)++List.replicate (8 - 8) (D.int .i64 0)=(List.replicate 8 x).map Ii:=by rw [Nat.sub_self,List.replicate_zero,List.append_nil,List.map_replicate]
   rw [e] at hm hrl
   have e2:((List.replicate 8 x).map Ii).take 8=(List.replicate 8 x).map Ii:=List.take_of_length_le (by omega)
   have e3:(List.replicate 8 x).length=8:=by simp
   have q6:((8:Nat):Int)=8:=rfl
   have q7:¬ ((8:Int) < 8):=by omega
   simp only [go_sem,h8,h7,hm,q6,q7,e2,e3]
theorem impl_alone.fc (n:Int):FCt prog F_impl_alone [.ro] [Ii n] (ints (List.replicate 8 n)) []:=by
 refine fct_run impl_alone.ok rfl ?_
 simp only [go_sem]
 refine fcW_bd (slices_Repeat__sint_int.fc8 n) noRs_ints ?_
 simp only [go_sem,take_map_len]
theorem map_snoc {α:Type} {f:α→D} {l:List α} {x:α}:l.map f++[f x]=(l++[x]).map f:=by rw [List.map_append];rfl
theorem spec_l17Full.fc (n:Int):FCt prog F_spec_l17Full [.ro] [Ii n] (ints (List.replicate 8 n)) []:=by
 refine fct_run spec_l17Full.ok rfl ?_
 simp only [go_sem]
 refine R_loop (α:=Nat) (fun k s' M'=>k≤8∧s' 4=aI k∧∃ v,s' 3=.sl 576 v 0 k 1∧M'.m 576=some (.arr v true 1 ((List.replicate k n).map Ii))) (fun k=>8 - k) 0
  ⟨by omega,by simp only [go_sem];rfl,_,by simp only [go_sem];rfl,by simp only [go_sem];rfl⟩ ?_
 rintro k s' M' ⟨hk,h4,v,h3,hm⟩ ho
 unfold spec_l17Full.b0
 have j0:s' 0=aI n:=by rw [ho 0 rfl];simp only [go_sem]
 clear ho
 by_cases hlt:k < 8
 · have hi':(k:Int) < 8:=by omega
   have hw:IntKind.i64.wrap (k+1)=((k+1:Nat):Int):=by rw [wrap_in (by omega) (by omega)];omega
   have hb:(k+1) * 8≤70368744177664:=by omega
   have happ:(List.replicate k n).map Ii++[Ii n]=(List.replicate (k+1) n).map Ii:=by rw [map_snoc,rep_succ]
   have htk:((List.replicate k n).map Ii).take k=(List.replicate k n).map Ii:=List.take_of_length_le (by simp)
   simp only [go_sem,hi',hw,hb,happ,htk,List.length_replicate,j0,h4,h3,hm]
   exact ⟨k+1,by dsimp only;omega,by omega,by simp only [go_sem,j0,h4,h3,hm],_,by simp only [go_sem,j0,h4,h3,hm];rfl,by simp only [go_sem,j0,h4,h3,hm]⟩
 · obtain rfl:k=8:=by omega
   have htk:((List.replicate 8 n).map Ii).take 8=(List.replicate 8 n).map Ii:=List.take_of_length_le (by simp)
   have c8:((8:Nat):Int)=8:=rfl
   simp only [go_sem,c8,Int.lt_irrefl,htk,List.length_replicate,j0,h4,h3,hm]
def seenS (seen:List Int) (s:StepD):List Int:=if !(s.kind == 3||s.kind == 2)||(seen.any (· == s.imm)||decide (seen.length=12)) then seen else seen++[s.imm]
def seenL (l:List StepD):List Int:=l.foldl seenS []
def triesOf (seen:List Int):List (List Int):=[List.replicate 8 0,List.replicate 8 255,[0,1,2,3,4,5,6,7]]++seen.map (List.replicate 8)
theorem seenL_step {p:List StepD} {k:Nat} (h:k < p.length):seenL (p.take (k+1))=seenS (seenL (p.take k)) p[k]:=by
 unfold seenL;rw [take_succ' h,List.foldl_append];rfl
theorem seenS_len {l:List Int} {s:StepD} (h:l.length≤12):(seenS l s).length≤12:=by
 unfold seenS;split
 · exact h
 · rename_i h1
   simp only [Bool.or_eq_true,decide_eq_true_eq,not_or] at h1
   rw [List.length_append,List.length_singleton];omega
theorem seenL_len (l:List StepD):(seenL l).length≤12:=by
 have:∀ (l:List StepD) (a:List Int),a.length≤12→(l.foldl seenS a).length≤12:=by
  intro l
  induction l with
  | nil=>intro a h;exact h
  | cons x l ih=>intro a h;exact ih _ (seenS_len h)
 exact this l [] (by simp)
theorem tries_snoc (seen:List Int) (n:Int):(triesOf seen).map ints++[ints (List.replicate 8 n)]=(triesOf (seen++[n])).map ints:=by
 unfold triesOf
 rw [map_snoc,List.append_assoc,List.map_append (l₂:=[n])];rfl
theorem tries_len (seen:List Int):(triesOf seen).length=seen.length+3:=by unfold triesOf;simp
theorem impl_tries.fc (p:List StepD) (hp:p.length≤20):FCt prog F_impl_tries [.ro] [steps p] (intss (triesOf (seenL p))) []:=by
 refine fct_run impl_tries.ok rfl ?_
 simp only [go_sem]
 refine fcW_bd (impl_alone.fc 0) noRs_ints ?_
 simp only [go_sem]
 refine fcW_bd (impl_alone.fc 255) noRs_ints ?_
 simp only [go_sem,List.length_replicate,take_map_len]
 refine R_loop (α:=Nat) (fun k s' M'=>k≤p.length∧s' 13=aI k∧(∃ v,s' 3=.sl 320 v 0 ((seenL (p.take k)).length+3) 1∧M'.m 320=some (.arr v true 1 ((triesOf (seenL (p.take k))).map ints))) ∧
  ∃ u,s' 4=.sl 2496 u 0 (seenL (p.take k)).length 1∧M'.m 2496=some (.arr u true 1 ((seenL (p.take k)).map Ii))) (fun k=>p.length - k) 0
  ⟨by omega,by simp only [go_sem];rfl,⟨_,by simp only [go_sem];rfl,by simp only [go_sem];rfl⟩,_,by simp only [go_sem];rfl,by simp only [go_sem];rfl⟩ ?_
 rintro k s' M' ⟨hk,h13,⟨v,h3,hm⟩,u,h4,hm2⟩ ho
 unfold impl_tries.b0
 have j11:s' 11=.dat none (steps p):=by rw [ho 11 rfl];simp only [go_sem]
 have j12:s' 12=aI p.length:=by rw [ho 12 rfl];simp only [go_sem]
 clear ho
 have sl:=seenL_len (p.take k)
 have tl:=tries_len (seenL (p.take k))
 by_cases hlt:k < p.length
 · have hi':(k:Int) < p.length:=by omega
   have ga:p[k]? = some p[k]:=List.getElem?_eq_getElem hlt
   have hw:IntKind.i64.wrap (k+1)=((k+1:Nat):Int):=wrap_k hlt (by omega)
   have hst:=seenL_step hlt
   generalize hS:seenL (p.take k)=S at h3 hm h4 hm2 sl tl hst
   have tk1:(S.map Ii).take S.length=S.map Ii:=take_map_len
   have tk2:((triesOf S).map ints).take (S.length+3)=(triesOf S).map ints:=List.take_of_length_le (by simp [tl])
   have tl2:((triesOf S).map ints).length=S.length+3:=by rw [List.length_map,tl]
   have hb1:(S.length+1) * 8≤70368744177664:=by omega
   have hb2:(S.length+3+1) * 24≤70368744177664:=by omega
   have ap1:S.map Ii++[Ii p[k].imm]=(S++[p[k].imm]).map Ii:=map_snoc
   have ap2:=tries_snoc S p[k].imm
   have c1:=slices_Contains__sint_int.fc S p[k].imm (by omega)
   have e12:((S.length:Int) == 12)=decide (S.length=12):=eq_dec (b:=12)
   cases b1:(p[k].kind == 3||p[k].kind == 2) with
   | false =>
    have e:seenL (p.take (k+1))=S:=by rw [hst];unfold seenS;rw [b1];rfl
    simp only [Bool.or_eq_false_iff] at b1
    have n1:(p[k].kind != 3)=true:=by rw [bne,b1.1];rfl
    have n2:(p[k].kind != 2)=true:=by rw [bne,b1.2];rfl
    simp only [go_sem,n1,n2,j11,j12,h13,h3,hm,h4,hm2,hi',ga,tl,tl2,tk1,tk2,hw]
    exact ⟨k+1,by dsimp only;omega,by omega,by simp only [go_sem,j11,j12,h13,h3,hm,h4,hm2,hi',ga,tl,tl2,tk1,tk2,hw],⟨v,by rw [e];simp only [go_sem,j11,j12,h13,h3,hm,h4,hm2,hi',ga,tl,tl2,tk1,tk2,hw],by rw [e];simp only [go_sem,j11,j12,h13,h3,hm,h4,hm2,hi',ga,tl,tl2,tk1,tk2,hw]⟩,u,by rw [e];simp only [go_sem,j11,j12,h13,h3,hm,h4,hm2,hi',ga,tl,tl2,tk1,tk2,hw],by rw [e];simp only [go_sem,j11,j12,h13,h3,hm,h4,hm2,hi',ga,tl,tl2,tk1,tk2,hw]⟩
   | true =>
    have nn:(p[k].kind != 3)=false∨((p[k].kind != 3)=true∧(p[k].kind != 2)=false):=by
     simp only [Bool.or_eq_true] at b1
     cases q:(p[k].kind == 3) with
     | true=>left;rw [bne,q];rfl
     | false=>right;rw [bne,q];exact ⟨rfl,by rw [bne];rcases b1 with b|b;rw [q] at b;cases b;rw [b];rfl⟩
    cases b2:S.any (· == p[k].imm) with
    | true =>
     rw [b2] at c1
     have e:seenL (p.take (k+1))=S:=by rw [hst];unfold seenS;rw [b1,b2];rfl
     rcases nn with n1|⟨n1,n2⟩
     · simp only [go_sem,n1,j11,j12,h13,h3,hm,h4,hm2,hi',ga,tl,tl2,tk1,tk2,hw]
       refine fcW_bool c1 ?_
       simp only [go_sem,j11,j12,h13,h3,hm,h4,hm2,hi',ga,tl,tl2,tk1,tk2,hw]
       exact ⟨k+1,by dsimp only;omega,by omega,by simp only [go_sem,j11,j12,h13,h3,hm,h4,hm2,hi',ga,tl,tl2,tk1,tk2,hw],⟨v,by rw [e];simp only [go_sem,j11,j12,h13,h3,hm,h4,hm2,hi',ga,tl,tl2,tk1,tk2,hw],by rw [e];simp only [go_sem,j11,j12,h13,h3,hm,h4,hm2,hi',ga,tl,tl2,tk1,tk2,hw]⟩,u,by rw [e];simp only [go_sem,j11,j12,h13,h3,hm,h4,hm2,hi',ga,tl,tl2,tk1,tk2,hw],by rw [e];simp only [go_sem,j11,j12,h13,h3,hm,h4,hm2,hi',ga,tl,tl2,tk1,tk2,hw]⟩
     · simp only [go_sem,n1,n2,j11,j12,h13,h3,hm,h4,hm2,hi',ga,tl,tl2,tk1,tk2,hw]
       refine fcW_bool c1 ?_
       simp only [go_sem,j11,j12,h13,h3,hm,h4,hm2,hi',ga,tl,tl2,tk1,tk2,hw]
       exact ⟨k+1,by dsimp only;omega,by omega,by simp only [go_sem,j11,j12,h13,h3,hm,h4,hm2,hi',ga,tl,tl2,tk1,tk2,hw],⟨v,by rw [e];simp only [go_sem,j11,j12,h13,h3,hm,h4,hm2,hi',ga,tl,tl2,tk1,tk2,hw],by rw [e];simp only [go_sem,j11,j12,h13,h3,hm,h4,hm2,hi',ga,tl,tl2,tk1,tk2,hw]⟩,u,by rw [e];simp only [go_sem,j11,j12,h13,h3,hm,h4,hm2,hi',ga,tl,tl2,tk1,tk2,hw],by rw [e];simp only [go_sem,j11,j12,h13,h3,hm,h4,hm2,hi',ga,tl,tl2,tk1,tk2,hw]⟩
    | false =>
     rw [b2] at c1
     by_cases b3:S.length=12
     · have e:seenL (p.take (k+1))=S:=by rw [hst];unfold seenS;rw [b1,b2,decide_eq_true b3];rfl
       rw [decide_eq_true b3] at e12
       rcases nn with n1|⟨n1,n2⟩
       · simp only [go_sem,n1,j11,j12,h13,h3,hm,h4,hm2,hi',ga,tl,tl2,tk1,tk2,hw]
         refine fcW_bool c1 ?_
         simp only [go_sem,e12,j11,j12,h13,h3,hm,h4,hm2,hi',ga,tl,tl2,tk1,tk2,hw]
         exact ⟨k+1,by dsimp only;omega,by omega,by simp only [go_sem,j11,j12,h13,h3,hm,h4,hm2,hi',ga,tl,tl2,tk1,tk2,hw],⟨v,by rw [e];simp only [go_sem,j11,j12,h13,h3,hm,h4,hm2,hi',ga,tl,tl2,tk1,tk2,hw],by rw [e];simp only [go_sem,j11,j12,h13,h3,hm,h4,hm2,hi',ga,tl,tl2,tk1,tk2,hw]⟩,u,by rw [e];simp only [go_sem,j11,j12,h13,h3,hm,h4,hm2,hi',ga,tl,tl2,tk1,tk2,hw],by rw [e];simp only [go_sem,j11,j12,h13,h3,hm,h4,hm2,hi',ga,tl,tl2,tk1,tk2,hw]⟩
       · simp only [go_sem,n1,n2,j11,j12,h13,h3,hm,h4,hm2,hi',ga,tl,tl2,tk1,tk2,hw]
         refine fcW_bool c1 ?_
         simp only [go_sem,e12,j11,j12,h13,h3,hm,h4,hm2,hi',ga,tl,tl2,tk1,tk2,hw]
         exact ⟨k+1,by dsimp only;omega,by omega,by simp only [go_sem,j11,j12,h13,h3,hm,h4,hm2,hi',ga,tl,tl2,tk1,tk2,hw],⟨v,by rw [e];simp only [go_sem,j11,j12,h13,h3,hm,h4,hm2,hi',ga,tl,tl2,tk1,tk2,hw],by rw [e];simp only [go_sem,j11,j12,h13,h3,hm,h4,hm2,hi',ga,tl,tl2,tk1,tk2,hw]⟩,u,by rw [e];simp only [go_sem,j11,j12,h13,h3,hm,h4,hm2,hi',ga,tl,tl2,tk1,tk2,hw],by rw [e];simp only [go_sem,j11,j12,h13,h3,hm,h4,hm2,hi',ga,tl,tl2,tk1,tk2,hw]⟩
     · have e:seenL (p.take (k+1))=S++[p[k].imm]:=by rw [hst];unfold seenS;rw [b1,b2,decide_eq_false b3];rfl
       rw [decide_eq_false b3] at e12
       have el:(S++[p[k].imm]).length=S.length+1:=by simp
       have el3:S.length+1+3=S.length+3+1:=by omega
       have tk8:((List.replicate 8 p[k].imm).map Ii).take 8=(List.replicate 8 p[k].imm).map Ii:=List.take_of_length_le (by simp)
       rcases nn with n1|⟨n1,n2⟩
       · simp only [go_sem,n1,j11,j12,h13,h3,hm,h4,hm2,hi',ga,tl,tl2,tk1,tk2,hw]
         refine fcW_bool c1 ?_
         simp only [go_sem,e12,hb1,ap1,j11,j12,h13,h3,hm,h4,hm2,hi',ga,tl,tl2,tk1,tk2,hw]
         refine fcW_bd (impl_alone.fc p[k].imm) noRs_ints ?_
         simp only [go_sem,hb2,List.length_replicate,take_map_len,j11,j12,h13,h3,hm,h4,hm2,hi',ga,tl,tl2,tk1,tk2,hw]
         exact ⟨k+1,by dsimp only;omega,by omega,by simp only [go_sem,j11,j12,h13,h3,hm,h4,hm2,hi',ga,tl,tl2,tk1,tk2,hw],⟨_,by rw [e,el];simp only [go_sem,el3,j11,j12,h13,h3,hm,h4,hm2,hi',ga,tl,tl2,tk1,tk2,hw];rfl,by rw [e];simp only [go_sem,ap2,tk8,j11,j12,h13,h3,hm,h4,hm2,hi',ga,tl,tl2,tk1,tk2,hw]⟩,_,by rw [e,el];simp only [go_sem,j11,j12,h13,h3,hm,h4,hm2,hi',ga,tl,tl2,tk1,tk2,hw];rfl,by rw [e];simp only [go_sem,ap1,j11,j12,h13,h3,hm,h4,hm2,hi',ga,tl,tl2,tk1,tk2,hw]⟩
       · simp only [go_sem,n1,n2,j11,j12,h13,h3,hm,h4,hm2,hi',ga,tl,tl2,tk1,tk2,hw]
         refine fcW_bool c1 ?_
         simp only [go_sem,e12,hb1,ap1,j11,j12,h13,h3,hm,h4,hm2,hi',ga,tl,tl2,tk1,tk2,hw]
         refine fcW_bd (impl_alone.fc p[k].imm) noRs_ints ?_
         simp only [go_sem,hb2,List.length_replicate,take_map_len,j11,j12,h13,h3,hm,h4,hm2,hi',ga,tl,tl2,tk1,tk2,hw]
         exact ⟨k+1,by dsimp only;omega,by omega,by simp only [go_sem,j11,j12,h13,h3,hm,h4,hm2,hi',ga,tl,tl2,tk1,tk2,hw],⟨_,by rw [e,el];simp only [go_sem,el3,j11,j12,h13,h3,hm,h4,hm2,hi',ga,tl,tl2,tk1,tk2,hw];rfl,by rw [e];simp only [go_sem,ap2,tk8,j11,j12,h13,h3,hm,h4,hm2,hi',ga,tl,tl2,tk1,tk2,hw]⟩,_,by rw [e,el];simp only [go_sem,j11,j12,h13,h3,hm,h4,hm2,hi',ga,tl,tl2,tk1,tk2,hw];rfl,by rw [e];simp only [go_sem,ap1,j11,j12,h13,h3,hm,h4,hm2,hi',ga,tl,tl2,tk1,tk2,hw]⟩
 · have hi':¬ (k:Int) < p.length:=by omega
   obtain rfl:k=p.length:=by omega
   rw [List.take_length] at h3 hm tl
   have tk2:((triesOf (seenL p)).map ints).take ((seenL p).length+3)=(triesOf (seenL p)).map ints:=List.take_of_length_le (by simp [tl])
   simp only [go_sem,h13,h3,hm,Int.lt_irrefl,tl,tk2,j11,j12]
theorem spec_l17Tries.fc (p:List StepD) (hp:p.length≤20):FCt prog F_spec_l17Tries [.ro] [steps p] (intss (triesOf (seenL p))) []:=by
 refine fct_run spec_l17Tries.ok rfl ?_
 simp only [go_sem]
 refine fcW_bd (spec_l17Full.fc 0) noRs_ints ?_
 simp only [go_sem]
 refine fcW_bd (spec_l17Full.fc 255) noRs_ints ?_
 simp only [go_sem,List.length_replicate,take_map_len]
 refine R_loop (α:=Nat) (fun k s' M'=>k≤p.length∧s' 13=aI k∧(∃ v,s' 3=.sl 320 v 0 ((seenL (p.take k)).length+3) 1∧M'.m 320=some (.arr v true 1 ((triesOf (seenL (p.take k))).map ints))) ∧
  ∃ u,s' 4=.sl 2560 u 0 (seenL (p.take k)).length 1∧M'.m 2560=some (.arr u true 1 ((seenL (p.take k)).map Ii))) (fun k=>p.length - k) 0
  ⟨by omega,by simp only [go_sem];rfl,⟨_,by simp only [go_sem];rfl,by simp only [go_sem];rfl⟩,_,by simp only [go_sem];rfl,by simp only [go_sem];rfl⟩ ?_
 rintro k s' M' ⟨hk,h13,⟨v,h3,hm⟩,u,h4,hm2⟩ ho
 unfold spec_l17Tries.b0
 have j11:s' 11=.dat none (steps p):=by rw [ho 11 rfl];simp only [go_sem]
 have j12:s' 12=aI p.length:=by rw [ho 12 rfl];simp only [go_sem]
 clear ho
 have sl:=seenL_len (p.take k)
 have tl:=tries_len (seenL (p.take k))
 by_cases hlt:k < p.length
 · have hi':(k:Int) < p.length:=by omega
   have ga:p[k]? = some p[k]:=List.getElem?_eq_getElem hlt
   have hw:IntKind.i64.wrap (k+1)=((k+1:Nat):Int):=wrap_k hlt (by omega)
   have hst:=seenL_step hlt
   generalize hS:seenL (p.take k)=S at h3 hm h4 hm2 sl tl hst
   have tk1:(S.map Ii).take S.length=S.map Ii:=take_map_len
   have tk2:((triesOf S).map ints).take (S.length+3)=(triesOf S).map ints:=List.take_of_length_le (by simp [tl])
   have tl2:((triesOf S).map ints).length=S.length+3:=by rw [List.length_map,tl]
   have hb1:(S.length+1) * 8≤70368744177664:=by omega
   have hb2:(S.length+3+1) * 24≤70368744177664:=by omega
   have ap1:S.map Ii++[Ii p[k].imm]=(S++[p[k].imm]).map Ii:=map_snoc
   have ap2:=tries_snoc S p[k].imm
   have c1:=spec_l1Has.fc S p[k].imm (by omega)
   have e12:True:=trivial
   cases b1:(p[k].kind == 3||p[k].kind == 2) with
   | false =>
    have e:seenL (p.take (k+1))=S:=by rw [hst];unfold seenS;rw [b1];rfl
    simp only [Bool.or_eq_false_iff] at b1
    have n1:=b1.1
    have n2:=b1.2
    simp only [go_sem,n1,n2,j11,j12,h13,h3,hm,h4,hm2,hi',ga,tl,tl2,tk1,tk2,hw]
    exact ⟨k+1,by dsimp only;omega,by omega,by simp only [go_sem,j11,j12,h13,h3,hm,h4,hm2,hi',ga,tl,tl2,tk1,tk2,hw],⟨v,by rw [e];simp only [go_sem,j11,j12,h13,h3,hm,h4,hm2,hi',ga,tl,tl2,tk1,tk2,hw],by rw [e];simp only [go_sem,j11,j12,h13,h3,hm,h4,hm2,hi',ga,tl,tl2,tk1,tk2,hw]⟩,u,by rw [e];simp only [go_sem,j11,j12,h13,h3,hm,h4,hm2,hi',ga,tl,tl2,tk1,tk2,hw],by rw [e];simp only [go_sem,j11,j12,h13,h3,hm,h4,hm2,hi',ga,tl,tl2,tk1,tk2,hw]⟩
   | true =>
    have nn:(p[k].kind == 3)=true∨((p[k].kind == 3)=false∧(p[k].kind == 2)=true):=by
     simp only [Bool.or_eq_true] at b1
     cases q:(p[k].kind == 3) with
     | true=>exact .inl rfl
     | false=>exact .inr ⟨rfl,by rcases b1 with b|b;rw [q] at b;cases b;exact b⟩
    cases b2:S.any (· == p[k].imm) with
    | true =>
     rw [b2] at c1
     have e:seenL (p.take (k+1))=S:=by rw [hst];unfold seenS;rw [b1,b2];rfl
     rcases nn with n1|⟨n1,n2⟩
     · simp only [go_sem,n1,j11,j12,h13,h3,hm,h4,hm2,hi',ga,tl,tl2,tk1,tk2,hw]
       refine fcW_bool c1 ?_
       simp only [go_sem,j11,j12,h13,h3,hm,h4,hm2,hi',ga,tl,tl2,tk1,tk2,hw]
       exact ⟨k+1,by dsimp only;omega,by omega,by simp only [go_sem,j11,j12,h13,h3,hm,h4,hm2,hi',ga,tl,tl2,tk1,tk2,hw],⟨v,by rw [e];simp only [go_sem,j11,j12,h13,h3,hm,h4,hm2,hi',ga,tl,tl2,tk1,tk2,hw],by rw [e];simp only [go_sem,j11,j12,h13,h3,hm,h4,hm2,hi',ga,tl,tl2,tk1,tk2,hw]⟩,u,by rw [e];simp only [go_sem,j11,j12,h13,h3,hm,h4,hm2,hi',ga,tl,tl2,tk1,tk2,hw],by rw [e];simp only [go_sem,j11,j12,h13,h3,hm,h4,hm2,hi',ga,tl,tl2,tk1,tk2,hw]⟩
     · simp only [go_sem,n1,n2,j11,j12,h13,h3,hm,h4,hm2,hi',ga,tl,tl2,tk1,tk2,hw]
       refine fcW_bool c1 ?_
       simp only [go_sem,j11,j12,h13,h3,hm,h4,hm2,hi',ga,tl,tl2,tk1,tk2,hw]
       exact ⟨k+1,by dsimp only;omega,by omega,by simp only [go_sem,j11,j12,h13,h3,hm,h4,hm2,hi',ga,tl,tl2,tk1,tk2,hw],⟨v,by rw [e];simp only [go_sem,j11,j12,h13,h3,hm,h4,hm2,hi',ga,tl,tl2,tk1,tk2,hw],by rw [e];simp only [go_sem,j11,j12,h13,h3,hm,h4,hm2,hi',ga,tl,tl2,tk1,tk2,hw]⟩,u,by rw [e];simp only [go_sem,j11,j12,h13,h3,hm,h4,hm2,hi',ga,tl,tl2,tk1,tk2,hw],by rw [e];simp only [go_sem,j11,j12,h13,h3,hm,h4,hm2,hi',ga,tl,tl2,tk1,tk2,hw]⟩
    | false =>
     rw [b2] at c1
     by_cases b3:S.length=12
     · have e:seenL (p.take (k+1))=S:=by rw [hst];unfold seenS;rw [b1,b2,decide_eq_true b3];rfl
       have e12:¬ (S.length:Int) < 12:=by omega
       rcases nn with n1|⟨n1,n2⟩
       · simp only [go_sem,n1,j11,j12,h13,h3,hm,h4,hm2,hi',ga,tl,tl2,tk1,tk2,hw]
         refine fcW_bool c1 ?_
         simp only [go_sem,e12,j11,j12,h13,h3,hm,h4,hm2,hi',ga,tl,tl2,tk1,tk2,hw]
         exact ⟨k+1,by dsimp only;omega,by omega,by simp only [go_sem,j11,j12,h13,h3,hm,h4,hm2,hi',ga,tl,tl2,tk1,tk2,hw],⟨v,by rw [e];simp only [go_sem,j11,j12,h13,h3,hm,h4,hm2,hi',ga,tl,tl2,tk1,tk2,hw],by rw [e];simp only [go_sem,j11,j12,h13,h3,hm,h4,hm2,hi',ga,tl,tl2,tk1,tk2,hw]⟩,u,by rw [e];simp only [go_sem,j11,j12,h13,h3,hm,h4,hm2,hi',ga,tl,tl2,tk1,tk2,hw],by rw [e];simp only [go_sem,j11,j12,h13,h3,hm,h4,hm2,hi',ga,tl,tl2,tk1,tk2,hw]⟩
       · simp only [go_sem,n1,n2,j11,j12,h13,h3,hm,h4,hm2,hi',ga,tl,tl2,tk1,tk2,hw]
         refine fcW_bool c1 ?_
         simp only [go_sem,e12,j11,j12,h13,h3,hm,h4,hm2,hi',ga,tl,tl2,tk1,tk2,hw]
         exact ⟨k+1,by dsimp only;omega,by omega,by simp only [go_sem,j11,j12,h13,h3,hm,h4,hm2,hi',ga,tl,tl2,tk1,tk2,hw],⟨v,by rw [e];simp only [go_sem,j11,j12,h13,h3,hm,h4,hm2,hi',ga,tl,tl2,tk1,tk2,hw],by rw [e];simp only [go_sem,j11,j12,h13,h3,hm,h4,hm2,hi',ga,tl,tl2,tk1,tk2,hw]⟩,u,by rw [e];simp only [go_sem,j11,j12,h13,h3,hm,h4,hm2,hi',ga,tl,tl2,tk1,tk2,hw],by rw [e];simp only [go_sem,j11,j12,h13,h3,hm,h4,hm2,hi',ga,tl,tl2,tk1,tk2,hw]⟩
     · have e:seenL (p.take (k+1))=S++[p[k].imm]:=by rw [hst];unfold seenS;rw [b1,b2,decide_eq_false b3];rfl
       have e12:(S.length:Int) < 12:=by omega
       have el:(S++[p[k].imm]).length=S.length+1:=by simp
       have el3:S.length+1+3=S.length+3+1:=by omega
       have tk8:((List.replicate 8 p[k].imm).map Ii).take 8=(List.replicate 8 p[k].imm).map Ii:=List.take_of_length_le (by simp)
       rcases nn with n1|⟨n1,n2⟩
       · simp only [go_sem,n1,j11,j12,h13,h3,hm,h4,hm2,hi',ga,tl,tl2,tk1,tk2,hw]
         refine fcW_bool c1 ?_
         simp only [go_sem,e12,hb1,ap1,j11,j12,h13,h3,hm,h4,hm2,hi',ga,tl,tl2,tk1,tk2,hw]
         refine fcW_bd (spec_l17Full.fc p[k].imm) noRs_ints ?_
         simp only [go_sem,hb2,List.length_replicate,take_map_len,j11,j12,h13,h3,hm,h4,hm2,hi',ga,tl,tl2,tk1,tk2,hw]
         exact ⟨k+1,by dsimp only;omega,by omega,by simp only [go_sem,j11,j12,h13,h3,hm,h4,hm2,hi',ga,tl,tl2,tk1,tk2,hw],⟨_,by rw [e,el];simp only [go_sem,el3,j11,j12,h13,h3,hm,h4,hm2,hi',ga,tl,tl2,tk1,tk2,hw];rfl,by rw [e];simp only [go_sem,ap2,tk8,j11,j12,h13,h3,hm,h4,hm2,hi',ga,tl,tl2,tk1,tk2,hw]⟩,_,by rw [e,el];simp only [go_sem,j11,j12,h13,h3,hm,h4,hm2,hi',ga,tl,tl2,tk1,tk2,hw];rfl,by rw [e];simp only [go_sem,ap1,j11,j12,h13,h3,hm,h4,hm2,hi',ga,tl,tl2,tk1,tk2,hw]⟩
       · simp only [go_sem,n1,n2,j11,j12,h13,h3,hm,h4,hm2,hi',ga,tl,tl2,tk1,tk2,hw]
         refine fcW_bool c1 ?_
         simp only [go_sem,e12,hb1,ap1,j11,j12,h13,h3,hm,h4,hm2,hi',ga,tl,tl2,tk1,tk2,hw]
         refine fcW_bd (spec_l17Full.fc p[k].imm) noRs_ints ?_
         simp only [go_sem,hb2,List.length_replicate,take_map_len,j11,j12,h13,h3,hm,h4,hm2,hi',ga,tl,tl2,tk1,tk2,hw]
         exact ⟨k+1,by dsimp only;omega,by omega,by simp only [go_sem,j11,j12,h13,h3,hm,h4,hm2,hi',ga,tl,tl2,tk1,tk2,hw],⟨_,by rw [e,el];simp only [go_sem,el3,j11,j12,h13,h3,hm,h4,hm2,hi',ga,tl,tl2,tk1,tk2,hw];rfl,by rw [e];simp only [go_sem,ap2,tk8,j11,j12,h13,h3,hm,h4,hm2,hi',ga,tl,tl2,tk1,tk2,hw]⟩,_,by rw [e,el];simp only [go_sem,j11,j12,h13,h3,hm,h4,hm2,hi',ga,tl,tl2,tk1,tk2,hw];rfl,by rw [e];simp only [go_sem,ap1,j11,j12,h13,h3,hm,h4,hm2,hi',ga,tl,tl2,tk1,tk2,hw]⟩
 · have hi':¬ (k:Int) < p.length:=by omega
   obtain rfl:k=p.length:=by omega
   rw [List.take_length] at h3 hm tl
   have tk2:((triesOf (seenL p)).map ints).take ((seenL p).length+3)=(triesOf (seenL p)).map ints:=List.take_of_length_le (by simp [tl])
   simp only [go_sem,h13,h3,hm,Int.lt_irrefl,tl,tk2,j11,j12]
theorem triesOf_mem {S:List Int} {x:List Int} (h:x∈triesOf S):x.length=8:=by
 unfold triesOf at h
 rcases List.mem_append.1 h with h|h
 · simp only [List.mem_cons,List.not_mem_nil,or_false] at h
   rcases h with rfl|rfl|rfl
   · simp
   · simp
   · rfl
 · obtain ⟨n,_,rfl⟩:=List.mem_map.1 h;simp
set_option maxHeartbeats 4000000
theorem strL_len (l:List UInt8):(strL l).size=l.length:=by simp [strL,ByteArray.size]
theorem loop_eq (b:ByteArray):∀ (n i:Nat) (r:List UInt8),b.size - i=n→ByteArray.toList.loop b i r=r.reverse++b.data.toList.drop i:=by
 intro n
 induction n with
 | zero =>
  intro i r h
  unfold ByteArray.toList.loop
  rw [if_neg (by omega)]
  have : b.data.toList.length ≤ i := by have : b.data.toList.length = b.size := Array.length_toList
                                        omega
  rw [List.drop_eq_nil_of_le this];simp
 | succ n ih =>
  intro i r h
  unfold ByteArray.toList.loop
  rw [if_pos (by omega),ih (i+1) _ (by omega)]
  have hl : i < b.data.toList.length := by have : b.data.toList.length = b.size := Array.length_toList
                                           omega
  rw [List.drop_eq_getElem_cons hl]
  have hb:b.get! i=b.data.toList[i]:=by
   show b.data[i]! = _
   have h2:i < b.data.size:=by simpa using hl
   rw [getElem!_pos b.data i h2]
   simp
  rw [hb]
  simp
theorem strL_list (l:List UInt8):(strL l).toList=l:=by
 unfold ByteArray.toList
 rw [loop_eq _ _ 0 [] rfl]
 simp [strL]
theorem str_eq (a b:List UInt8):((strL a).toList == (strL b).toList)=decide (a=b):=by
 rw [strL_list,strL_list]
 by_cases h:a=b
 · subst h;simp
 · simp [h]
theorem strL_ext (l:List UInt8) (a b:Nat):(strL l).extract a b=strL ((l.take b).drop a):=by
 apply ByteArray.ext
 apply Array.ext'
 simp [strL,ByteArray.data_extract,List.drop_take]
theorem strL_at (l:List UInt8) (i:Nat) (h:i < (strL l).size):(strL l)[i]'h=l.getD i 0:=by
 have h2:i < l.length:=by rwa [strL_len] at h
 rw [List.getD_eq_getElem?_getD,List.getElem?_eq_getElem h2]
 exact strL_get h h2
abbrev strU (l:List UInt8):D:=.str (strL l)
abbrev Ub (n:Int):D:=.int .u8 n
theorem bytesOf_ub:∀ (l:List Int),bytesOf (l.map Ub)=some (l.map fun n=>UInt8.ofNat n.toNat)
 | []=>rfl
 | n::l=>by
  rw [List.map_cons,bytesOf,bytesOf_ub l];rfl
def w8 (n:Int):Int:=IntKind.u8.wrap n
def encI (x:StepD):List Int:=[w8 (x.kind+16 * x.op),w8 (16 * x.dst+x.src),w8 x.to,w8 (x.imm % 256)]++(if x.kind == 4 then [0,0,0,w8 (x.imm / 256)] else [])
def encU (x:StepD):List UInt8:=(encI x).map fun n=>UInt8.ofNat n.toNat
def bt (l:List UInt8) (i:Nat):Int:=((l.getD i 0).toNat:Int)
theorem bt_in (l:List UInt8) (i:Nat):0≤bt l i∧bt l i≤255:=by
 unfold bt
 have:=(l.getD i 0).toNat_lt
 omega
def wideU (l:List UInt8):Bool:=bt l 0 % 16 == 4
def longU (l:List UInt8):Nat:=if wideU l then 8 else 4
def stepU (l:List UInt8):StepD:=⟨bt l 0 % 16,bt l 0 / 16,bt l 1 / 16,bt l 1 % 16,if wideU l then bt l 3+256 * bt l 7 else bt l 3,bt l 2⟩
def okU (l:List UInt8):Bool:=stepB (stepU l)&&decide (encU (stepU l)=l.take (longU l))
def readN:Nat→List UInt8→List StepD→List StepD×Int
 | 0,_,acc=>(acc,0)
 | n+1,l,acc=>if l.length=0 then (acc,0) else if l.length < longU l then ([],1) else if okU l then readN n (l.drop (longU l)) (acc++[stepU l]) else ([],2)
theorem readN_succ (n:Nat) (l:List UInt8) (acc:List StepD):readN (n+1) l acc=if l.length=0 then (acc,0) else if l.length < longU l then ([],1) else if okU l then readN n (l.drop (longU l)) (acc++[stepU l]) else ([],2):=rfl
theorem readN_end (n:Nat) (acc:List StepD):readN n [] acc=(acc,0):=by cases n<;>simp [readN]
def readE (r:List StepD×Int):List StepD×Int×Bool:=if r.2 == 0 then (if goodP r.1 then (r.1,0,true) else ([],3,false)) else ([],r.2,false)
def readV (l:List UInt8):List StepD×Int×Bool:=if l.length > 160 then ([],0,false) else readE (readN l.length l [])
def readD (r:List StepD×Int×Bool):D:=.tup [steps r.1,Ii r.2.1,Bb r.2.2]
theorem longU_in (l:List UInt8):4≤longU l∧longU l≤8:=by unfold longU;split<;>omega
theorem readV_good {l:List UInt8} (h:(readV l).2.2=true):goodP (readV l).1=true:=by
 unfold readV at h ⊢
 split
 · rename_i hc;rw [if_pos hc] at h;cases h
 · rename_i hc
   rw [if_neg hc] at h
   unfold readE at h ⊢
   split
   · rename_i h0
     rw [if_pos h0] at h
     split
     · assumption
     · rename_i h1;rw [if_neg h1] at h;cases h
   · rename_i h0;rw [if_neg h0] at h;cases h
theorem readV_len (l:List UInt8):(readV l).1.length≤20:=by
 by_cases h:(readV l).2.2=true
 · exact (prog_ok (readV_good h)).len.2
 · have:(readV l).1=[]:=by
    unfold readV at h ⊢
    split
    · rfl
    · rename_i hc
      rw [if_neg hc] at h
      unfold readE at h ⊢
      split
      · rename_i h0
        rw [if_pos h0] at h
        split
        · rename_i h1;rw [if_pos h1] at h;exact absurd rfl h
        · rfl
      · rfl
   rw [this];simp
set_option maxHeartbeats 16000000
structure CurD where
 code:List Int
 pos:Int
 seed:Int
abbrev CurD.d (c:CurD):D:=.agg [.rs 1 (c.code.map Ub),Ii c.pos,.int .u64 c.seed]
structure CurOk (c:CurD) (n:Nat):Prop where
 p0:0≤c.pos
 p1:c.pos+n≤4611686018427387904
 len:c.code.length≤9223372036854775807
 by8:∀ b∈c.code,0≤b∧b≤255
def seedV (c:CurD) (b:Int):Int:=IntKind.u64.wrap (IntKind.u64.wrap (IntKind.u64.wrap (c.seed * 6364136223846793005)+IntKind.u64.wrap b)+1442695040888963407)
def byteV (c:CurD):Int:=if c.pos < c.code.length then c.code.getD c.pos.toNat 0 else 0
def foldV (s:Int):Int:=IntKind.i64.wrap (IntKind.u64.wrap (BitVec.ofInt IntKind.u64.bits (Int.fdiv s (2 ^ min (40:Int).toNat IntKind.u64.bits)) &&& BitVec.ofInt IntKind.u64.bits 255).toNat)
def nextV (c:CurD):Int:=if c.pos+1≤c.code.length then byteV c else foldV (seedV c (byteV c))
def nextC (c:CurD):CurD:=⟨c.code,c.pos+1,seedV c (byteV c)⟩
theorem nextC_ok {c:CurD} {n:Nat} (h:CurOk c (n+1)):CurOk (nextC c) n:=by
 obtain ⟨h1,h2,h3,h4⟩:=h
 refine ⟨?_,?_,h3,h4⟩
 · show 0≤c.pos+1;omega
 · show c.pos+1+n≤_;omega
theorem byteV_in {c:CurD} {n:Nat} (h:CurOk c n):0≤byteV c∧byteV c≤255:=by
 unfold byteV
 split
 · rename_i hl
   have h0:=h.p0
   have hl':c.pos.toNat < c.code.length:=by omega
   rw [List.getD_eq_getElem?_getD,List.getElem?_eq_getElem hl']
   exact h.by8 _ (List.getElem_mem hl')
 · omega
theorem foldV_in (s:Int):0≤foldV s∧foldV s≤255:=by
 unfold foldV
 have hn:(BitVec.ofInt IntKind.u64.bits (Int.fdiv s (2 ^ min (40:Int).toNat IntKind.u64.bits)) &&& BitVec.ofInt IntKind.u64.bits 255).toNat≤255:=by
  rw [BitVec.toNat_and]
  have:(BitVec.ofInt IntKind.u64.bits 255).toNat=255:=by decide
  rw [this]
  exact Nat.and_le_right
 generalize (BitVec.ofInt IntKind.u64.bits (Int.fdiv s (2 ^ min (40:Int).toNat IntKind.u64.bits)) &&& BitVec.ofInt IntKind.u64.bits 255).toNat=m at hn
 have e:IntKind.u64.wrap (m:Int)=m:=by simp [IntKind.wrap,IntKind.signed,IntKind.bits];omega
 rw [e,wrap_in (by omega) (by omega)]
 omega
theorem nextV_in {c:CurD} {n:Nat} (h:CurOk c n):0≤nextV c∧nextV c≤255:=by
 unfold nextV
 split
 · exact byteV_in h
 · exact foldV_in _
theorem CurOk.mono {c:CurD} {n m:Nat} (h:CurOk c n) (hm:m≤n):CurOk c m:=⟨h.p0,by have:=h.p1;omega,h.len,h.by8⟩
theorem spec_pl1Cur_next.fc (c:CurD) {n:Nat} (h:CurOk c (n+1)):FCt prog F_spec_pl1Cur_next [.io] [.ptr c.d] (Ii (nextV c)) [.ptr (nextC c).d]:=by
 refine fct_run spec_pl1Cur_next.ok rfl ?_
 have hb:=byteV_in h
 obtain ⟨h1,h2,h3,h4⟩:=h
 obtain ⟨code,pos,seed⟩:=c
 dsimp only at h1 h2 h3
 have w1:IntKind.i64.wrap (pos+1)=pos+1:=wrap_in (by omega) (by omega)
 unfold nextV nextC foldV
 by_cases hp:pos < code.length
 · have hl:pos.toNat < code.length:=by omega
   have g:code[pos.toNat]? = some (code.getD pos.toNat 0):=getD_some hl
   have e:byteV ⟨code,pos,seed⟩=code.getD pos.toNat 0:=by unfold byteV;rw [if_pos hp]
   have hq:pos+1≤code.length:=by omega
   rw [e] at hb ⊢
   have w2:IntKind.i64.wrap (code.getD pos.toNat 0)=code.getD pos.toNat 0:=wrap_in (by omega) (by omega)
   rw [if_pos hq]
   unfold seedV
   simp only [go_sem,hp,h1,g,w1,w2,hq];try rfl
 · have e:byteV ⟨code,pos,seed⟩=0:=by unfold byteV;rw [if_neg hp]
   have hq:¬ pos+1≤code.length:=by omega
   rw [e,if_neg hq]
   unfold seedV
   simp only [go_sem,hp,w1,hq];try rfl
def pickV (c:CurD) (n:Int):Int:=if n≤1 then 0 else if n > 200 then (nextV c * 256+nextV (nextC c)) % n else nextV c % n
def pickC (c:CurD) (n:Int):CurD:=if n≤1 then c else if n > 200 then nextC (nextC c) else nextC c
theorem pickV_in {c:CurD} {n:Int} (h:1≤n):0≤pickV c n∧pickV c n < n:=by
 unfold pickV
 split
 · omega
 · split
   · exact ⟨Int.emod_nonneg _ (by omega),Int.emod_lt_of_pos _ (by omega)⟩
   · exact ⟨Int.emod_nonneg _ (by omega),Int.emod_lt_of_pos _ (by omega)⟩
theorem pickC_ok {c:CurD} {n:Int} {m:Nat} (h:CurOk c (m+2)):CurOk (pickC c n) m:=by
 unfold pickC
 split
 · exact h.mono (by omega)
 · split
   · exact nextC_ok (nextC_ok h)
   · exact (nextC_ok h).mono (by omega)
theorem spec_pl1Cur_pick.fc (c:CurD) (n:Int) {m:Nat} (h:CurOk c (m+2)):FCt prog F_spec_pl1Cur_pick [.io,.ro] [.ptr c.d,Ii n] (Ii (pickV c n)) [.ptr (pickC c n).d]:=by
 refine fct_run spec_pl1Cur_pick.ok rfl ?_
 have c1:=spec_pl1Cur_next.fc c h
 have h2:=nextC_ok h
 have c2:=spec_pl1Cur_next.fc (nextC c) h2
 have b1:=nextV_in h
 have b2:=nextV_in h2
 unfold pickV pickC
 generalize nextV c=x at c1 b1 ⊢
 generalize nextV (nextC c)=y at c2 b2 ⊢
 generalize nextC (nextC c)=z at c2 ⊢
 generalize nextC c=u at c1 c2 ⊢
 by_cases h1:n≤1
 · simp only [go_sem,h1]
 · by_cases h3:n > 200
   · have w1:IntKind.i64.wrap (x * 256)=x * 256:=wrap_in (by omega) (by omega)
     have w2:IntKind.i64.wrap (x * 256+y)=x * 256+y:=wrap_in (by omega) (by omega)
     have w3:Int.tmod (x * 256+y) n=(x * 256+y) % n:=Int.tmod_eq_emod_of_nonneg (by omega)
     have n0:¬ n=0:=by omega
     simp only [go_sem,h1,h3]
     refine coW_c c1 ?_
     simp only [go_sem,h1,h3,w1]
     refine coW_c c2 ?_
     simp only [go_sem,w1,w2,w3,n0,h1,h3]
   · have w3:Int.tmod x n=x % n:=Int.tmod_eq_emod_of_nonneg (by omega)
     have n0:¬ n=0:=by omega
     simp only [go_sem,h1,h3]
     refine coW_c c1 ?_
     simp only [go_sem,h1,h3,w3,n0]
theorem spec_pl1Cur_one.fc (c:CurD) (n:Int) {m:Nat} (h:CurOk c (m+2)):FCt prog F_spec_pl1Cur_one [.io,.ro] [.ptr c.d,Ii n] (Bb (pickV c n == 0)) [.ptr (pickC c n).d]:=by
 refine fct_run spec_pl1Cur_one.ok rfl ?_
 have c1:=spec_pl1Cur_pick.fc c n h
 generalize pickV c n=x at c1 ⊢
 generalize pickC c n=u at c1 ⊢
 simp only [go_sem]
 refine coW_c c1 ?_
 simp only [go_sem]
def amongV (c:CurD) (l:List Int):Int:=l.getD (pickV c l.length).toNat 0
theorem spec_pl1Cur_among.fc (c:CurD) (l:List Int) (hl:1≤l.length) (hl2:l.length≤1000) {m:Nat} (h:CurOk c (m+2)):FCt prog F_spec_pl1Cur_among [.io,.co] [.ptr c.d,ints l] (Ii (amongV c l)) [.ptr (pickC c l.length).d]:=by
 refine fct_run spec_pl1Cur_among.ok rfl ?_
 have c1:=spec_pl1Cur_pick.fc c l.length h
 have hp:=pickV_in (c:=c) (n:=l.length) (by omega)
 unfold amongV
 generalize pickV c l.length=x at c1 hp ⊢
 generalize pickC c l.length=u at c1 ⊢
 have g:l[x.toNat]? = some (l.getD x.toNat 0):=getD_some (by omega)
 simp only [go_sem]
 refine coW_c c1 ?_
 simp only [go_sem,hp.1,hp.2,g]
theorem amongV_mem (c:CurD) (l:List Int) (hl:1≤l.length):amongV c l∈l:=by
 have hp:=pickV_in (c:=c) (n:=l.length) (by omega)
 unfold amongV
 rw [List.getD_eq_getElem?_getD,List.getElem?_eq_getElem (by omega)]
 exact List.getElem_mem (by omega)
theorem among_kind (c:CurD):∃ k,amongV c [1,1,2,2,2,3,3,4,5,5,6,7,7,8,9,10,10]=k∧1≤k∧k≤10:=by
 have h:=amongV_mem c [1,1,2,2,2,3,3,4,5,5,6,7,7,8,9,10,10] (by simp)
 refine ⟨_,rfl,?_⟩
 simp only [List.mem_cons,List.not_mem_nil,or_false] at h
 omega
theorem step_in {c:CurD} {room:Int} {a b d e f g:Int} {v:CurD} (fc:FCt prog F_spec_pl1Cur_step [.io,.ro] [.ptr c.d,Ii room] (StepD.d ⟨a,b,d,e,f,g⟩) [.ptr (CurD.d v)]) (ok:∀ m,CurOk c (m+14)→CurOk v m) :
 ∃ s c',(∀ m,CurOk c (m+14)→CurOk c' m)∧FCt prog F_spec_pl1Cur_step [.io,.ro] [.ptr c.d,Ii room] (StepD.d s) [.ptr (CurD.d c')]:=⟨_,_,ok,fc⟩
theorem step_ex (c:CurD) (room:Int) (hr:0≤room∧room≤1000) (h:CurOk c 14):∃ s c',(∀ m,CurOk c (m+14)→CurOk c' m)∧FCt prog F_spec_pl1Cur_step [.io,.ro] [.ptr c.d,Ii room] (StepD.d s) [.ptr (CurD.d c')]:=by
 obtain ⟨k,hk,k1,k2⟩:=among_kind c
 have ca:=spec_pl1Cur_among.fc c [1,1,2,2,2,3,3,4,5,5,6,7,7,8,9,10,10] (by simp) (by simp) (m:=12) h
 rw [hk] at ca
 have h2:∀ m,CurOk c (m+14)→CurOk (pickC c 17) (m+12):=fun m hm=>pickC_ok hm
 have h1:=h2 0 h
 have l17:(([1,1,2,2,2,3,3,4,5,5,6,7,7,8,9,10,10]:List Int).length:Int)=17:=rfl
 rw [l17] at ca
 generalize pickC c 17=u at ca h1 h2
 have hc:k=1∨k=2∨k=3∨k=4∨k=5∨k=6∨k=7∨k=8∨k=9∨k=10:=by omega
 by_cases h3:room < 2<;>rcases hc with rfl|rfl|rfl|rfl|rfl|rfl|rfl|rfl|rfl|rfl <;>
 · apply step_in
   · refine fct_run spec_pl1Cur_step.ok rfl ?_
     simp only [go_sem]
     refine coW_c ca ?_
     simp only [go_sem,h3,iB,Int.reduceLE,iX,bne,ge_iff_le]
     repeat' (first|with_reducible rfl|refine coW_c (spec_pl1Cur_pick.fc _ _ (m:=0) (by first|exact h1.mono (by omega)|exact pickC_ok (h1.mono (by omega))|exact pickC_ok (pickC_ok (h1.mono (by omega)))|exact pickC_ok (pickC_ok (pickC_ok (h1.mono (by omega))))|exact pickC_ok (pickC_ok (pickC_ok (pickC_ok (h1.mono (by omega)))))|exact pickC_ok (pickC_ok (pickC_ok (pickC_ok (pickC_ok (h1.mono (by omega))))))|exact pickC_ok (pickC_ok (pickC_ok (pickC_ok (pickC_ok (pickC_ok (h1.mono (by omega))))))))) ?_|refine coW_c (spec_pl1Cur_among.fc _ [0,1,3,7,255,_] (by simp) (by simp) (m:=0) (by first|exact h1.mono (by omega)|exact pickC_ok (h1.mono (by omega))|exact pickC_ok (pickC_ok (h1.mono (by omega)))|exact pickC_ok (pickC_ok (pickC_ok (h1.mono (by omega))))|exact pickC_ok (pickC_ok (pickC_ok (pickC_ok (h1.mono (by omega)))))|exact pickC_ok (pickC_ok (pickC_ok (pickC_ok (pickC_ok (h1.mono (by omega))))))|exact pickC_ok (pickC_ok (pickC_ok (pickC_ok (pickC_ok (pickC_ok (h1.mono (by omega))))))))) ?_|refine coW_c (spec_pl1Cur_among.fc _ [256,65535,_] (by simp) (by simp) (m:=0) (by first|exact h1.mono (by omega)|exact pickC_ok (h1.mono (by omega))|exact pickC_ok (pickC_ok (h1.mono (by omega)))|exact pickC_ok (pickC_ok (pickC_ok (h1.mono (by omega))))|exact pickC_ok (pickC_ok (pickC_ok (pickC_ok (h1.mono (by omega)))))|exact pickC_ok (pickC_ok (pickC_ok (pickC_ok (pickC_ok (h1.mono (by omega))))))|exact pickC_ok (pickC_ok (pickC_ok (pickC_ok (pickC_ok (pickC_ok (h1.mono (by omega))))))))) ?_|refine fcW_int (spec_l1Least.fc ..) ?_|with_reducible refine cdW_dec (fun _=>?_) (fun _=>?_)|refine cdW_not (fun _=>?_) (fun _=>?_)|refine cdW_any (fun _=>?_) (fun _=>?_)|with_reducible refine gdW_decT (fun _=>?_) (fun _=>?_)|with_reducible refine gdW_decF (fun _=>?_) (fun _=>?_)|refine gdW_not (fun _=>?_) (fun _=>?_)|refine gdW_any (fun _=>?_) (fun _=>?_)|simp only [go_sem,bne,iQ,iB,iX,Int.reduceLE,iN,iA,iS,iM,h3,ge_iff_le, *]|rfl)
     all_goals exact ⟨rfl,rfl⟩
   · intro m hm
     have h1:=h2 m hm
     exact (by first|exact h1.mono (by omega)|exact pickC_ok (h1.mono (by omega))|exact pickC_ok (pickC_ok (h1.mono (by omega)))|exact pickC_ok (pickC_ok (pickC_ok (h1.mono (by omega))))|exact pickC_ok (pickC_ok (pickC_ok (pickC_ok (h1.mono (by omega)))))|exact pickC_ok (pickC_ok (pickC_ok (pickC_ok (pickC_ok (h1.mono (by omega))))))|exact pickC_ok (pickC_ok (pickC_ok (pickC_ok (pickC_ok (pickC_ok (h1.mono (by omega))))))))
open Classical in
noncomputable def stepX (c:CurD) (room:Int):StepD×CurD :=
 if h:(0≤room∧room≤1000)∧CurOk c 14 then ((step_ex c room h.1 h.2).choose,(step_ex c room h.1 h.2).choose_spec.choose) else (⟨0,0,0,0,0,0⟩,c)
theorem stepX_ok {c:CurD} {room:Int} (hr:0≤room∧room≤1000) {m:Nat} (h:CurOk c (m+14)):CurOk (stepX c room).2 m:=by
 have h0:(0≤room∧room≤1000)∧CurOk c 14:=⟨hr,h.mono (by omega)⟩
 unfold stepX
 rw [dif_pos h0]
 exact (step_ex c room h0.1 h0.2).choose_spec.choose_spec.1 m h
theorem stepX_fc {c:CurD} {room:Int} (hr:0≤room∧room≤1000) (h:CurOk c 14):FCt prog F_spec_pl1Cur_step [.io,.ro] [.ptr c.d,Ii room] (StepD.d (stepX c room).1) [.ptr (CurD.d (stepX c room).2)]:=by
 have h0:(0≤room∧room≤1000)∧CurOk c 14:=⟨hr,h⟩
 unfold stepX
 rw [dif_pos h0]
 exact (step_ex c room h0.1 h0.2).choose_spec.choose_spec.2
noncomputable def stepsX (n:Nat) (c:CurD):Nat→List StepD×CurD
 | 0=>([],c)
 | k+1=>((stepsX n c k).1++[(stepX (stepsX n c k).2 ((n:Int) - k)).1],(stepX (stepsX n c k).2 ((n:Int) - k)).2)
theorem stepsX_succ (n:Nat) (c:CurD) (k:Nat):stepsX n c (k+1)=((stepsX n c k).1++[(stepX (stepsX n c k).2 ((n:Int) - k)).1],(stepX (stepsX n c k).2 ((n:Int) - k)).2):=rfl
theorem stepsX_len (n:Nat) (c:CurD):∀ k,(stepsX n c k).1.length=k
 | 0=>rfl
 | k+1=>by rw [stepsX_succ];simp [stepsX_len n c k]
theorem stepsX_ok {n:Nat} (hn:n≤1000) {c:CurD} {m:Nat} (h:CurOk c (m+14 * n)):∀ k,k≤n→CurOk (stepsX n c k).2 (m+14 * (n - k))
 | 0,_=>h
 | k+1,hk=>by
  have ih:=stepsX_ok hn h k (by omega)
  rw [stepsX_succ]
  exact stepX_ok (m:=m+14 * (n - (k+1))) ⟨by omega,by omega⟩ (ih.mono (by omega))
abbrev curA (c:CurD):AV:=.agg [.dat none (.sl 1 (c.code.map Ub)),.dat none (Ii c.pos),.dat none (.int .u64 c.seed)]
theorem prog_in {c:CurD} {p:List StepD} {v:CurD} (fc:FCt prog F_spec_pl1Cur_program [.io] [.ptr c.d] (steps p) [.ptr (CurD.d v)]) (hl:p.length≤20) (ok:∀ m,CurOk c (m+320)→CurOk v m) :
 ∃ p c',p.length≤20∧(∀ m,CurOk c (m+320)→CurOk c' m)∧FCt prog F_spec_pl1Cur_program [.io] [.ptr c.d] (steps p) [.ptr (CurD.d c')]:=⟨_,_,hl,ok,fc⟩
theorem prog_ex (c:CurD) (h:CurOk c 320):∃ p c',p.length≤20∧(∀ m,CurOk c (m+320)→CurOk c' m)∧FCt prog F_spec_pl1Cur_program [.io] [.ptr c.d] (steps p) [.ptr (CurD.d c')]:=by
 have f1:=spec_pl1Cur_pick.fc c 12 (m:=318) h
 have h1:∀ m,CurOk c (m+320)→CurOk (pickC c 12) (m+318):=fun m hm=>pickC_ok hm
 have p1:=pickV_in (c:=c) (n:=12) (by omega)
 generalize pickV c 12=n0 at f1 p1
 generalize pickC c 12=c1 at f1 h1
 have f2:=spec_pl1Cur_one.fc c1 30 (m:=316) (h1 0 h)
 have h2:∀ m,CurOk c (m+320)→CurOk (pickC c1 30) (m+316):=fun m hm=>pickC_ok (h1 m hm)
 generalize (pickV c1 30 == 0)=b1 at f2
 generalize pickC c1 30=c2 at f2 h2
 obtain ⟨n,hn,hn2⟩:∃ n:Nat,(if b1 then 19 else n0)=(n:Int)∧n≤19:=by
  cases b1
  · exact ⟨n0.toNat,by simp only [Bool.false_eq_true,if_false];omega,by omega⟩
  · exact ⟨19,rfl,Nat.le_refl _⟩
 have h3:∀ m,CurOk c (m+320)→∀ k,k≤n→CurOk (stepsX n c2 k).2 (m+30+14 * (n - k)):=fun m hm k hk=>stepsX_ok (by omega) ((h2 m hm).mono (by omega)) k hk
 have hsl:=stepsX_len n c2
 have f4:=spec_pl1Cur_one.fc (stepsX n c2 n).2 30 (m:=28) ((h3 0 h n (Nat.le_refl _)).mono (by omega))
 have h4:∀ m,CurOk c (m+320)→CurOk (pickC (stepsX n c2 n).2 30) (m+28):=fun m hm=>pickC_ok ((h3 m hm n (Nat.le_refl _)).mono (by omega))
 cases h5:(pickV (stepsX n c2 n).2 30 == 0) with
 | false =>
  rw [h5] at f4
  refine prog_in (p:=(stepsX n c2 n).1++[(⟨11,0,0,0,0,0⟩:StepD)]) (v:=pickC (stepsX n c2 n).2 30) ?_ (by simp [hsl];omega) (fun m hm=>(h4 m hm).mono (by omega))
  refine fct_run spec_pl1Cur_program.ok rfl ?_
  simp only [go_sem]
  refine coW_c f1 ?_
  simp only [go_sem]
  refine coW_c f2 ?_
  cases b1<;>simp only [Bool.false_eq_true,if_false,if_true] at hn <;>
  · simp only [go_sem]
    refine R_loop (α:=Nat) (fun k s' M'=>k≤n∧s' 5=aI k∧M'.m 0=some (.box 0 (curA (stepsX n c2 k).2))∧∃ v,s' 3=.sl 1280 v 0 k 6∧M'.m 1280=some (.arr v true 6 ((stepsX n c2 k).1.map StepD.d))) (fun k=>n - k) 0
     ⟨Nat.zero_le _,by simp only [go_sem];try rfl,by simp only [go_sem];try rfl,_,by simp only [go_sem];try rfl,by simp only [go_sem];try rfl⟩ ?_
    rintro k s' M' ⟨hk,g5,gm,v,g3,gr⟩ ho
    unfold spec_pl1Cur_program.b0
    have j4:s' 4=aI n:=by rw [ho 4 rfl,← hn];simp only [go_sem]
    have j0:s' 0=.ptr 0 0 0 none:=by rw [ho 0 rfl];simp only [go_sem]
    clear ho
    by_cases hlt:k < n
    · have hi':(k:Int) < n:=by omega
      have hw:IntKind.i64.wrap (k+1)=((k+1:Nat):Int):=wrap_k hlt (by omega)
      have hs:IntKind.i64.wrap ((n:Int) - k)=(n:Int) - k:=wrap_in (by omega) (by omega)
      have fs:=stepX_fc (c:=(stepsX n c2 k).2) (room:=(n:Int) - k) ⟨by omega,by omega⟩ ((h3 0 h k hk).mono (by omega))
      have hsu:=stepsX_succ n c2 k
      have lk:=hsl k
      have lk1:=hsl (k+1)
      have hbb:(k+1) * 48≤70368744177664:=by omega
      generalize stepX (stepsX n c2 k).2 ((n:Int) - k)=S at fs hsu
      have sn:(stepsX n c2 k).1.map StepD.d++[S.1.d]=(stepsX n c2 (k+1)).1.map StepD.d:=by rw [hsu];simp
      have s2:S.2=(stepsX n c2 (k+1)).2:=by rw [hsu]
      have tk:((stepsX n c2 k).1.map StepD.d).take k=(stepsX n c2 k).1.map StepD.d:=List.take_of_length_le (by simp [lk])
      simp only [go_sem,hi',hs,j0,g5,gm,g3,gr,j4]
      refine coW_c fs ?_
      simp only [go_sem,hw,hbb,tk,lk,j0,g5,gm,g3,gr,j4]
      exact ⟨k+1,by dsimp only;omega,by omega,by simp only [go_sem,j0,g5,gm,g3,gr,j4],by simp only [go_sem,j0,g5,gm,g3,gr,j4];rw [← s2],_,by simp only [go_sem,j0,g5,gm,g3,gr,j4];try rfl,by simp only [go_sem,j0,g5,gm,g3,gr,j4];rw [← sn]⟩
    · obtain rfl:k=n:=by omega
      have lk:=hsl k
      have hbb:(k+1) * 48≤70368744177664:=by omega
      have tk:((stepsX k c2 k).1.map StepD.d).take k=(stepsX k c2 k).1.map StepD.d:=List.take_of_length_le (by simp [lk])
      have sn:(stepsX k c2 k).1.map StepD.d++[StepD.d ⟨11,0,0,0,0,0⟩]=((stepsX k c2 k).1++[(⟨11,0,0,0,0,0⟩:StepD)]).map StepD.d:=by simp
      have l1:((stepsX k c2 k).1++[(⟨11,0,0,0,0,0⟩:StepD)]).length=k+1:=by simp [lk]
      have tk1:(((stepsX k c2 k).1++[(⟨11,0,0,0,0,0⟩:StepD)]).map StepD.d).take (k+1)=((stepsX k c2 k).1++[(⟨11,0,0,0,0,0⟩:StepD)]).map StepD.d:=List.take_of_length_le (by simp [lk])
      simp only [go_sem,Int.lt_irrefl,hbb,tk,lk,j0,g5,gm,g3,gr,j4]
      refine coW_c f4 ?_
      simp only [go_sem,sn,tk1,l1,j0,g5,gm,g3,gr,j4];try rfl
 | true =>
  rw [h5] at f4
  have a4:=h4 0 h
  generalize pickC (stepsX n c2 n).2 30=v0 at f4 h4 a4
  have e0:=spec_pl1Cur_pick.fc v0 ((n+1:Nat):Int) (m:=26) a4
  have q0:∀ m,CurOk c (m+320)→CurOk (pickC v0 ((n+1:Nat):Int)) (m+26):=fun m hm=>pickC_ok (h4 m hm)
  have b0:=pickV_in (c:=v0) (n:=((n+1:Nat):Int)) (by omega)
  generalize pickV v0 ((n+1:Nat):Int)=i0 at e0 b0
  generalize pickC v0 ((n+1:Nat):Int)=v1 at e0 q0
  have e1:=spec_pl1Cur_pick.fc v1 13 (m:=24) (q0 0 h)
  have q1:∀ m,CurOk c (m+320)→CurOk (pickC v1 13) (m+24):=fun m hm=>pickC_ok (q0 m hm)
  generalize pickV v1 13=i1 at e1
  generalize pickC v1 13=v2 at e1 q1
  have e2:=spec_pl1Cur_pick.fc v2 3 (m:=22) (q1 0 h)
  have q2:∀ m,CurOk c (m+320)→CurOk (pickC v2 3) (m+22):=fun m hm=>pickC_ok (q1 m hm)
  generalize pickV v2 3=i2 at e2
  generalize pickC v2 3=v3 at e2 q2
  have e3:=spec_pl1Cur_pick.fc v3 8 (m:=20) (q2 0 h)
  have q3:∀ m,CurOk c (m+320)→CurOk (pickC v3 8) (m+20):=fun m hm=>pickC_ok (q2 m hm)
  generalize pickV v3 8=i3 at e3
  generalize pickC v3 8=v4 at e3 q3
  have e4:=spec_pl1Cur_among.fc v4 [0,255,256,65536] (by simp) (by simp) (m:=18) (q3 0 h)
  have q4:∀ m,CurOk c (m+320)→CurOk (pickC v4 (([0,255,256,65536]:List Int).length:Int)) (m+18):=fun m hm=>pickC_ok (q3 m hm)
  generalize amongV v4 [0,255,256,65536]=i4 at e4
  generalize pickC v4 (([0,255,256,65536]:List Int).length:Int)=v5 at e4 q4
  have e5:=spec_pl1Cur_pick.fc v5 4 (m:=16) (q4 0 h)
  have q5:∀ m,CurOk c (m+320)→CurOk (pickC v5 4) (m+16):=fun m hm=>pickC_ok (q4 m hm)
  generalize pickV v5 4=i5 at e5
  generalize pickC v5 4=v6 at e5 q5
  have e00:=b0.1
  refine prog_in (p:=((stepsX n c2 n).1++[(⟨11,0,0,0,0,0⟩:StepD)]).set i0.toNat ⟨i1,i2,IntKind.i64.wrap (i3 - 1),0,i4,i5⟩) (v:=v6) ?_ (by simp [hsl];omega) (fun m hm=>(q5 m hm).mono (by omega))
  refine fct_run spec_pl1Cur_program.ok rfl ?_
  simp only [go_sem]
  refine coW_c f1 ?_
  simp only [go_sem]
  refine coW_c f2 ?_
  cases b1<;>simp only [Bool.false_eq_true,if_false,if_true] at hn <;>
  · simp only [go_sem]
    refine R_loop (α:=Nat) (fun k s' M'=>k≤n∧s' 5=aI k∧M'.m 0=some (.box 0 (curA (stepsX n c2 k).2))∧∃ v,s' 3=.sl 1280 v 0 k 6∧M'.m 1280=some (.arr v true 6 ((stepsX n c2 k).1.map StepD.d))) (fun k=>n - k) 0
     ⟨Nat.zero_le _,by simp only [go_sem];try rfl,by simp only [go_sem];try rfl,_,by simp only [go_sem];try rfl,by simp only [go_sem];try rfl⟩ ?_
    rintro k s' M' ⟨hk,g5,gm,v,g3,gr⟩ ho
    unfold spec_pl1Cur_program.b0
    have j4:s' 4=aI n:=by rw [ho 4 rfl,← hn];simp only [go_sem]
    have j0:s' 0=.ptr 0 0 0 none:=by rw [ho 0 rfl];simp only [go_sem]
    clear ho
    by_cases hlt:k < n
    · have hi':(k:Int) < n:=by omega
      have hw:IntKind.i64.wrap (k+1)=((k+1:Nat):Int):=wrap_k hlt (by omega)
      have hs:IntKind.i64.wrap ((n:Int) - k)=(n:Int) - k:=wrap_in (by omega) (by omega)
      have fs:=stepX_fc (c:=(stepsX n c2 k).2) (room:=(n:Int) - k) ⟨by omega,by omega⟩ ((h3 0 h k hk).mono (by omega))
      have hsu:=stepsX_succ n c2 k
      have lk:=hsl k
      have lk1:=hsl (k+1)
      have hbb:(k+1) * 48≤70368744177664:=by omega
      generalize stepX (stepsX n c2 k).2 ((n:Int) - k)=S at fs hsu
      have sn:(stepsX n c2 k).1.map StepD.d++[S.1.d]=(stepsX n c2 (k+1)).1.map StepD.d:=by rw [hsu];simp
      have s2:S.2=(stepsX n c2 (k+1)).2:=by rw [hsu]
      have tk:((stepsX n c2 k).1.map StepD.d).take k=(stepsX n c2 k).1.map StepD.d:=List.take_of_length_le (by simp [lk])
      simp only [go_sem,hi',hs,j0,g5,gm,g3,gr,j4]
      refine coW_c fs ?_
      simp only [go_sem,hw,hbb,tk,lk,j0,g5,gm,g3,gr,j4]
      exact ⟨k+1,by dsimp only;omega,by omega,by simp only [go_sem,j0,g5,gm,g3,gr,j4],by simp only [go_sem,j0,g5,gm,g3,gr,j4];rw [← s2],_,by simp only [go_sem,j0,g5,gm,g3,gr,j4];try rfl,by simp only [go_sem,j0,g5,gm,g3,gr,j4];rw [← sn]⟩
    · obtain rfl:k=n:=by omega
      have lk:=hsl k
      have hbb:(k+1) * 48≤70368744177664:=by omega
      have tk:((stepsX k c2 k).1.map StepD.d).take k=(stepsX k c2 k).1.map StepD.d:=List.take_of_length_le (by simp [lk])
      have sn:(stepsX k c2 k).1.map StepD.d++[StepD.d ⟨11,0,0,0,0,0⟩]=((stepsX k c2 k).1++[(⟨11,0,0,0,0,0⟩:StepD)]).map StepD.d:=by simp
      have l1:((stepsX k c2 k).1++[(⟨11,0,0,0,0,0⟩:StepD)]).length=k+1:=by simp [lk]
      have tk1:(((stepsX k c2 k).1++[(⟨11,0,0,0,0,0⟩:StepD)]).map StepD.d).take (k+1)=((stepsX k c2 k).1++[(⟨11,0,0,0,0,0⟩:StepD)]).map StepD.d:=List.take_of_length_le (by simp [lk])
      simp only [go_sem,Int.lt_irrefl,hbb,tk,lk,j0,g5,gm,g3,gr,j4]
      refine coW_c f4 ?_
      have hx:((stepsX k c2 k).1++[(⟨11,0,0,0,0,0⟩:StepD)])[i0.toNat]? = some (((stepsX k c2 k).1++[(⟨11,0,0,0,0,0⟩:StepD)]).getD i0.toNat ⟨0,0,0,0,0,0⟩):=getD_some (by rw [l1];omega)
      have i0k:i0 < ((k+1:Nat):Int):=by omega
      have ss:(((stepsX k c2 k).1++[(⟨11,0,0,0,0,0⟩:StepD)]).map StepD.d).set i0.toNat (.agg [.int .i64 i1,.int .i64 i2,.int .i64 (IntKind.i64.wrap (i3 - 1)),.int .i64 0,.int .i64 i4,.int .i64 i5])=(((stepsX k c2 k).1++[(⟨11,0,0,0,0,0⟩:StepD)]).set i0.toNat ⟨i1,i2,IntKind.i64.wrap (i3 - 1),0,i4,i5⟩).map StepD.d:=by rw [List.map_set]
      have tk2:(((((stepsX k c2 k).1++[(⟨11,0,0,0,0,0⟩:StepD)]).set i0.toNat ⟨i1,i2,IntKind.i64.wrap (i3 - 1),0,i4,i5⟩).map StepD.d)).take (k+1)=(((stepsX k c2 k).1++[(⟨11,0,0,0,0,0⟩:StepD)]).set i0.toNat ⟨i1,i2,IntKind.i64.wrap (i3 - 1),0,i4,i5⟩).map StepD.d:=List.take_of_length_le (by simp [lk])
      have l2:(((stepsX k c2 k).1++[(⟨11,0,0,0,0,0⟩:StepD)]).set i0.toNat ⟨i1,i2,IntKind.i64.wrap (i3 - 1),0,i4,i5⟩).length=k+1:=by simp [lk]
      simp only [go_sem,sn,l1,j0,g5,gm,g3,gr,j4]
      refine coW_c e0 ?_
      simp only [go_sem,j0,g5,gm,g3,gr,j4]
      refine coW_c e1 ?_
      simp only [go_sem,j0,g5,gm,g3,gr,j4]
      refine coW_c e2 ?_
      simp only [go_sem,j0,g5,gm,g3,gr,j4]
      refine coW_c e3 ?_
      simp only [go_sem,j0,g5,gm,g3,gr,j4]
      refine coW_c e4 ?_
      simp only [go_sem,j0,g5,gm,g3,gr,j4]
      refine coW_c e5 ?_
      simp only [go_sem,e00,i0k,hx,l1,ss,tk2,l2,Nat.le_refl,j0,g5,gm,g3,gr,j4];try rfl
def ctxX (c:CurD):Nat→List Int×CurD
 | 0=>([],c)
 | k+1=>((ctxX c k).1++[amongV (pickC (ctxX c k).2 256) [0,1,7,8,255,pickV (ctxX c k).2 256]],pickC (pickC (ctxX c k).2 256) 6)
theorem ctxX_succ (c:CurD) (k:Nat):ctxX c (k+1)=((ctxX c k).1++[amongV (pickC (ctxX c k).2 256) [0,1,7,8,255,pickV (ctxX c k).2 256]],pickC (pickC (ctxX c k).2 256) 6):=rfl
theorem ctxX_len (c:CurD):∀ k,(ctxX c k).1.length=k
 | 0=>rfl
 | k+1=>by rw [ctxX_succ];simp [ctxX_len c k]
theorem ctxX_ok {c:CurD} {m:Nat} (h:CurOk c (m+32)):∀ k,k≤8→CurOk (ctxX c k).2 (m+4 * (8 - k))
 | 0,_=>h
 | k+1,hk=>by
  have ih:=ctxX_ok h k (by omega)
  rw [ctxX_succ]
  show CurOk (pickC (pickC (ctxX c k).2 256) 6) _
  exact pickC_ok (m:=m+4 * (8 - (k+1))) (pickC_ok (m:=m+4 * (8 - (k+1))+2) (ih.mono (by omega)))
theorem ctx_in {c:CurD} {p:List Int} {v:CurD} (fc:FCt prog F_spec_pl1Cur_ctx [.io] [.ptr c.d] (ints p) [.ptr (CurD.d v)]) (hl:p.length=8) (ok:∀ m,CurOk c (m+40)→CurOk v m) :
 ∃ p c',p.length=8∧(∀ m,CurOk c (m+40)→CurOk c' m)∧FCt prog F_spec_pl1Cur_ctx [.io] [.ptr c.d] (ints p) [.ptr (CurD.d c')]:=⟨_,_,hl,ok,fc⟩
theorem ctx_ex (c:CurD) (h:CurOk c 40):∃ p c',p.length=8∧(∀ m,CurOk c (m+40)→CurOk c' m)∧FCt prog F_spec_pl1Cur_ctx [.io] [.ptr c.d] (ints p) [.ptr (CurD.d c')]:=by
 have h3:∀ m,CurOk c (m+40)→∀ k,k≤8→CurOk (ctxX c k).2 (m+8+4 * (8 - k)):=fun m hm k hk=>ctxX_ok (hm.mono (by omega)) k hk
 have hsl:=ctxX_len c
 have f4:=spec_pl1Cur_one.fc (ctxX c 8).2 30 (m:=6) ((h3 0 h 8 (Nat.le_refl _)).mono (by omega))
 have h4:∀ m,CurOk c (m+40)→CurOk (pickC (ctxX c 8).2 30) (m+6):=fun m hm=>pickC_ok ((h3 m hm 8 (Nat.le_refl _)).mono (by omega))
 have l6:∀ x:Int,(([0,1,7,8,255,x]:List Int).length:Int)=6:=fun _=>rfl
 have l2:(([-1,256]:List Int).length:Int)=2:=rfl
 have e5:=spec_pl1Cur_among.fc (pickC (ctxX c 8).2 30) [-1,256] (by simp) (by simp) (m:=4) (h4 0 h)
 rw [l2] at e5
 have h5:∀ m,CurOk c (m+40)→CurOk (pickC (pickC (ctxX c 8).2 30) 2) (m+4):=fun m hm=>pickC_ok (h4 m hm)
 generalize amongV (pickC (ctxX c 8).2 30) [-1,256]=z at e5
 generalize pickC (pickC (ctxX c 8).2 30) 2=v2 at e5 h5
 generalize pickC (ctxX c 8).2 30=v1 at f4 h4 e5
 have h81:(ctxX c 8).1.length=8:=hsl 8
 cases hb:(pickV (ctxX c 8).2 30 == 0)<;>rw [hb] at f4
 case false =>
  refine ctx_in (p:=(ctxX c 8).1) (v:=v1) ?_ h81 (fun m hm=>(h4 m hm).mono (by omega))
  refine fct_run spec_pl1Cur_ctx.ok rfl ?_
  simp only [go_sem]
  refine R_loop (α:=Nat) (fun k s' M'=>k≤8∧s' 4=aI k∧M'.m 0=some (.box 0 (curA (ctxX c k).2))∧∃ v,s' 3=.sl 832 v 0 k 1∧M'.m 832=some (.arr v true 1 ((ctxX c k).1.map Ii))) (fun k=>8 - k) 0
   ⟨Nat.zero_le _,by simp only [go_sem];try rfl,by simp only [go_sem];try rfl,_,by simp only [go_sem];try rfl,by simp only [go_sem];try rfl⟩ ?_
  rintro k s' M' ⟨hk,g5,gm,v,g3,gr⟩ ho
  unfold spec_pl1Cur_ctx.b0
  have j0:s' 0=.ptr 0 0 0 none:=by rw [ho 0 rfl];simp only [go_sem]
  clear ho
  by_cases hlt:k < 8
  · have hi':(k:Int) < 8:=by omega
    have hw:IntKind.i64.wrap (k+1)=((k+1:Nat):Int):=wrap_k hlt (by omega)
    have ok:=(h3 0 h k hk).mono (m:=4) (by omega)
    have e1:=spec_pl1Cur_pick.fc (ctxX c k).2 256 (m:=2) ok
    have hsu:=ctxX_succ c k
    have o1:CurOk (pickC (ctxX c k).2 256) 2:=pickC_ok ok
    generalize pickV (ctxX c k).2 256=x at e1 hsu
    generalize pickC (ctxX c k).2 256=c1 at e1 hsu o1
    have e2:=spec_pl1Cur_among.fc c1 [0,1,7,8,255,x] (by simp) (by simp) (m:=0) o1
    rw [l6] at e2
    generalize amongV c1 [0,1,7,8,255,x]=y at e2 hsu
    generalize pickC c1 6=c2 at e2 hsu
    have lk:=hsl k
    have hbb:(k+1) * 8≤70368744177664:=by omega
    have tk:((ctxX c k).1.map Ii).take k=(ctxX c k).1.map Ii:=List.take_of_length_le (by simp [lk])
    have sn:(ctxX c k).1.map Ii++[Ii y]=(ctxX c (k+1)).1.map Ii:=by rw [hsu];simp
    have s2:c2=(ctxX c (k+1)).2:=by rw [hsu]
    simp only [go_sem,hi',j0,g5,gm,g3,gr]
    refine coW_c e1 ?_
    simp only [go_sem,j0,g5,gm,g3,gr]
    refine coW_c e2 ?_
    simp only [go_sem,hw,hbb,tk,lk,j0,g5,gm,g3,gr]
    exact ⟨k+1,by dsimp only;omega,by omega,by simp only [go_sem,j0,g5,gm,g3,gr],by simp only [go_sem,j0,g5,gm,g3,gr];rw [← s2],_,by simp only [go_sem,j0,g5,gm,g3,gr];try rfl,by simp only [go_sem,j0,g5,gm,g3,gr];rw [← sn]⟩
  · obtain rfl:k=8:=by omega
    have c8:((8:Nat):Int)=8:=rfl
    have tk:((ctxX c 8).1.map Ii).take 8=(ctxX c 8).1.map Ii:=List.take_of_length_le (by simp [h81])
    simp only [go_sem,Int.lt_irrefl,c8,j0,g5,gm,g3,gr]
    refine coW_c f4 ?_
    simp only [go_sem,h81,tk,Nat.le_refl,j0,g5,gm,g3,gr];try rfl
 case true =>
  refine ctx_in (p:=(ctxX c 8).1.set 0 z) (v:=v2) ?_ (by simp [h81]) (fun m hm=>(h5 m hm).mono (by omega))
  refine fct_run spec_pl1Cur_ctx.ok rfl ?_
  simp only [go_sem]
  refine R_loop (α:=Nat) (fun k s' M'=>k≤8∧s' 4=aI k∧M'.m 0=some (.box 0 (curA (ctxX c k).2))∧∃ v,s' 3=.sl 832 v 0 k 1∧M'.m 832=some (.arr v true 1 ((ctxX c k).1.map Ii))) (fun k=>8 - k) 0
   ⟨Nat.zero_le _,by simp only [go_sem];try rfl,by simp only [go_sem];try rfl,_,by simp only [go_sem];try rfl,by simp only [go_sem];try rfl⟩ ?_
  rintro k s' M' ⟨hk,g5,gm,v,g3,gr⟩ ho
  unfold spec_pl1Cur_ctx.b0
  have j0:s' 0=.ptr 0 0 0 none:=by rw [ho 0 rfl];simp only [go_sem]
  clear ho
  by_cases hlt:k < 8
  · have hi':(k:Int) < 8:=by omega
    have hw:IntKind.i64.wrap (k+1)=((k+1:Nat):Int):=wrap_k hlt (by omega)
    have ok:=(h3 0 h k hk).mono (m:=4) (by omega)
    have e1:=spec_pl1Cur_pick.fc (ctxX c k).2 256 (m:=2) ok
    have hsu:=ctxX_succ c k
    have o1:CurOk (pickC (ctxX c k).2 256) 2:=pickC_ok ok
    generalize pickV (ctxX c k).2 256=x at e1 hsu
    generalize pickC (ctxX c k).2 256=c1 at e1 hsu o1
    have e2:=spec_pl1Cur_among.fc c1 [0,1,7,8,255,x] (by simp) (by simp) (m:=0) o1
    rw [l6] at e2
    generalize amongV c1 [0,1,7,8,255,x]=y at e2 hsu
    generalize pickC c1 6=c2 at e2 hsu
    have lk:=hsl k
    have hbb:(k+1) * 8≤70368744177664:=by omega
    have tk:((ctxX c k).1.map Ii).take k=(ctxX c k).1.map Ii:=List.take_of_length_le (by simp [lk])
    have sn:(ctxX c k).1.map Ii++[Ii y]=(ctxX c (k+1)).1.map Ii:=by rw [hsu];simp
    have s2:c2=(ctxX c (k+1)).2:=by rw [hsu]
    simp only [go_sem,hi',j0,g5,gm,g3,gr]
    refine coW_c e1 ?_
    simp only [go_sem,j0,g5,gm,g3,gr]
    refine coW_c e2 ?_
    simp only [go_sem,hw,hbb,tk,lk,j0,g5,gm,g3,gr]
    exact ⟨k+1,by dsimp only;omega,by omega,by simp only [go_sem,j0,g5,gm,g3,gr],by simp only [go_sem,j0,g5,gm,g3,gr];rw [← s2],_,by simp only [go_sem,j0,g5,gm,g3,gr];try rfl,by simp only [go_sem,j0,g5,gm,g3,gr];rw [← sn]⟩
  · obtain rfl:k=8:=by omega
    have c8:((8:Nat):Int)=8:=rfl
    have tk:((ctxX c 8).1.map Ii).take 8=(ctxX c 8).1.map Ii:=List.take_of_length_le (by simp [h81])
    simp only [go_sem,Int.lt_irrefl,c8,j0,g5,gm,g3,gr]
    refine coW_c f4 ?_
    simp only [go_sem,j0,g5,gm,g3,gr]
    refine coW_c e5 ?_
    have g0:(ctxX c 8).1[0]? = some ((ctxX c 8).1.getD 0 0):=getD_some (by omega)
    have ss:((ctxX c 8).1.map Ii).set 0 (.int .i64 z)=((ctxX c 8).1.set 0 z).map Ii:=by rw [List.map_set]
    have tk2:(((ctxX c 8).1.set 0 z).map Ii).take 8=((ctxX c 8).1.set 0 z).map Ii:=List.take_of_length_le (by simp [h81])
    have l3:((ctxX c 8).1.set 0 z).length=8:=by simp [h81]
    simp only [go_sem,c8,h81,g0,ss,tk2,l3,Nat.le_refl,j0,g5,gm,g3,gr];try rfl
def tmS (c:CurD):List StepD:=[⟨5,0,pickV c 2,2,pickV (pickC c 2) 8,0⟩,⟨7,0,pickV (pickC (pickC c 2) 8) 2,0,pickV (pickC (pickC (pickC c 2) 8) 2) 16,0⟩]
def tmC (c:CurD):CurD:=pickC (pickC (pickC (pickC c 2) 8) 2) 16
def tameX (c:CurD):Nat→List StepD×CurD
 | 0=>([],c)
 | k+1=>((tameX c k).1++tmS (tameX c k).2,tmC (tameX c k).2)
theorem tameX_succ (c:CurD) (k:Nat):tameX c (k+1)=((tameX c k).1++tmS (tameX c k).2,tmC (tameX c k).2):=rfl
theorem tameX_len (c:CurD):∀ k,(tameX c k).1.length=2 * k
 | 0=>rfl
 | k+1=>by rw [tameX_succ];simp [tameX_len c k,tmS];omega
theorem tmC_ok {c:CurD} {m:Nat} (h:CurOk c (m+8)):CurOk (tmC c) m:=pickC_ok (pickC_ok (pickC_ok (pickC_ok h)))
theorem tameX_ok {c:CurD} {m:Nat} (h:CurOk c (m+24)):∀ k,k≤3→CurOk (tameX c k).2 (m+8 * (3 - k))
 | 0,_=>h
 | k+1,hk=>by
  have ih:=tameX_ok h k (by omega)
  rw [tameX_succ]
  show CurOk (tmC (tameX c k).2) _
  exact tmC_ok (ih.mono (by omega))
theorem bd48 {a:Nat} (h:a≤100):a * 48≤70368744177664:=by omega
theorem tame_in {c:CurD} {p:List StepD} {v:CurD} (fc:FCt prog F_spec_pl1Cur_tame [.io] [.ptr c.d] (steps p) [.ptr (CurD.d v)]) (hl:p.length≤20) (ok:∀ m,CurOk c (m+60)→CurOk v m) :
 ∃ p c',p.length≤20∧(∀ m,CurOk c (m+60)→CurOk c' m)∧FCt prog F_spec_pl1Cur_tame [.io] [.ptr c.d] (steps p) [.ptr (CurD.d c')]:=⟨_,_,hl,ok,fc⟩
theorem tame_ex (c:CurD) (h:CurOk c 60):∃ p c',p.length≤20∧(∀ m,CurOk c (m+60)→CurOk c' m)∧FCt prog F_spec_pl1Cur_tame [.io] [.ptr c.d] (steps p) [.ptr (CurD.d c')]:=by
 have f1:=spec_pl1Cur_pick.fc c 4 (m:=58) h
 have h1:∀ m,CurOk c (m+60)→CurOk (pickC c 4) (m+58):=fun m hm=>pickC_ok hm
 have p1:=pickV_in (c:=c) (n:=4) (by omega)
 obtain ⟨n,hn⟩:∃ n:Nat,pickV c 4=(n:Int):=⟨(pickV c 4).toNat,by omega⟩
 rw [hn] at f1 p1
 have hn3:n≤3:=by omega
 generalize pickC c 4=c1 at f1 h1
 have h3:∀ m,CurOk c (m+60)→∀ k,k≤n→CurOk (tameX c1 k).2 (m+34+8 * (3 - k)):=fun m hm k hk=>tameX_ok ((h1 m hm).mono (by omega)) k (by omega)
 have hsl:=tameX_len c1
 have h4:∀ m,CurOk c (m+60)→CurOk (tameX c1 n).2 (m+34):=fun m hm=>(h3 m hm n (Nat.le_refl _)).mono (by omega)
 have e1:=spec_pl1Cur_one.fc (tameX c1 n).2 2 (m:=32) (h4 0 h)
 have h5:∀ m,CurOk c (m+60)→CurOk (pickC (tameX c1 n).2 2) (m+32):=fun m hm=>pickC_ok (h4 m hm)
 generalize (pickV (tameX c1 n).2 2 == 0)=b1 at e1
 generalize pickC (tameX c1 n).2 2=c2 at e1 h5
 have l4:(([5,6,7,9]:List Int).length:Int)=4:=rfl
 have l3:(([3,7,15]:List Int).length:Int)=3:=rfl
 have e2:=spec_pl1Cur_among.fc c2 [5,6,7,9] (by simp) (by simp) (m:=30) (h5 0 h)
 rw [l4] at e2
 have h6:∀ m,CurOk c (m+60)→CurOk (pickC c2 4) (m+30):=fun m hm=>pickC_ok (h5 m hm)
 generalize amongV c2 [5,6,7,9]=x2 at e2
 generalize pickC c2 4=c3 at e2 h6
 have e3:=spec_pl1Cur_pick.fc c3 3 (m:=28) (h6 0 h)
 have h7:∀ m,CurOk c (m+60)→CurOk (pickC c3 3) (m+28):=fun m hm=>pickC_ok (h6 m hm)
 generalize pickV c3 3=x3 at e3
 generalize pickC c3 3=c4 at e3 h7
 obtain ⟨q1,d1,hq1,hd1,hl1⟩:∃ q1 d1,q1=(if b1 then [(⟨5,0,1,2,0,0⟩:StepD),⟨3,0,3,0,x2,0⟩,⟨10,0,1,3,0,1⟩,⟨11,0,0,0,0,0⟩,⟨5,0,0,1,x3,0⟩] else [])∧d1=(if b1 then c4 else c2)∧q1.length≤5:=⟨_,_,rfl,rfl,by split<;>simp⟩
 have h8:∀ m,CurOk c (m+60)→CurOk d1 (m+28):=fun m hm=>by rw [hd1];split;exact h7 m hm;exact (h5 m hm).mono (by omega)
 have e4:=spec_pl1Cur_one.fc d1 3 (m:=26) (h8 0 h)
 have h9:∀ m,CurOk c (m+60)→CurOk (pickC d1 3) (m+26):=fun m hm=>pickC_ok (h8 m hm)
 generalize (pickV d1 3 == 0)=b2 at e4
 generalize pickC d1 3=c5 at e4 h9
 have e5:=spec_pl1Cur_among.fc c5 [3,7,15] (by simp) (by simp) (m:=24) (h9 0 h)
 rw [l3] at e5
 have h10:∀ m,CurOk c (m+60)→CurOk (pickC c5 3) (m+24):=fun m hm=>pickC_ok (h9 m hm)
 generalize amongV c5 [3,7,15]=x5 at e5
 generalize pickC c5 3=c6 at e5 h10
 obtain ⟨q2,d2,hq2,hd2,hl2⟩:∃ q2 d2,q2=(if b2 then [(⟨2,6,1,0,x5,0⟩:StepD),⟨5,0,0,1,0,0⟩] else [])∧d2=(if b2 then c6 else c5)∧q2.length≤2:=⟨_,_,rfl,rfl,by split<;>simp⟩
 have h11:∀ m,CurOk c (m+60)→CurOk d2 m:=fun m hm=>by rw [hd2];split;exact (h10 m hm).mono (by omega);exact (h9 m hm).mono (by omega)
 have hT:=hsl n
 refine tame_in (p:=(tameX c1 n).1++q1++q2++[(⟨11,0,0,0,0,0⟩:StepD)]) (v:=d2) ?_ (by simp [hT];omega) h11
 refine fct_run spec_pl1Cur_tame.ok rfl ?_
 simp only [go_sem]
 refine coW_c f1 ?_
 simp only [go_sem]
 refine R_loop (α:=Nat) (fun k s' M'=>k≤n∧s' 4=aI ((n - k:Nat):Int)∧M'.m 0=some (.box 0 (curA (tameX c1 k).2))∧∃ v,s' 3=.sl 960 v 0 (2 * k) 6∧M'.m 960=some (.arr v true 6 ((tameX c1 k).1.map StepD.d))) (fun k=>n - k) 0
  ⟨Nat.zero_le _,by simp only [go_sem];try rfl,by simp only [go_sem];try rfl,_,by simp only [go_sem];try rfl,by simp only [go_sem];try rfl⟩ ?_
 rintro k s' M' ⟨hk,g4,gm,v,g3,gr⟩ ho
 unfold spec_pl1Cur_tame.b0
 have j0:s' 0=.ptr 0 0 0 none:=by rw [ho 0 rfl];simp only [go_sem]
 clear ho
 by_cases hlt:k < n
 · have hi':((n - k:Nat):Int) > 0:=by omega
   have hw:IntKind.i64.wrap (((n - k:Nat):Int) - 1)=((n - (k+1):Nat):Int):=by rw [wrap_in (by omega) (by omega)];omega
   have ok:=h3 0 h k hk
   have hsu:=tameX_succ c1 k
   have a1:=spec_pl1Cur_pick.fc (tameX c1 k).2 2 (m:=6) (ok.mono (by omega))
   have o1:CurOk (pickC (tameX c1 k).2 2) 6:=pickC_ok (ok.mono (by omega))
   have a2:=spec_pl1Cur_pick.fc (pickC (tameX c1 k).2 2) 8 (m:=4) o1
   have o2:CurOk (pickC (pickC (tameX c1 k).2 2) 8) 4:=pickC_ok o1
   have a3:=spec_pl1Cur_pick.fc (pickC (pickC (tameX c1 k).2 2) 8) 2 (m:=2) o2
   have o3:CurOk (pickC (pickC (pickC (tameX c1 k).2 2) 8) 2) 2:=pickC_ok o2
   have a4:=spec_pl1Cur_pick.fc (pickC (pickC (pickC (tameX c1 k).2 2) 8) 2) 16 (m:=0) o3
   unfold tmS tmC at hsu
   generalize pickV (tameX c1 k).2 2=y1 at a1 hsu
   generalize pickV (pickC (tameX c1 k).2 2) 8=y2 at a2 hsu
   generalize pickV (pickC (pickC (tameX c1 k).2 2) 8) 2=y3 at a3 hsu
   generalize pickV (pickC (pickC (pickC (tameX c1 k).2 2) 8) 2) 16=y4 at a4 hsu
   generalize pickC (pickC (pickC (pickC (tameX c1 k).2 2) 8) 2) 16=z4 at a4 hsu
   generalize pickC (pickC (pickC (tameX c1 k).2 2) 8) 2=z3 at a3 a4
   generalize pickC (pickC (tameX c1 k).2 2) 8=z2 at a2 a3
   generalize pickC (tameX c1 k).2 2=z1 at a1 a2
   have lk:=hsl k
   have hk3:k≤3:=by omega
   have hbb:(2 * k+1) * 48≤70368744177664:=bd48 (by omega)
   have hbb2:(2 * k+1+1) * 48≤70368744177664:=bd48 (by omega)
   have tk:((tameX c1 k).1.map StepD.d).take (2 * k)=(tameX c1 k).1.map StepD.d:=List.take_of_length_le (by simp [lk])
   have sn:(tameX c1 k).1.map StepD.d++[StepD.d ⟨5,0,y1,2,y2,0⟩]=((tameX c1 k).1++[(⟨5,0,y1,2,y2,0⟩:StepD)]).map StepD.d:=by simp
   have ls:((tameX c1 k).1++[(⟨5,0,y1,2,y2,0⟩:StepD)]).length=2 * k+1:=by simp [lk]
   have tk1:(((tameX c1 k).1++[(⟨5,0,y1,2,y2,0⟩:StepD)]).map StepD.d).take (2 * k+1)=((tameX c1 k).1++[(⟨5,0,y1,2,y2,0⟩:StepD)]).map StepD.d:=List.take_of_length_le (by simp [lk])
   have sn2:((tameX c1 k).1++[(⟨5,0,y1,2,y2,0⟩:StepD)]).map StepD.d++[StepD.d ⟨7,0,y3,0,y4,0⟩]=(tameX c1 (k+1)).1.map StepD.d:=by rw [hsu];simp
   have s2:z4=(tameX c1 (k+1)).2:=by rw [hsu]
   have l2k:2 * k+1+1=2 * (k+1):=by omega
   simp only [go_sem,hi',j0,g4,gm,g3,gr]
   refine coW_c a1 ?_
   simp only [go_sem,j0,g4,gm,g3,gr]
   refine coW_c a2 ?_
   simp only [go_sem,hbb,tk,lk,sn,j0,g4,gm,g3,gr]
   refine coW_c a3 ?_
   simp only [go_sem,j0,g4,gm,g3,gr]
   refine coW_c a4 ?_
   simp only [go_sem,hbb2,tk1,ls,Nat.le_refl,hw,j0,g4,gm,g3,gr]
   exact ⟨k+1,by dsimp only;omega,by omega,by simp only [go_sem,j0,g4,gm,g3,gr],by simp only [go_sem,j0,g4,gm,g3,gr];rw [← s2],_,by simp only [go_sem,j0,g4,gm,g3,gr];try rfl,by simp only [go_sem,j0,g4,gm,g3,gr];rw [← sn2]⟩
 · obtain rfl:k=n:=by omega
   have z0:¬ ((k - k:Nat):Int) > 0:=by omega
   have lk:=hsl k
   have tk:((tameX c1 k).1.map StepD.d).take (2 * k)=(tameX c1 k).1.map StepD.d:=List.take_of_length_le (by simp [lk])
   generalize (tameX c1 k).1=T at lk tk gr ⊢
   have gen:∀ (A B:List StepD),A.map StepD.d++B.map StepD.d=(A++B).map StepD.d:=fun A B=>by simp
   have tkn:∀ (A:List StepD) (n:Nat),A.length=n→(A.map StepD.d).take n=A.map StepD.d:=fun A n h=>List.take_of_length_le (by simp [h])
   simp only [go_sem,z0,j0,g4,gm,g3,gr]
   refine coW_c e1 ?_
   cases b1
   · simp only [Bool.false_eq_true,if_false] at hq1 hd1
     subst hq1
     subst hd1
     simp only [go_sem,j0,g4,gm,g3,gr]
     refine coW_c e4 ?_
     cases b2
     · simp only [Bool.false_eq_true,if_false] at hq2 hd2
       subst hq2
       subst hd2
       have gx:=gen (T) [(⟨11,0,0,0,0,0⟩:StepD)]
       simp only [List.map_cons,List.map_nil] at gx
       have bx:(2 * k+1) * 48≤70368744177664:=bd48 (by omega)
       have lx:(T).length=2 * k:=by simp [lk]
       have tx:=tkn (T) (2 * k) lx
       have lz:(T++[(⟨11,0,0,0,0,0⟩:StepD)]).length=2 * k+1:=by simp [lk]
       have tz:=tkn (T++[(⟨11,0,0,0,0,0⟩:StepD)]) (2 * k+1) lz
       simp only [go_sem,bx,lx,tx,gx,lz,tz,Nat.le_refl,j0,g4,gm,g3,gr]
       try simp
     · simp only [if_true] at hq2 hd2
       subst hq2
       subst hd2
       simp only [go_sem,j0,g4,gm,g3,gr]
       refine coW_c e5 ?_
       have g2:=gen (T) [(⟨2,6,1,0,x5,0⟩:StepD),⟨5,0,0,1,0,0⟩]
       simp only [List.map_cons,List.map_nil] at g2
       have b2:(2 * k+2) * 48≤70368744177664:=bd48 (by omega)
       have l2:(T).length=2 * k:=by simp [lk]
       have t2:=tkn (T) (2 * k) l2
       have l2z:(T++[(⟨2,6,1,0,x5,0⟩:StepD),⟨5,0,0,1,0,0⟩]).length=2 * k+2:=by simp [lk]
       simp only [go_sem,b2,l2,t2,g2,l2z,j0,g4,gm,g3,gr]
       have gx:=gen (T++[(⟨2,6,1,0,x5,0⟩:StepD),⟨5,0,0,1,0,0⟩]) [(⟨11,0,0,0,0,0⟩:StepD)]
       simp only [List.map_cons,List.map_nil] at gx
       have bx:(2 * k+2+1) * 48≤70368744177664:=bd48 (by omega)
       have lx:(T++[(⟨2,6,1,0,x5,0⟩:StepD),⟨5,0,0,1,0,0⟩]).length=2 * k+2:=by simp [lk]
       have tx:=tkn (T++[(⟨2,6,1,0,x5,0⟩:StepD),⟨5,0,0,1,0,0⟩]) (2 * k+2) lx
       have lz:(T++[(⟨2,6,1,0,x5,0⟩:StepD),⟨5,0,0,1,0,0⟩]++[(⟨11,0,0,0,0,0⟩:StepD)]).length=2 * k+2+1:=by simp [lk]
       have tz:=tkn (T++[(⟨2,6,1,0,x5,0⟩:StepD),⟨5,0,0,1,0,0⟩]++[(⟨11,0,0,0,0,0⟩:StepD)]) (2 * k+2+1) lz
       simp only [go_sem,bx,lx,tx,gx,lz,tz,Nat.le_refl,j0,g4,gm,g3,gr]
       try simp
   · simp only [if_true] at hq1 hd1
     subst hq1
     subst hd1
     simp only [go_sem,j0,g4,gm,g3,gr]
     refine coW_c e2 ?_
     simp only [go_sem,j0,g4,gm,g3,gr]
     refine coW_c e3 ?_
     have g1:=gen T [(⟨5,0,1,2,0,0⟩:StepD),⟨3,0,3,0,x2,0⟩,⟨10,0,1,3,0,1⟩,⟨11,0,0,0,0,0⟩,⟨5,0,0,1,x3,0⟩]
     have hb5:(2 * k+5) * 48≤70368744177664:=by omega
     have l5:(T++[(⟨5,0,1,2,0,0⟩:StepD),⟨3,0,3,0,x2,0⟩,⟨10,0,1,3,0,1⟩,⟨11,0,0,0,0,0⟩,⟨5,0,0,1,x3,0⟩]).length=2 * k+5:=by simp [lk]
     simp only [List.map_cons,List.map_nil] at g1
     simp only [go_sem,hb5,tk,lk,g1,l5,j0,g4,gm,g3,gr]
     have l5z:=l5
     refine coW_c e4 ?_
     cases b2
     · simp only [Bool.false_eq_true,if_false] at hq2 hd2
       subst hq2
       subst hd2
       have gx:=gen (T++[(⟨5,0,1,2,0,0⟩:StepD),⟨3,0,3,0,x2,0⟩,⟨10,0,1,3,0,1⟩,⟨11,0,0,0,0,0⟩,⟨5,0,0,1,x3,0⟩]) [(⟨11,0,0,0,0,0⟩:StepD)]
       simp only [List.map_cons,List.map_nil] at gx
       have bx:(2 * k+5+1) * 48≤70368744177664:=bd48 (by omega)
       have lx:(T++[(⟨5,0,1,2,0,0⟩:StepD),⟨3,0,3,0,x2,0⟩,⟨10,0,1,3,0,1⟩,⟨11,0,0,0,0,0⟩,⟨5,0,0,1,x3,0⟩]).length=2 * k+5:=by simp [lk]
       have tx:=tkn (T++[(⟨5,0,1,2,0,0⟩:StepD),⟨3,0,3,0,x2,0⟩,⟨10,0,1,3,0,1⟩,⟨11,0,0,0,0,0⟩,⟨5,0,0,1,x3,0⟩]) (2 * k+5) lx
       have lz:(T++[(⟨5,0,1,2,0,0⟩:StepD),⟨3,0,3,0,x2,0⟩,⟨10,0,1,3,0,1⟩,⟨11,0,0,0,0,0⟩,⟨5,0,0,1,x3,0⟩]++[(⟨11,0,0,0,0,0⟩:StepD)]).length=2 * k+5+1:=by simp [lk]
       have tz:=tkn (T++[(⟨5,0,1,2,0,0⟩:StepD),⟨3,0,3,0,x2,0⟩,⟨10,0,1,3,0,1⟩,⟨11,0,0,0,0,0⟩,⟨5,0,0,1,x3,0⟩]++[(⟨11,0,0,0,0,0⟩:StepD)]) (2 * k+5+1) lz
       simp only [go_sem,bx,lx,tx,gx,lz,tz,Nat.le_refl,j0,g4,gm,g3,gr]
       try simp
     · simp only [if_true] at hq2 hd2
       subst hq2
       subst hd2
       simp only [go_sem,j0,g4,gm,g3,gr]
       refine coW_c e5 ?_
       have g2:=gen (T++[(⟨5,0,1,2,0,0⟩:StepD),⟨3,0,3,0,x2,0⟩,⟨10,0,1,3,0,1⟩,⟨11,0,0,0,0,0⟩,⟨5,0,0,1,x3,0⟩]) [(⟨2,6,1,0,x5,0⟩:StepD),⟨5,0,0,1,0,0⟩]
       simp only [List.map_cons,List.map_nil] at g2
       have b2:(2 * k+5+2) * 48≤70368744177664:=bd48 (by omega)
       have l2:(T++[(⟨5,0,1,2,0,0⟩:StepD),⟨3,0,3,0,x2,0⟩,⟨10,0,1,3,0,1⟩,⟨11,0,0,0,0,0⟩,⟨5,0,0,1,x3,0⟩]).length=2 * k+5:=by simp [lk]
       have t2:=tkn (T++[(⟨5,0,1,2,0,0⟩:StepD),⟨3,0,3,0,x2,0⟩,⟨10,0,1,3,0,1⟩,⟨11,0,0,0,0,0⟩,⟨5,0,0,1,x3,0⟩]) (2 * k+5) l2
       have l2z:(T++[(⟨5,0,1,2,0,0⟩:StepD),⟨3,0,3,0,x2,0⟩,⟨10,0,1,3,0,1⟩,⟨11,0,0,0,0,0⟩,⟨5,0,0,1,x3,0⟩]++[(⟨2,6,1,0,x5,0⟩:StepD),⟨5,0,0,1,0,0⟩]).length=2 * k+5+2:=by simp [lk]
       simp only [go_sem,b2,l2,t2,g2,l2z,j0,g4,gm,g3,gr]
       have gx:=gen (T++[(⟨5,0,1,2,0,0⟩:StepD),⟨3,0,3,0,x2,0⟩,⟨10,0,1,3,0,1⟩,⟨11,0,0,0,0,0⟩,⟨5,0,0,1,x3,0⟩]++[(⟨2,6,1,0,x5,0⟩:StepD),⟨5,0,0,1,0,0⟩]) [(⟨11,0,0,0,0,0⟩:StepD)]
       simp only [List.map_cons,List.map_nil] at gx
       have bx:(2 * k+5+2+1) * 48≤70368744177664:=bd48 (by omega)
       have lx:(T++[(⟨5,0,1,2,0,0⟩:StepD),⟨3,0,3,0,x2,0⟩,⟨10,0,1,3,0,1⟩,⟨11,0,0,0,0,0⟩,⟨5,0,0,1,x3,0⟩]++[(⟨2,6,1,0,x5,0⟩:StepD),⟨5,0,0,1,0,0⟩]).length=2 * k+5+2:=by simp [lk]
       have tx:=tkn (T++[(⟨5,0,1,2,0,0⟩:StepD),⟨3,0,3,0,x2,0⟩,⟨10,0,1,3,0,1⟩,⟨11,0,0,0,0,0⟩,⟨5,0,0,1,x3,0⟩]++[(⟨2,6,1,0,x5,0⟩:StepD),⟨5,0,0,1,0,0⟩]) (2 * k+5+2) lx
       have lz:(T++[(⟨5,0,1,2,0,0⟩:StepD),⟨3,0,3,0,x2,0⟩,⟨10,0,1,3,0,1⟩,⟨11,0,0,0,0,0⟩,⟨5,0,0,1,x3,0⟩]++[(⟨2,6,1,0,x5,0⟩:StepD),⟨5,0,0,1,0,0⟩]++[(⟨11,0,0,0,0,0⟩:StepD)]).length=2 * k+5+2+1:=by simp [lk]
       have tz:=tkn (T++[(⟨5,0,1,2,0,0⟩:StepD),⟨3,0,3,0,x2,0⟩,⟨10,0,1,3,0,1⟩,⟨11,0,0,0,0,0⟩,⟨5,0,0,1,x3,0⟩]++[(⟨2,6,1,0,x5,0⟩:StepD),⟨5,0,0,1,0,0⟩]++[(⟨11,0,0,0,0,0⟩:StepD)]) (2 * k+5+2+1) lz
       simp only [go_sem,bx,lx,tx,gx,lz,tz,Nat.le_refl,j0,g4,gm,g3,gr]
       try simp
theorem noRs_ub {l:List Int}:noRs (.sl 1 (l.map Ub))=true:=noRs_sl (by
 intro d hd
 obtain ⟨x,_,rfl⟩:=List.mem_map.1 hd
 rfl)
theorem impl_Step_bytes.fc (x:StepD) (hv:stepB x=true):FCt prog F_impl_Step_bytes [.ro] [x.d] (.sl 1 ((encI x).map Ub)) []:=by
 refine fct_run impl_Step_bytes.ok rfl ?_
 have ok:=step_ok hv
 obtain ⟨k,op,dst,src,imm,to⟩:=x
 obtain ⟨ki,od,os,oi,oo,ot,_,_⟩:=ok
 dsimp only at *
 have w1:IntKind.i64.wrap (16 * op)=16 * op:=wrap_in (by omega) (by omega)
 have w2:IntKind.i64.wrap (k+16 * op)=k+16 * op:=wrap_in (by omega) (by omega)
 have w3:IntKind.i64.wrap (16 * dst)=16 * dst:=wrap_in (by omega) (by omega)
 have w4:IntKind.i64.wrap (16 * dst+src)=16 * dst+src:=wrap_in (by omega) (by omega)
 have w5:Int.tmod imm 256=imm % 256:=Int.tmod_eq_emod_of_nonneg oi.1
 have w6:IntKind.i64.wrap (Int.tdiv imm 256)=imm / 256:=by rw [Int.tdiv_eq_ediv_of_nonneg oi.1];exact wrap_in (by omega) (by omega)
 unfold encI w8
 dsimp only
 cases hk:(k == 4)<;>repeat' (first|with_reducible rfl|with_reducible refine cdW_dec (fun _=>?_) (fun _=>?_)|refine cdW_not (fun _=>?_) (fun _=>?_)|refine cdW_any (fun _=>?_) (fun _=>?_)|with_reducible refine gdW_decT (fun _=>?_) (fun _=>?_)|with_reducible refine gdW_decF (fun _=>?_) (fun _=>?_)|refine gdW_not (fun _=>?_) (fun _=>?_)|refine gdW_any (fun _=>?_) (fun _=>?_)|simp only [go_sem,bne,iQ,iB,iX,Int.reduceLE,iN,iA,iS,iM, *]|rfl)
theorem spec_l2Bytes.fc (x:StepD) (hv:stepB x=true):FCt prog F_spec_l2Bytes [.ro] [x.d] (.str (strL (encU x))) []:=by
 refine fct_run spec_l2Bytes.ok rfl ?_
 have ok:=step_ok hv
 obtain ⟨k,op,dst,src,imm,to⟩:=x
 obtain ⟨ki,od,os,oi,oo,ot,_,_⟩:=ok
 dsimp only at *
 have w1:IntKind.i64.wrap (16 * op)=16 * op:=wrap_in (by omega) (by omega)
 have w2:IntKind.i64.wrap (k+16 * op)=k+16 * op:=wrap_in (by omega) (by omega)
 have w3:IntKind.i64.wrap (16 * dst)=16 * dst:=wrap_in (by omega) (by omega)
 have w4:IntKind.i64.wrap (16 * dst+src)=16 * dst+src:=wrap_in (by omega) (by omega)
 have w5:Int.tmod imm 256=imm % 256:=Int.tmod_eq_emod_of_nonneg oi.1
 have w6:IntKind.i64.wrap (Int.tdiv imm 256)=imm / 256:=by rw [Int.tdiv_eq_ediv_of_nonneg oi.1];exact wrap_in (by omega) (by omega)
 unfold encU encI w8
 dsimp only
 cases hk:(k == 4)<;>repeat' (first|with_reducible rfl|with_reducible refine cdW_dec (fun _=>?_) (fun _=>?_)|refine cdW_not (fun _=>?_) (fun _=>?_)|refine cdW_any (fun _=>?_) (fun _=>?_)|with_reducible refine gdW_decT (fun _=>?_) (fun _=>?_)|with_reducible refine gdW_decF (fun _=>?_) (fun _=>?_)|refine gdW_not (fun _=>?_) (fun _=>?_)|refine gdW_any (fun _=>?_) (fun _=>?_)|simp only [go_sem,bne,iQ,iB,iX,Int.reduceLE,iN,iA,iS,iM, *]|rfl)
theorem bt16 (l:List UInt8) (i:Nat):Int.tmod (bt l i) 16=bt l i % 16:=Int.tmod_eq_emod_of_nonneg (bt_in l i).1
theorem bt16q (l:List UInt8) (i:Nat):IntKind.u8.wrap (Int.tdiv (bt l i) 16)=bt l i / 16:=by
 have:=bt_in l i
 rw [Int.tdiv_eq_ediv_of_nonneg this.1]
 simp [IntKind.wrap,IntKind.signed,IntKind.bits]
 omega
theorem bt_w (l:List UInt8) (i:Nat):IntKind.i64.wrap (bt l i)=bt l i:=by have:=bt_in l i;exact wrap_in (by omega) (by omega)
theorem bt_w1 (l:List UInt8) (i:Nat):IntKind.i64.wrap (bt l i % 16)=bt l i % 16:=by have:=bt_in l i;exact wrap_in (by omega) (by omega)
theorem bt_w2 (l:List UInt8) (i:Nat):IntKind.i64.wrap (bt l i / 16)=bt l i / 16:=by have:=bt_in l i;exact wrap_in (by omega) (by omega)
theorem bt_w3 (l:List UInt8) (i:Nat):IntKind.i64.wrap (256 * bt l i)=256 * bt l i:=by have:=bt_in l i;exact wrap_in (by omega) (by omega)
theorem bt_w4 (l:List UInt8) (i j:Nat):IntKind.i64.wrap (bt l i+256 * bt l j)=bt l i+256 * bt l j:=by have:=bt_in l i;have:=bt_in l j;exact wrap_in (by omega) (by omega)
theorem strL_bt (l:List UInt8) (i:Nat) (h:i < (strL l).size):(((strL l)[i]'h).toNat:Int)=bt l i:=by rw [strL_at];rfl
theorem ub_sc (l:List Int):(l.map Ub).all isSc=true:=by rw [List.all_eq_true];intro d hd;obtain ⟨x,_,rfl⟩:=List.mem_map.1 hd;rfl
theorem impl_ReadProgram.fc (l0:List UInt8) (hl0:l0.length≤4194304):FCt prog F_impl_ReadProgram [.ro] [.str (strL l0)] (readD (readV l0)) []:=by
 refine fct_run impl_ReadProgram.ok rfl ?_
 unfold readD readV
 have sz0:=strL_len l0
 by_cases h160:l0.length > 160
 · have h:(l0.length:Int) > 160:=by omega
   simp only [go_sem,sz0,h]
   rw [if_pos h160]
   try rfl
 · have h:¬ (l0.length:Int) > 160:=by omega
   rw [if_neg h160]
   generalize hR:readN l0.length l0 []=R
   simp only [go_sem,sz0,h]
   refine R_loop (α:=Nat×List UInt8×List StepD) (fun a s' M'=>a.2.1.length≤a.1∧a.1≤160∧a.2.2.length+a.1≤160∧readN a.1 a.2.1 a.2.2=R∧s' 0=.dat none (.str (strL a.2.1))∧∃ v,s' 5=.sl 5120 v 0 a.2.2.length 6∧M'.m 5120=some (.arr v true 6 (a.2.2.map StepD.d)))
    (fun a=>a.1) (l0.length,l0,[]) ⟨Nat.le_refl _,by dsimp only;omega,by simp only [List.length_nil];omega,hR,by simp only [go_sem],_,by simp only [go_sem];try rfl,by simp only [go_sem];try rfl⟩ ?_
   rintro ⟨n,l,p⟩ s' M' ⟨hn,hn2,hp,hr,h0,v,h5,hm⟩ ho
   dsimp only at hn hn2 hp hr h0 h5 hm
   unfold impl_ReadProgram.b0
   clear ho
   have e0:((strL l).toList == (ByteArray.mk #[]).toList)=decide (l=[]):=str_eq l []
   have sz:=strL_len l
   by_cases hnil:l=[]
   · subst hnil
     rw [readN_end] at hr
     subst hr
     rw [decide_eq_true rfl] at e0
     simp only [go_sem,e0,h0,h5,hm]
     have cg:=impl_GoodProgram.fc p (by omega)
     simp only [go_sem,take_map_len,h0,h5,hm]
     refine fcW_bool cg ?_
     unfold readE
     cases hg:goodP p with
     | true=>simp only [go_sem,take_map_len,h0,h5,hm];try rfl
     | false=>simp only [go_sem,h0,h5,hm];try rfl
   · rw [decide_eq_false hnil] at e0
     have hpos:0 < l.length:=by cases l with|nil=>exact absurd rfl hnil|cons a b=>simp
     obtain ⟨m,rfl⟩:∃ m,n=m+1:=⟨n - 1,by omega⟩
     rw [readN_succ,if_neg (by omega)] at hr
     have c0:(0:Int) < l.length:=by omega
     have at_:∀ i h,(((strL l)[i]'h).toNat:Int)=bt l i:=strL_bt l
     have b16:=bt16 l
     have b16q:=bt16q l
     have bw:=bt_w l
     have bw1:=bt_w1 l
     have bw2:=bt_w2 l
     have bw3:=bt_w3 l
     have bw4:=bt_w4 l
     have hwd:(bt l 0 % 16 == 4)=wideU l:=rfl
     have hlu:=longU_in l
     have cv:=impl_Step_valid.fc (stepU l)
     rw [valid_step] at cv
     have hbb:(p.length+1) * 48≤70368744177664:=by omega
     have sn:p.map StepD.d++[(stepU l).d]=(p++[stepU l]).map StepD.d:=by simp
     have tk:(p.map StepD.d).take p.length=p.map StepD.d:=List.take_of_length_le (by simp)
     have el:(p++[stepU l]).length=p.length+1:=by simp
     have hsd:(stepU l).d=(stepU l).d:=rfl
     cases hwi:wideU l with
     | false =>
      have hlo:longU l=4:=by unfold longU;rw [hwi];rfl
      rw [hlo] at hr
      by_cases h4:l.length < 4
      · have h4':(l.length:Int) < 4:=by omega
        rw [if_pos h4] at hr
        subst hr
        unfold readE
        simp only [go_sem,hwi,h4',h0,h5,hm,↓reduceDIte,iQ,iB,e0,sz,c0,at_,b16,b16q,bw,bw1,bw2,bw3,bw4,hwd];try rfl
      · have h4':¬ (l.length:Int) < 4:=by omega
        rw [if_neg h4] at hr
        have c1:(1:Int) < l.length:=by omega
        have c2:(2:Int) < l.length:=by omega
        have c3:(3:Int) < l.length:=by omega
        have hd:(stepU l).d=.agg [.int .i64 (bt l 0 % 16),.int .i64 (bt l 0 / 16),.int .i64 (bt l 1 / 16),.int .i64 (bt l 1 % 16),.int .i64 (bt l 3),.int .i64 (bt l 2)]:=by unfold stepU;rw [hwi];rfl
        simp only [go_sem,hwi,h4',c1,c2,c3,h0,h5,hm,↓reduceDIte,iQ,iB,e0,sz,c0,at_,b16,b16q,bw,bw1,bw2,bw3,bw4,hwd]
        rw [← hd]
        refine fcW_bool cv ?_
        cases hst:stepB (stepU l) with
        | false =>
         have hok:okU l=false:=by unfold okU;rw [hst];rfl
         rw [hok] at hr
         simp only [Bool.false_eq_true,if_false] at hr
         subst hr
         unfold readE
         simp only [go_sem,h0,h5,hm,↓reduceDIte,iQ,iB,e0,sz,c0,at_,b16,b16q,bw,bw1,bw2,bw3,bw4,hwd];try rfl
        | true =>
         have cb:=impl_Step_bytes.fc (stepU l) hst
         simp only [go_sem,h0,h5,hm,↓reduceDIte,iQ,iB,e0,sz,c0,at_,b16,b16q,bw,bw1,bw2,bw3,bw4,hwd]
         rw [← hd]
         refine fcW_bd cb noRs_ub ?_
         have ecmp:((ByteArray.mk (((encI (stepU l)).map fun n=>UInt8.ofNat n.toNat).toArray)).toList == ((strL l).extract 0 4).toList)=decide (encU (stepU l)=l.take 4):=by
          rw [strL_ext,List.drop_zero]
          exact str_eq (encU (stepU l)) (l.take 4)
         have hok:okU l=decide (encU (stepU l)=l.take 4):=by unfold okU;rw [hst,hlo];rfl
         have tkb:((encI (stepU l)).map Ub).take (encI (stepU l)).length=(encI (stepU l)).map Ub:=List.take_of_length_le (by simp)
         have ubs:=ub_sc (encI (stepU l))
         have bo:=bytesOf_ub (encI (stepU l))
         have ln:(4:Int)≤l.length∧(4:Int)≤l.length:=by omega
         cases hq:decide (encU (stepU l)=l.take 4) with
         | false =>
          rw [hq] at ecmp hok
          rw [hok] at hr
          simp only [Bool.false_eq_true,if_false] at hr
          subst hr
          unfold readE
          simp only [go_sem,List.length_map,tkb,ubs,bo,ln.1,ln.2,ecmp,h0,h5,hm,↓reduceDIte,iQ,iB,e0,sz,c0,at_,b16,b16q,bw,bw1,bw2,bw3,bw4,hwd];try rfl
         | true =>
          rw [hq] at ecmp hok
          rw [hok] at hr
          simp only [if_true] at hr
          have ex:(strL l).extract 4 l.length=strL (l.drop 4):=by rw [strL_ext,List.take_length]
          simp only [go_sem,List.length_map,tkb,ubs,bo,ln.1,ln.2,ecmp,hbb,tk,ex,Int.le_refl,h0,h5,hm,↓reduceDIte,iQ,iB,e0,sz,c0,at_,b16,b16q,bw,bw1,bw2,bw3,bw4,hwd]
          exact ⟨(m,l.drop 4,p++[stepU l]),by dsimp only;omega,by simp only [List.length_drop];omega,by dsimp only;omega,by simp only [List.length_append,List.length_singleton];omega,hr,by simp only [go_sem,h0,h5,hm,↓reduceDIte,iQ,iB,e0,sz,c0,at_,b16,b16q,bw,bw1,bw2,bw3,bw4,hwd],_,by simp only [go_sem,el,h0,h5,hm,↓reduceDIte,iQ,iB,e0,sz,c0,at_,b16,b16q,bw,bw1,bw2,bw3,bw4,hwd];try rfl,by simp only [go_sem,h0,h5,hm,↓reduceDIte,iQ,iB,e0,sz,c0,at_,b16,b16q,bw,bw1,bw2,bw3,bw4,hwd];rw [← hd,sn]⟩
     | true =>
      have hlo:longU l=8:=by unfold longU;rw [hwi];rfl
      rw [hlo] at hr
      by_cases h4:l.length < 8
      · have h4':(l.length:Int) < 8:=by omega
        rw [if_pos h4] at hr
        subst hr
        unfold readE
        simp only [go_sem,hwi,h4',h0,h5,hm,↓reduceDIte,iQ,iB,e0,sz,c0,at_,b16,b16q,bw,bw1,bw2,bw3,bw4,hwd];try rfl
      · have h4':¬ (l.length:Int) < 8:=by omega
        rw [if_neg h4] at hr
        have c1:(1:Int) < l.length:=by omega
        have c2:(2:Int) < l.length:=by omega
        have c3:(3:Int) < l.length:=by omega
        have c7:(7:Int) < l.length:=by omega
        have hd:(stepU l).d=.agg [.int .i64 (bt l 0 % 16),.int .i64 (bt l 0 / 16),.int .i64 (bt l 1 / 16),.int .i64 (bt l 1 % 16),.int .i64 (bt l 3+256 * bt l 7),.int .i64 (bt l 2)]:=by unfold stepU;rw [hwi];rfl
        simp only [go_sem,hwi,h4',c1,c2,c3,c7,h0,h5,hm,↓reduceDIte,iQ,iB,e0,sz,c0,at_,b16,b16q,bw,bw1,bw2,bw3,bw4,hwd]
        rw [← hd]
        refine fcW_bool cv ?_
        cases hst:stepB (stepU l) with
        | false =>
         have hok:okU l=false:=by unfold okU;rw [hst];rfl
         rw [hok] at hr
         simp only [Bool.false_eq_true,if_false] at hr
         subst hr
         unfold readE
         simp only [go_sem,h0,h5,hm,↓reduceDIte,iQ,iB,e0,sz,c0,at_,b16,b16q,bw,bw1,bw2,bw3,bw4,hwd];try rfl
        | true =>
         have cb:=impl_Step_bytes.fc (stepU l) hst
         simp only [go_sem,h0,h5,hm,↓reduceDIte,iQ,iB,e0,sz,c0,at_,b16,b16q,bw,bw1,bw2,bw3,bw4,hwd]
         rw [← hd]
         refine fcW_bd cb noRs_ub ?_
         have ecmp:((ByteArray.mk (((encI (stepU l)).map fun n=>UInt8.ofNat n.toNat).toArray)).toList == ((strL l).extract 0 8).toList)=decide (encU (stepU l)=l.take 8):=by
          rw [strL_ext,List.drop_zero]
          exact str_eq (encU (stepU l)) (l.take 8)
         have hok:okU l=decide (encU (stepU l)=l.take 8):=by unfold okU;rw [hst,hlo];rfl
         have tkb:((encI (stepU l)).map Ub).take (encI (stepU l)).length=(encI (stepU l)).map Ub:=List.take_of_length_le (by simp)
         have ubs:=ub_sc (encI (stepU l))
         have bo:=bytesOf_ub (encI (stepU l))
         have ln:(4:Int)≤l.length∧(8:Int)≤l.length:=by omega
         cases hq:decide (encU (stepU l)=l.take 8) with
         | false =>
          rw [hq] at ecmp hok
          rw [hok] at hr
          simp only [Bool.false_eq_true,if_false] at hr
          subst hr
          unfold readE
          simp only [go_sem,List.length_map,tkb,ubs,bo,ln.1,ln.2,ecmp,h0,h5,hm,↓reduceDIte,iQ,iB,e0,sz,c0,at_,b16,b16q,bw,bw1,bw2,bw3,bw4,hwd];try rfl
         | true =>
          rw [hq] at ecmp hok
          rw [hok] at hr
          simp only [if_true] at hr
          have ex:(strL l).extract 8 l.length=strL (l.drop 8):=by rw [strL_ext,List.take_length]
          simp only [go_sem,List.length_map,tkb,ubs,bo,ln.1,ln.2,ecmp,hbb,tk,ex,Int.le_refl,h0,h5,hm,↓reduceDIte,iQ,iB,e0,sz,c0,at_,b16,b16q,bw,bw1,bw2,bw3,bw4,hwd]
          exact ⟨(m,l.drop 8,p++[stepU l]),by dsimp only;omega,by simp only [List.length_drop];omega,by dsimp only;omega,by simp only [List.length_append,List.length_singleton];omega,hr,by simp only [go_sem,h0,h5,hm,↓reduceDIte,iQ,iB,e0,sz,c0,at_,b16,b16q,bw,bw1,bw2,bw3,bw4,hwd],_,by simp only [go_sem,el,h0,h5,hm,↓reduceDIte,iQ,iB,e0,sz,c0,at_,b16,b16q,bw,bw1,bw2,bw3,bw4,hwd];try rfl,by simp only [go_sem,h0,h5,hm,↓reduceDIte,iQ,iB,e0,sz,c0,at_,b16,b16q,bw,bw1,bw2,bw3,bw4,hwd];rw [← hd,sn]⟩
theorem any_in {c:CurD} {p:List StepD} {v:CurD} (fc:FCt prog F_spec_pl1Cur_anyProgram [.io] [.ptr c.d] (steps p) [.ptr (CurD.d v)]) (hl:p.length≤20) (ok:∀ m,CurOk c (m+330)→CurOk v m) :
 ∃ p c',p.length≤20∧(∀ m,CurOk c (m+330)→CurOk c' m)∧FCt prog F_spec_pl1Cur_anyProgram [.io] [.ptr c.d] (steps p) [.ptr (CurD.d c')]:=⟨_,_,hl,ok,fc⟩
theorem any_ex (c:CurD) (h:CurOk c 330):∃ p c',p.length≤20∧(∀ m,CurOk c (m+330)→CurOk c' m)∧FCt prog F_spec_pl1Cur_anyProgram [.io] [.ptr c.d] (steps p) [.ptr (CurD.d c')]:=by
 have f1:=spec_pl1Cur_one.fc c 2 (m:=328) h
 have h1:∀ m,CurOk c (m+330)→CurOk (pickC c 2) (m+328):=fun m hm=>pickC_ok hm
 generalize (pickV c 2 == 0)=b at f1
 generalize pickC c 2=c1 at f1 h1
 cases b
 · obtain ⟨p,v,hl,ok,fc⟩:=prog_ex c1 ((h1 0 h).mono (by omega))
   refine any_in (p:=p) (v:=v) ?_ hl (fun m hm=>(ok (m+8) (h1 m hm)).mono (by omega))
   refine fct_run spec_pl1Cur_anyProgram.ok rfl ?_
   simp only [go_sem]
   refine coW_c f1 ?_
   simp only [go_sem]
   refine coW_c fc ?_
   simp only [go_sem,take_map_len]
 · obtain ⟨p,v,hl,ok,fc⟩:=tame_ex c1 ((h1 0 h).mono (by omega))
   refine any_in (p:=p) (v:=v) ?_ hl (fun m hm=>(ok (m+268) (h1 m hm)).mono (by omega))
   refine fct_run spec_pl1Cur_anyProgram.ok rfl ?_
   simp only [go_sem]
   refine coW_c f1 ?_
   simp only [go_sem]
   refine coW_c fc ?_
   simp only [go_sem,take_map_len]
theorem strL_app (a b:List UInt8):strL a++strL b=strL (a++b):=by
 apply ByteArray.ext
 apply Array.ext'
 simp [strL,ByteArray.data_append]
theorem encU_len (x:StepD):(encU x).length≤8:=by
 unfold encU encI
 split<;>simp
def pbL (p:List StepD):List UInt8:=p.flatMap encU
theorem pbL_len:∀ p:List StepD,(pbL p).length≤8 * p.length
 | []=>by simp [pbL]
 | x::p=>by
  have:=pbL_len p
  have:=encU_len x
  unfold pbL at *
  rw [List.flatMap_cons,List.length_append,List.length_cons]
  omega
def pbV (p:List StepD):List UInt8:=if goodP p then pbL p else []
theorem pbV_len (p:List StepD) (h:p.length≤20):(pbV p).length≤160:=by
 unfold pbV
 split
 · have:=pbL_len p;omega
 · simp
theorem spec_ProgramBytes.fc (p:List StepD) (hp:p.length≤4194304):FCt prog F_spec_ProgramBytes [.ro] [steps p] (.tup [strU (pbV p),Bb (goodP p)]) []:=by
 refine fct_run spec_ProgramBytes.ok rfl ?_
 unfold pbV
 simp only [go_sem]
 refine fcW_bool (spec_GoodProgram.fc p hp) ?_
 cases hg:goodP p with
 | false=>simp only [go_sem];try rfl
 | true =>
  have op:=prog_ok hg
  simp only [go_sem]
  refine R_loop (α:=Nat) (fun k s' M'=>k≤p.length∧s' 12=aI k∧s' 4=.dat none (.str (strL (pbL (p.take k))))) (fun k=>p.length - k) 0 ⟨Nat.zero_le _,by simp only [go_sem];try rfl,by simp only [go_sem];try rfl⟩ ?_
  rintro k s' M' ⟨hk,h12,h4⟩ ho
  unfold spec_ProgramBytes.b0
  have j0:s' 0=.dat none (steps p):=by rw [ho 0 rfl];simp only [go_sem]
  have j10:s' 10=.dat none (steps p):=by rw [ho 10 rfl];simp only [go_sem]
  have j11:s' 11=aI p.length:=by rw [ho 11 rfl];simp only [go_sem]
  clear ho
  by_cases hlt:k < p.length
  · have hi':(k:Int) < p.length:=by omega
    have ga:p[k]? = some p[k]:=List.getElem?_eq_getElem hlt
    have hw:IntKind.i64.wrap (k+1)=((k+1:Nat):Int):=wrap_k hlt (by omega)
    have hv:=(op.all k hlt).1
    have hst:pbL (p.take (k+1))=pbL (p.take k)++encU p[k]:=by
     unfold pbL
     rw [take_succ' hlt,List.flatMap_append];simp
    have hl1:=pbL_len (p.take (k+1))
    have hl2:(p.take (k+1)).length≤20:=by have:=op.len.2;rw [List.length_take];omega
    rw [hst,List.length_append] at hl1
    generalize p[k]=s at ga hv hst hl1
    have cb:=spec_l2Bytes.fc s hv
    have sz1:=strL_len (pbL (p.take k))
    have sz2:=strL_len (encU s)
    have hb:(pbL (p.take k)).length+(encU s).length≤1152921504606846976:=by omega
    simp only [go_sem,hi',ga,j0,j10,j11,h12,h4]
    refine fcW_str cb ?_
    simp only [go_sem,sz1,sz2,hb,strL_app,hw,j0,j10,j11,h12,h4]
    exact ⟨k+1,by dsimp only;omega,by omega,by simp only [go_sem,j0,j10,j11,h12,h4],by simp only [go_sem,hst,j0,j10,j11,h12,h4]⟩
  · have hi':¬ (k:Int) < p.length:=by omega
    obtain rfl:k=p.length:=by omega
    rw [List.take_length] at h4
    simp only [go_sem,Int.lt_irrefl,j0,j10,j11,h12,h4];try rfl
def spT (t:List UInt8) (i q:Int) (w:UInt8):List UInt8:=if q == 0 then t.take i.toNat++[w]++t.drop i.toNat else if q == 1 then t.take i.toNat++[w]++t.drop (i+1).toNat else t.take i.toNat++t.drop (i+1).toNat
theorem spT_len (t:List UInt8) (i q:Int) (w:UInt8):(spT t i q w).length≤t.length+1:=by
 unfold spT
 split
 · simp;omega
 split
 · simp;omega
 · simp;omega
def spC1 (c:CurD) (t:List UInt8):CurD:=pickC c t.length
def spC2 (c:CurD) (t w:List UInt8):CurD:=pickC (spC1 c t) w.length
def spX (w:List UInt8):Nat→List UInt8→CurD→List UInt8×CurD
 | 0,t,c=>(t,c)
 | n+1,t,c=>if t.length=0 then (t,c) else spX w n (spT t (pickV c t.length) (pickV (spC2 c t w) 3) (w.getD (pickV (spC1 c t) w.length).toNat 0)) (pickC (spC2 c t w) 3)
theorem spX_succ (w:List UInt8) (n:Nat) (t:List UInt8) (c:CurD):spX w (n+1) t c=if t.length=0 then (t,c) else spX w n (spT t (pickV c t.length) (pickV (spC2 c t w) 3) (w.getD (pickV (spC1 c t) w.length).toNat 0)) (pickC (spC2 c t w) 3):=rfl
theorem spX_facts (w:List UInt8):∀ (n:Nat) (t:List UInt8) (c:CurD),(spX w n t c).1.length≤t.length+n∧∀ m,CurOk c (m+6 * n)→CurOk (spX w n t c).2 m
 | 0,t,c=>⟨Nat.le_refl _,fun m h=>h⟩
 | n+1,t,c=>by
  rw [spX_succ]
  split
  · exact ⟨by dsimp only;omega,fun m h=>h.mono (by omega)⟩
  · have ih:=spX_facts w n (spT t (pickV c t.length) (pickV (spC2 c t w) 3) (w.getD (pickV (spC1 c t) w.length).toNat 0)) (pickC (spC2 c t w) 3)
    have:=spT_len t (pickV c t.length) (pickV (spC2 c t w) 3) (w.getD (pickV (spC1 c t) w.length).toNat 0)
    refine ⟨by omega,fun m h=>ih.2 m ?_⟩
    have o1:CurOk c (m+6 * n+2+2+2):=h.mono (by omega)
    exact pickC_ok (pickC_ok (pickC_ok o1))
theorem u8_back (w:List UInt8) (i:Nat):UInt8.ofNat (bt w i).toNat=w.getD i 0:=by
 unfold bt
 rw [Int.toNat_natCast]
 exact UInt8.ofNat_toNat
theorem sp_in {c:CurD} {t w r:List UInt8} {v:CurD} (fc:FCt prog F_spec_pl1Cur_spoilt [.io,.ro,.ro] [.ptr c.d,strU t,strU w] (strU r) [.ptr (CurD.d v)]) (hl:r.length≤t.length+2) (ok:∀ m,CurOk c (m+14)→CurOk v m) :
 ∃ r c',r.length≤t.length+2∧(∀ m,CurOk c (m+14)→CurOk c' m)∧FCt prog F_spec_pl1Cur_spoilt [.io,.ro,.ro] [.ptr c.d,strU t,strU w] (strU r) [.ptr (CurD.d c')]:=⟨_,_,hl,ok,fc⟩
theorem sp_ex (c:CurD) (t w:List UInt8) (ht:t.length≤1000000) (hw:1≤w.length) (hw2:w.length≤1000) (h:CurOk c 14):∃ r c',r.length≤t.length+2∧(∀ m,CurOk c (m+14)→CurOk c' m)∧FCt prog F_spec_pl1Cur_spoilt [.io,.ro,.ro] [.ptr c.d,strU t,strU w] (strU r) [.ptr (CurD.d c')]:=by
 have f1:=spec_pl1Cur_pick.fc c 3 (m:=12) h
 have h1:∀ m,CurOk c (m+14)→CurOk (pickC c 3) (m+12):=fun m hm=>pickC_ok hm
 have p1:=pickV_in (c:=c) (n:=3) (by omega)
 obtain ⟨n,hn⟩:∃ n:Nat,pickV c 3=(n:Int):=⟨(pickV c 3).toNat,by omega⟩
 rw [hn] at f1 p1
 have hn2:n≤2:=by omega
 generalize pickC c 3=c1 at f1 h1
 have hf:=spX_facts w n t c1
 generalize hR:spX w n t c1=R at hf
 refine sp_in (r:=R.1) (v:=R.2) ?_ (by omega) (fun m hm=>hf.2 m ((h1 m hm).mono (by omega)))
 have h10:=h1 0 h
 refine fct_run spec_pl1Cur_spoilt.ok rfl ?_
 simp only [go_sem]
 refine coW_c f1 ?_
 simp only [go_sem]
 refine R_loop (α:=Nat×List UInt8×CurD) (fun a s' M'=>a.1≤2∧a.2.1.length≤1000010 - a.1∧spX w a.1 a.2.1 a.2.2=R∧CurOk a.2.2 (6 * a.1)∧s' 7=aI a.1∧s' 1=.dat none (strU a.2.1)∧M'.m 0=some (.box 0 (curA a.2.2))) (fun a=>a.1) (n,t,c1)
  ⟨hn2,by dsimp only;omega,hR,h10.mono (by dsimp only;omega),by simp only [go_sem];try rfl,by simp only [go_sem];try rfl,by simp only [go_sem];try rfl⟩ ?_
 rintro ⟨k,l,d⟩ s' M' ⟨hk,hl,hr,hd,g7,g1,gm⟩ ho
 dsimp only at hk hl hr hd g7 g1 gm
 unfold spec_pl1Cur_spoilt.b0
 have j0:s' 0=.ptr 0 0 0 none:=by rw [ho 0 rfl];simp only [go_sem]
 have j2:s' 2=.dat none (strU w):=by rw [ho 2 rfl];simp only [go_sem]
 clear ho
 have sz:=strL_len l
 have szw:=strL_len w
 by_cases hk0:k=0
 · subst hk0
   have z:¬ ((0:Nat):Int) > 0:=by omega
   have hr:(l,d)=R:=hr
   subst hr
   simp only [go_sem,z,j0,j2,g7,g1,gm,sz,szw];try rfl
 · obtain ⟨k',rfl⟩:∃ k',k=k'+1:=⟨k - 1,by omega⟩
   have z:((k'+1:Nat):Int) > 0:=by omega
   rw [spX_succ] at hr
   by_cases hl0:l.length=0
   · rw [if_pos hl0] at hr
     have z2:¬ (l.length:Int) > 0:=by omega
     subst hr
     simp only [go_sem,z,z2,j0,j2,g7,g1,gm,sz,szw];try rfl
   · rw [if_neg hl0] at hr
     have z2:(l.length:Int) > 0:=by omega
     have o0:CurOk d (6 * k'+2+2+2):=hd.mono (by omega)
     have a1:=spec_pl1Cur_pick.fc d l.length o0
     have b1:=pickV_in (c:=d) (n:=l.length) (by omega)
     have o1:CurOk (spC1 d l) (6 * k'+2+2):=pickC_ok o0
     have a2:=spec_pl1Cur_pick.fc (spC1 d l) w.length o1
     have b2:=pickV_in (c:=spC1 d l) (n:=w.length) (by omega)
     have o2:CurOk (spC2 d l w) (6 * k'+2):=pickC_ok o1
     have a3:=spec_pl1Cur_pick.fc (spC2 d l w) 3 o2
     have o3:CurOk (pickC (spC2 d l w) 3) (6 * k'):=pickC_ok o2
     have e1:pickC d l.length=spC1 d l:=rfl
     have e2:pickC (spC1 d l) w.length=spC2 d l w:=rfl
     rw [e1] at a1
     rw [e2] at a2
     have ub:=u8_back w (pickV (spC1 d l) w.length).toNat
     have at_:∀ i h,(((strL w)[i]'h).toNat:Int)=bt w i:=strL_bt w
     generalize pickV d l.length=i at a1 b1 hr
     generalize pickV (spC1 d l) w.length=y at a2 b2 hr ub
     generalize pickV (spC2 d l w) 3=q at a3 hr
     generalize pickC (spC2 d l w) 3=d3 at a3 o3 hr
     generalize spC2 d l w=d2 at a2 a3
     generalize spC1 d l=d1 at a1 a2
     have hsl:=spT_len l i q (w.getD y.toNat 0)
     have b20:=b2.1
     have b21:=b2.2
     have b10:=b1.1
     have b11:i≤l.length:=by omega
     have wi:IntKind.i64.wrap (i+1)=i+1:=wrap_in (by omega) (by omega)
     have b12:0≤i+1:=by omega
     have b13:i+1≤l.length:=by omega
     have x1:(strL l).extract 0 i.toNat=strL (l.take i.toNat):=by rw [strL_ext,List.drop_zero]
     have x2:(strL l).extract i.toNat l.length=strL (l.drop i.toNat):=by rw [strL_ext,List.take_length]
     have x3:(strL l).extract (i+1).toNat l.length=strL (l.drop (i+1).toNat):=by rw [strL_ext,List.take_length]
     have xs:(⟨[w.getD y.toNat 0].toArray⟩:ByteArray)=strL [w.getD y.toNat 0]:=rfl
     have wk:IntKind.i64.wrap (((k'+1:Nat):Int) - 1)=(k':Int):=by rw [wrap_in (by omega) (by omega)];omega
     have n1:=strL_len (l.take i.toNat)
     have n2:=strL_len [w.getD y.toNat 0]
     have n3:=strL_len (l.take i.toNat++[w.getD y.toNat 0])
     have n4:=strL_len (l.drop i.toNat)
     have n5:=strL_len (l.drop (i+1).toNat)
     have m1:(l.take i.toNat).length≤1000010:=by rw [List.length_take];omega
     have m2:(l.drop i.toNat).length≤1000010:=by rw [List.length_drop];omega
     have m3:(l.drop (i+1).toNat).length≤1000010:=by rw [List.length_drop];omega
     have m4:([w.getD y.toNat 0]:List UInt8).length=1:=rfl
     have s1:(l.take i.toNat).length≤1152921504606846975:=by omega
     have s2:(l.take i.toNat++[w.getD y.toNat 0]).length+(l.drop i.toNat).length≤1152921504606846976:=by rw [List.length_append];omega
     have s3:(l.take i.toNat++[w.getD y.toNat 0]).length+(l.drop (i+1).toNat).length≤1152921504606846976:=by rw [List.length_append];omega
     have s4:(l.take i.toNat).length+(l.drop (i+1).toNat).length≤1152921504606846976:=by omega
     simp only [go_sem,z,z2,j0,j2,g7,g1,gm,sz,szw]
     refine coW_c a1 ?_
     simp only [go_sem,j0,j2,g7,g1,gm,sz,szw]
     refine coW_c a2 ?_
     simp only [go_sem,b20,b21,at_,ub,xs,↓reduceDIte,j0,j2,g7,g1,gm,sz,szw]
     refine coW_c a3 ?_
     by_cases q0:q=0
     · subst q0
       have e:spT l i 0 (w.getD y.toNat 0)=l.take i.toNat++[w.getD y.toNat 0]++l.drop i.toNat:=rfl
       rw [e] at hr hsl
       simp only [go_sem,b10,b11,b12,b13,b20,b21,at_,ub,xs,↓reduceDIte,x1,x2,x3,n1,n2,n3,n4,n5,s1,s2,s3,s4,strL_app,wi,wk,Int.le_refl,j0,j2,g7,g1,gm,sz,szw]
       exact ⟨(k',l.take i.toNat++[w.getD y.toNat 0]++l.drop i.toNat,d3),by dsimp only;omega,by dsimp only;omega,by dsimp only;omega,hr,o3,by simp only [go_sem,j0,j2,g7,g1,gm,sz,szw],by simp only [go_sem,j0,j2,g7,g1,gm,sz,szw],by simp only [go_sem,j0,j2,g7,g1,gm,sz,szw]⟩
     by_cases q1:q=1
     · have e0:(q == 0)=false:=by simp [q0]
       have e1:(q == 1)=true:=by simp [q1]
       have e:spT l i q (w.getD y.toNat 0)=l.take i.toNat++[w.getD y.toNat 0]++l.drop (i+1).toNat:=by unfold spT;rw [e0,e1];rfl
       rw [e] at hr hsl
       simp only [go_sem,e0,e1,b10,b11,b12,b13,b20,b21,at_,ub,xs,↓reduceDIte,x1,x2,x3,n1,n2,n3,n4,n5,s1,s2,s3,s4,strL_app,wi,wk,Int.le_refl,j0,j2,g7,g1,gm,sz,szw]
       exact ⟨(k',l.take i.toNat++[w.getD y.toNat 0]++l.drop (i+1).toNat,d3),by dsimp only;omega,by dsimp only;omega,by dsimp only;omega,hr,o3,by simp only [go_sem,j0,j2,g7,g1,gm,sz,szw],by simp only [go_sem,j0,j2,g7,g1,gm,sz,szw],by simp only [go_sem,j0,j2,g7,g1,gm,sz,szw]⟩
     · have e:spT l i q (w.getD y.toNat 0)=l.take i.toNat++l.drop (i+1).toNat:=by unfold spT;rw [if_neg (by simp [q0]),if_neg (by simp [q1])]
       rw [e] at hr hsl
       have e0:(q == 0)=false:=by simp [q0]
       have e1:(q == 1)=false:=by simp [q1]
       simp only [go_sem,e0,e1,b10,b11,b12,b13,b20,b21,at_,ub,xs,↓reduceDIte,x1,x2,x3,n1,n2,n3,n4,n5,s1,s2,s3,s4,strL_app,wi,wk,Int.le_refl,j0,j2,g7,g1,gm,sz,szw]
       exact ⟨(k',l.take i.toNat++l.drop (i+1).toNat,d3),by dsimp only;omega,by dsimp only;omega,by dsimp only;omega,hr,o3,by simp only [go_sem,j0,j2,g7,g1,gm,sz,szw],by simp only [go_sem,j0,j2,g7,g1,gm,sz,szw],by simp only [go_sem,j0,j2,g7,g1,gm,sz,szw]⟩
def reduS (s k:Int×Int):Option ((Int×Int)×(Int×Int)) :=
 let lo:=if k.1 > s.1 then k.1 else s.1
 let hi:=if IntKind.i64.wrap (k.1+k.2) < s.2 then IntKind.i64.wrap (k.1+k.2) else s.2
 if lo > hi then none else if lo < hi then some ((lo,hi),k) else if andNotI lo k.2 == k.1 then some ((lo,hi),(lo,0)) else none
def reduD (o:Option ((Int×Int)×(Int×Int))):D:=match o with
 | some r=>.tup [strD r.1,knownD r.2,Bb true]
 | none=>.tup [strD (0,0),knownD (0,0),Bb false]
theorem redu_eq (s k:Int×Int):redu s.1 s.2 k.1 k.2=reduD (reduS s k):=by
 unfold redu reduS reduD
 generalize (if k.1 > s.1 then k.1 else s.1)=lo
 generalize (if IntKind.i64.wrap (k.1+k.2) < s.2 then IntKind.i64.wrap (k.1+k.2) else s.2)=hi
 dsimp only
 split
 · rfl
 · split
   · rfl
   · split<;>rfl
theorem impl_reduceBoth.fcv (s k:Int×Int):FCt prog F_impl_reduceBoth [.ro,.ro] [strD s,knownD k] (reduD (reduS s k)) []:=redu_eq s k▸impl_reduceBoth.fc s.1 s.2 k.1 k.2
theorem spec_l13Reduce.fcv (s k:Int×Int):FCt prog F_spec_l13Reduce [.ro,.ro] [strD s,knownD k] (reduD (reduS s k)) []:=redu_eq s k▸spec_l13Reduce.fc s.1 s.2 k.1 k.2
def putV (s k:Int×Int):(Int×Int)×(Int×Int):=match reduS s k with
 | some r=>r
 | none=>(s,k)
def putM (m:MayD) (i:Int) (r:(Int×Int)×(Int×Int)):MayD:={ m with reg:=m.reg.set i.toNat r.1,bits:=m.bits.set i.toNat r.2 }
theorem putM_len {m:MayD} {i:Int} {r:(Int×Int)×(Int×Int)} (h:MLen m):MLen (putM m i r):=⟨by simp [putM,h.reg],by simp [putM,h.bits],h.cell,h.isset⟩
theorem setSt {l:List (Int×Int)} {i:Nat} {x:Int×Int}:(l.map strD).set i (strD x)=(l.set i x).map strD:=by rw [List.map_set]
theorem setKn {l:List (Int×Int)} {i:Nat} {x:Int×Int}:(l.map knownD).set i (knownD x)=(l.set i x).map knownD:=by rw [List.map_set]
theorem tk_S {n:Nat} {l:List (Int×Int)} (h:l.length=n):(l.map strD).take n=l.map strD:=List.take_of_length_le (by simp [h])
theorem tk_K {n:Nat} {l:List (Int×Int)} (h:l.length=n):(l.map knownD).take n=l.map knownD:=List.take_of_length_le (by simp [h])
theorem noRsL_pMay {m:MayD}:noRsL [.ptr m.d]=true:=by
 show (noRs (.ptr m.d)&&true)=true
 rw [Bool.and_true]
 exact noRs_May
theorem impl_pMay_put.fc (m:MayD) (i:Int) (s k:Int×Int) (hm:MLen m) (h0:0≤i) (h1:i < 6) :
 FCt prog F_impl_pMay_put [.io,.ro,.ro,.ro] [.ptr m.d,Ii i,strD s,knownD k] (.tup []) [.ptr (putM m i (putV s k)).d]:=by
 refine fct_run impl_pMay_put.ok rfl ?_
 obtain ⟨l1,l2,l3,l4⟩:=hm
 have cr:=impl_reduceBoth.fcv s k
 have c6:((6:Nat):Int)=6:=rfl
 have g1:m.reg[i.toNat]? = some (m.reg[i.toNat]'(by omega)):=List.getElem?_eq_getElem (by omega)
 have g2:m.bits[i.toNat]? = some (m.bits[i.toNat]'(by omega)):=List.getElem?_eq_getElem (by omega)
 unfold putM putV
 unfold reduD at cr
 cases hr:reduS s k with
 | none =>
  rw [hr] at cr
  repeat' (first|with_reducible rfl|refine fcW_bd (cr) rfl ?_|with_reducible refine cdW_dec (fun _=>?_) (fun _=>?_)|refine cdW_not (fun _=>?_) (fun _=>?_)|refine cdW_any (fun _=>?_) (fun _=>?_)|with_reducible refine gdW_decT (fun _=>?_) (fun _=>?_)|with_reducible refine gdW_decF (fun _=>?_) (fun _=>?_)|refine gdW_not (fun _=>?_) (fun _=>?_)|refine gdW_any (fun _=>?_) (fun _=>?_)|simp only [go_sem,bne,iQ,iB,iX,Int.reduceLE,iN,iA,iS,iM,setSt,setKn,tk_S,tk_K,tk_B,List.length_set, *]|rfl)
 | some r =>
  rw [hr] at cr
  obtain ⟨r1,r2⟩:=r
  dsimp only at cr
  repeat' (first|with_reducible rfl|refine fcW_bd (cr) rfl ?_|with_reducible refine cdW_dec (fun _=>?_) (fun _=>?_)|refine cdW_not (fun _=>?_) (fun _=>?_)|refine cdW_any (fun _=>?_) (fun _=>?_)|with_reducible refine gdW_decT (fun _=>?_) (fun _=>?_)|with_reducible refine gdW_decF (fun _=>?_) (fun _=>?_)|refine gdW_not (fun _=>?_) (fun _=>?_)|refine gdW_any (fun _=>?_) (fun _=>?_)|simp only [go_sem,bne,iQ,iB,iX,Int.reduceLE,iN,iA,iS,iM,setSt,setKn,tk_S,tk_K,tk_B,List.length_set, *]|rfl)
theorem spec_l13Set.fc (m:MayD) (i:Int) (s k:Int×Int) (hm:MLen m) (h0:0≤i) (h1:i < 6) :
 FCt prog F_spec_l13Set [.co,.ro,.ro,.ro] [m.d,Ii i,strD s,knownD k] (putM m i (putV s k)).d []:=by
 refine fct_run spec_l13Set.ok rfl ?_
 obtain ⟨l1,l2,l3,l4⟩:=hm
 have cr:=spec_l13Reduce.fcv s k
 have c6:((6:Nat):Int)=6:=rfl
 have g1:m.reg[i.toNat]? = some (m.reg[i.toNat]'(by omega)):=List.getElem?_eq_getElem (by omega)
 have g2:m.bits[i.toNat]? = some (m.bits[i.toNat]'(by omega)):=List.getElem?_eq_getElem (by omega)
 unfold putM putV
 unfold reduD at cr
 cases hr:reduS s k with
 | none =>
  rw [hr] at cr
  repeat' (first|with_reducible rfl|refine fcW_bd (cr) rfl ?_|with_reducible refine cdW_dec (fun _=>?_) (fun _=>?_)|refine cdW_not (fun _=>?_) (fun _=>?_)|refine cdW_any (fun _=>?_) (fun _=>?_)|with_reducible refine gdW_decT (fun _=>?_) (fun _=>?_)|with_reducible refine gdW_decF (fun _=>?_) (fun _=>?_)|refine gdW_not (fun _=>?_) (fun _=>?_)|refine gdW_any (fun _=>?_) (fun _=>?_)|simp only [go_sem,bne,iQ,iB,iX,Int.reduceLE,iN,iA,iS,iM,setSt,setKn,tk_S,tk_K,tk_B,List.length_set, *]|rfl)
 | some r =>
  rw [hr] at cr
  obtain ⟨r1,r2⟩:=r
  dsimp only at cr
  repeat' (first|with_reducible rfl|refine fcW_bd (cr) rfl ?_|with_reducible refine cdW_dec (fun _=>?_) (fun _=>?_)|refine cdW_not (fun _=>?_) (fun _=>?_)|refine cdW_any (fun _=>?_) (fun _=>?_)|with_reducible refine gdW_decT (fun _=>?_) (fun _=>?_)|with_reducible refine gdW_decF (fun _=>?_) (fun _=>?_)|refine gdW_not (fun _=>?_) (fun _=>?_)|refine gdW_any (fun _=>?_) (fun _=>?_)|simp only [go_sem,bne,iQ,iB,iX,Int.reduceLE,iN,iA,iS,iM,setSt,setKn,tk_S,tk_K,tk_B,List.length_set, *]|rfl)
set_option maxHeartbeats 32000000
def regS (m:MayD) (i:Int):Int×Int:=m.reg.getD i.toNat (0,0)
def bitS (m:MayD) (i:Int):Int×Int:=m.bits.getD i.toNat (0,0)
def mayV (s:StepD) (m:MayD):MayD×Int :=
 if s.kind == 1 then (putM m s.dst (putV (stI s.op (regS m s.dst) (regS m s.src)) (kdI s.op (bitS m s.dst) (bitS m s.src))),0) else
 if s.kind == 2 then (putM m s.dst (putV (stI s.op (regS m s.dst) (s.imm,s.imm)) (kdI s.op (bitS m s.dst) (s.imm,0))),0) else
 if s.kind == 3 then (putM m s.dst ((s.imm,s.imm),(s.imm,0)),0) else
 if s.kind == 4 then (putM m s.dst ((s.imm,s.imm),(s.imm,0)),0) else
 if s.kind == 5 then (if (regS m s.src).2+s.imm ≥ 8 then (m,1) else (putM m s.dst ((0,255),(0,255)),0)) else
 if s.kind == 7 then (if s.imm ≥ 16 then (m,2) else ({ m with cell:=m.cell.set s.imm.toNat (regS m s.dst),isset:=m.isset.set s.imm.toNat true },0)) else
 if s.kind == 6 then (if s.imm ≥ 16 then (m,2) else if m.isset.getD s.imm.toNat false then (putM m s.dst (putV (m.cell.getD s.imm.toNat (0,0)) (0,65535)),0) else (m,3)) else
 (m,0)
theorem putV_const {n:Int} (h:0≤n∧n≤65535):putV (n,n) (n,0)=((n,n),(n,0)):=by
 have e:andNotI n 0=n:=by
  have hn:wd n:=h
  rw [andNotI_nat hn.nn ⟨by decide,by decide⟩]
  simp
  omega
 have hw:IntKind.i64.wrap (n+0)=n:=by rw [Int.add_zero];exact wrap_in (by omega) (by omega)
 unfold putV reduS
 dsimp only
 rw [hw]
 simp [e]
theorem putV_byte:putV (0,255) (0,255)=((0,255),(0,255)):=by decide
theorem kOk_const {n:Int} (h:0≤n∧n≤65535):KOk (n,0):=by
 refine ⟨h,(⟨by decide,by decide⟩:wd 0),?_⟩
 have hn:wd n:=h
 show andI n 0=0
 rw [andI_nat hn.nn ⟨by decide,by decide⟩];simp
theorem sOk_const {n:Int} (h:0≤n∧n≤65535):SOk (n,n):=⟨h.1,Int.le_refl _,h.2⟩
theorem setAg {l:List (Int×Int)} {i:Nat} {a b:Int}:(l.map strD).set i (D.agg [D.int .i64 a,D.int .i64 b])=(l.set i (a,b)).map strD:=by rw [List.map_set]
def MayZ (m:MayD) (f:Int):MayD:=if f == 0 then m else zeroM
theorem impl_stepMay.fc (s:StepD) (m:MayD) (hm:MayOk m) (hv:stepB s=true) :
 FCt prog F_impl_stepMay [.ro,.ro] [s.d,m.d] (.tup [(MayZ (mayV s m).1 (mayV s m).2).d,Ii (mayV s m).2]) []:=by
 refine fct_run impl_stepMay.ok rfl ?_
 have ok:=step_ok hv
 have kd:=valid_kind (.inr hv)
 have ln:=hm.len
 have co:=impl_May_own.fc m ln
 obtain ⟨l1,l2,l3,l4,gr,gb,gc⟩:=hm
 obtain ⟨k,op,dst,src,imm,to⟩:=s
 obtain ⟨_,od,os,oi,oo,ot,_,_⟩:=ok
 dsimp only at *
 have c6:((6:Nat):Int)=6:=rfl
 have c16:((16:Nat):Int)=16:=rfl
 have od1:=od.1
 have od2:dst < 6:=by omega
 have os1:=os.1
 have os2:src < 6:=by omega
 have i0:0≤imm:=oi.1
 have q1:m.reg[dst.toNat]? = some (regS m dst):=getD_some (by omega)
 have q2:m.reg[src.toNat]? = some (regS m src):=getD_some (by omega)
 have q3:m.bits[dst.toNat]? = some (bitS m dst):=getD_some (by omega)
 have q4:m.bits[src.toNat]? = some (bitS m src):=getD_some (by omega)
 have sd:=gS_ok (gr _ (List.mem_of_getElem? q1))
 have ss:=gS_ok (gr _ (List.mem_of_getElem? q2))
 have kd1:=gK_ok (gb _ (List.mem_of_getElem? q3))
 have ks:=gK_ok (gb _ (List.mem_of_getElem? q4))
 have sc:=sOk_const oi
 have kc:=kOk_const oi
 have w5:IntKind.i64.wrap ((regS m src).2+imm)=(regS m src).2+imm:=by have:=ss.hi;have:=ss.lo;have:=ss.le;exact wrap_in (by omega) (by omega)
 have h6:¬ imm ≥ 16→m.cell[imm.toNat]? = some (m.cell.getD imm.toNat (0,0)):=fun h=>getD_some (by omega)
 have h7:¬ imm ≥ 16→m.isset[imm.toNat]? = some (m.isset.getD imm.toNat false):=fun h=>getD_some (by omega)
 have b6:¬ imm ≥ 16→imm < 16:=fun h=>by omega
 have cs:=impl_stretched.fc op (regS m dst) (regS m src) sd ss
 have ck:=impl_doKnown.fc op (bitS m dst) (bitS m src) kd1 ks
 have cs2:=impl_stretched.fc op (regS m dst) (imm,imm) sd sc
 have ck2:=impl_doKnown.fc op (bitS m dst) (imm,0) kd1 kc
 have cp:=fun s k=>impl_pMay_put.fc m dst s k ln od1 od2
 have hp:=fun r=>putM_len (m:=m) (i:=dst) (r:=r) ln
 have pl1:=fun r=>(hp r).reg
 have pl2:=fun r=>(hp r).bits
 have pl3:=fun r=>(hp r).cell
 have pl4:=fun r=>(hp r).isset
 clear hp gr gb gc sd ss kd1 ks sc kc
 unfold mayV MayZ zeroM
 rcases kd with rfl|rfl|rfl|rfl|rfl|rfl|rfl|rfl|rfl|rfl|rfl
 · clear h6 h7 b6
   repeat' (first|with_reducible rfl|refine fcW_bd (co) (noRs_May) ?_|refine fcW_bd (cs) rfl ?_|refine fcW_bd (ck) rfl ?_|refine coW_of (cp _ _) (rfl) (noRsL_pMay) ?_|with_reducible refine cdW_dec (fun _=>?_) (fun _=>?_)|refine cdW_not (fun _=>?_) (fun _=>?_)|refine cdW_any (fun _=>?_) (fun _=>?_)|with_reducible refine gdW_decT (fun _=>?_) (fun _=>?_)|with_reducible refine gdW_decF (fun _=>?_) (fun _=>?_)|refine gdW_not (fun _=>?_) (fun _=>?_)|refine gdW_any (fun _=>?_) (fun _=>?_)|simp only [go_sem,bne,iQ,iB,iX,Int.reduceLE,iN,iA,iS,iM,setAg,setSt,setKn,setBb,tk_S,tk_K,tk_B,take_map_len,List.length_set, *]|rfl)
 · clear h6 h7 b6
   repeat' (first|with_reducible rfl|refine fcW_bd (co) (noRs_May) ?_|refine fcW_bd (cs2) rfl ?_|refine fcW_bd (impl_exact.fc imm) rfl ?_|refine fcW_bd (ck2) rfl ?_|refine coW_of (cp _ _) (rfl) (noRsL_pMay) ?_|with_reducible refine cdW_dec (fun _=>?_) (fun _=>?_)|refine cdW_not (fun _=>?_) (fun _=>?_)|refine cdW_any (fun _=>?_) (fun _=>?_)|with_reducible refine gdW_decT (fun _=>?_) (fun _=>?_)|with_reducible refine gdW_decF (fun _=>?_) (fun _=>?_)|refine gdW_not (fun _=>?_) (fun _=>?_)|refine gdW_any (fun _=>?_) (fun _=>?_)|simp only [go_sem,bne,iQ,iB,iX,Int.reduceLE,iN,iA,iS,iM,setAg,setSt,setKn,setBb,tk_S,tk_K,tk_B,take_map_len,List.length_set, *]|rfl)
 · clear h6 h7 b6
   repeat' (first|with_reducible rfl|refine fcW_bd (co) (noRs_May) ?_|refine fcW_bd (impl_exact.fc imm) rfl ?_|with_reducible refine cdW_dec (fun _=>?_) (fun _=>?_)|refine cdW_not (fun _=>?_) (fun _=>?_)|refine cdW_any (fun _=>?_) (fun _=>?_)|with_reducible refine gdW_decT (fun _=>?_) (fun _=>?_)|with_reducible refine gdW_decF (fun _=>?_) (fun _=>?_)|refine gdW_not (fun _=>?_) (fun _=>?_)|refine gdW_any (fun _=>?_) (fun _=>?_)|simp only [go_sem,bne,iQ,iB,iX,Int.reduceLE,iN,iA,iS,iM,setAg,setSt,setKn,setBb,tk_S,tk_K,tk_B,take_map_len,List.length_set, *]|rfl)
 · clear h6 h7 b6
   repeat' (first|with_reducible rfl|refine fcW_bd (co) (noRs_May) ?_|refine fcW_bd (impl_exact.fc imm) rfl ?_|with_reducible refine cdW_dec (fun _=>?_) (fun _=>?_)|refine cdW_not (fun _=>?_) (fun _=>?_)|refine cdW_any (fun _=>?_) (fun _=>?_)|with_reducible refine gdW_decT (fun _=>?_) (fun _=>?_)|with_reducible refine gdW_decF (fun _=>?_) (fun _=>?_)|refine gdW_not (fun _=>?_) (fun _=>?_)|refine gdW_any (fun _=>?_) (fun _=>?_)|simp only [go_sem,bne,iQ,iB,iX,Int.reduceLE,iN,iA,iS,iM,setAg,setSt,setKn,setBb,tk_S,tk_K,tk_B,take_map_len,List.length_set, *]|rfl)
 · clear h6 h7 b6
   by_cases h:(regS m src).2+imm ≥ 8
   · repeat' (first|with_reducible rfl|refine fcW_bd (co) (noRs_May) ?_|with_reducible refine cdW_dec (fun _=>?_) (fun _=>?_)|refine cdW_not (fun _=>?_) (fun _=>?_)|refine cdW_any (fun _=>?_) (fun _=>?_)|with_reducible refine gdW_decT (fun _=>?_) (fun _=>?_)|with_reducible refine gdW_decF (fun _=>?_) (fun _=>?_)|refine gdW_not (fun _=>?_) (fun _=>?_)|refine gdW_any (fun _=>?_) (fun _=>?_)|simp only [go_sem,bne,iQ,iB,iX,Int.reduceLE,iN,iA,iS,iM,setAg,setSt,setKn,setBb,tk_S,tk_K,tk_B,take_map_len,List.length_set, *]|rfl)
   · repeat' (first|with_reducible rfl|refine fcW_bd (co) (noRs_May) ?_|with_reducible refine cdW_dec (fun _=>?_) (fun _=>?_)|refine cdW_not (fun _=>?_) (fun _=>?_)|refine cdW_any (fun _=>?_) (fun _=>?_)|with_reducible refine gdW_decT (fun _=>?_) (fun _=>?_)|with_reducible refine gdW_decF (fun _=>?_) (fun _=>?_)|refine gdW_not (fun _=>?_) (fun _=>?_)|refine gdW_any (fun _=>?_) (fun _=>?_)|simp only [go_sem,bne,iQ,iB,iX,Int.reduceLE,iN,iA,iS,iM,setAg,setSt,setKn,setBb,tk_S,tk_K,tk_B,take_map_len,List.length_set, *]|rfl)
 · by_cases h:imm ≥ 16
   · clear h6 h7 b6
     repeat' (first|with_reducible rfl|refine fcW_bd (co) (noRs_May) ?_|with_reducible refine cdW_dec (fun _=>?_) (fun _=>?_)|refine cdW_not (fun _=>?_) (fun _=>?_)|refine cdW_any (fun _=>?_) (fun _=>?_)|with_reducible refine gdW_decT (fun _=>?_) (fun _=>?_)|with_reducible refine gdW_decF (fun _=>?_) (fun _=>?_)|refine gdW_not (fun _=>?_) (fun _=>?_)|refine gdW_any (fun _=>?_) (fun _=>?_)|simp only [go_sem,bne,iQ,iB,iX,Int.reduceLE,iN,iA,iS,iM,setAg,setSt,setKn,setBb,tk_S,tk_K,tk_B,take_map_len,List.length_set, *]|rfl)
   · have h6:=h6 h
     have h7:=h7 h
     have b6:=b6 h
     cases hq:m.isset.getD imm.toNat false<;>rw [hq] at h7
     · repeat' (first|with_reducible rfl|refine fcW_bd (co) (noRs_May) ?_|with_reducible refine cdW_dec (fun _=>?_) (fun _=>?_)|refine cdW_not (fun _=>?_) (fun _=>?_)|refine cdW_any (fun _=>?_) (fun _=>?_)|with_reducible refine gdW_decT (fun _=>?_) (fun _=>?_)|with_reducible refine gdW_decF (fun _=>?_) (fun _=>?_)|refine gdW_not (fun _=>?_) (fun _=>?_)|refine gdW_any (fun _=>?_) (fun _=>?_)|simp only [go_sem,bne,iQ,iB,iX,Int.reduceLE,iN,iA,iS,iM,setAg,setSt,setKn,setBb,tk_S,tk_K,tk_B,take_map_len,List.length_set, *]|rfl)
     · repeat' (first|with_reducible rfl|refine fcW_bd (co) (noRs_May) ?_|refine fcW_bd (impl_unknown.fc) rfl ?_|refine coW_of (cp _ (0,65535)) (rfl) (noRsL_pMay) ?_|with_reducible refine cdW_dec (fun _=>?_) (fun _=>?_)|refine cdW_not (fun _=>?_) (fun _=>?_)|refine cdW_any (fun _=>?_) (fun _=>?_)|with_reducible refine gdW_decT (fun _=>?_) (fun _=>?_)|with_reducible refine gdW_decF (fun _=>?_) (fun _=>?_)|refine gdW_not (fun _=>?_) (fun _=>?_)|refine gdW_any (fun _=>?_) (fun _=>?_)|simp only [go_sem,bne,iQ,iB,iX,Int.reduceLE,iN,iA,iS,iM,setAg,setSt,setKn,setBb,tk_S,tk_K,tk_B,take_map_len,List.length_set, *]|rfl)
 · by_cases h:imm ≥ 16
   · clear h6 h7 b6
     repeat' (first|with_reducible rfl|refine fcW_bd (co) (noRs_May) ?_|with_reducible refine cdW_dec (fun _=>?_) (fun _=>?_)|refine cdW_not (fun _=>?_) (fun _=>?_)|refine cdW_any (fun _=>?_) (fun _=>?_)|with_reducible refine gdW_decT (fun _=>?_) (fun _=>?_)|with_reducible refine gdW_decF (fun _=>?_) (fun _=>?_)|refine gdW_not (fun _=>?_) (fun _=>?_)|refine gdW_any (fun _=>?_) (fun _=>?_)|simp only [go_sem,bne,iQ,iB,iX,Int.reduceLE,iN,iA,iS,iM,setAg,setSt,setKn,setBb,tk_S,tk_K,tk_B,take_map_len,List.length_set, *]|rfl)
   · have h6:=h6 h
     have h7:=h7 h
     have b6:=b6 h
     repeat' (first|with_reducible rfl|refine fcW_bd (co) (noRs_May) ?_|with_reducible refine cdW_dec (fun _=>?_) (fun _=>?_)|refine cdW_not (fun _=>?_) (fun _=>?_)|refine cdW_any (fun _=>?_) (fun _=>?_)|with_reducible refine gdW_decT (fun _=>?_) (fun _=>?_)|with_reducible refine gdW_decF (fun _=>?_) (fun _=>?_)|refine gdW_not (fun _=>?_) (fun _=>?_)|refine gdW_any (fun _=>?_) (fun _=>?_)|simp only [go_sem,bne,iQ,iB,iX,Int.reduceLE,iN,iA,iS,iM,setAg,setSt,setKn,setBb,tk_S,tk_K,tk_B,take_map_len,List.length_set, *]|rfl)
 · clear h6 h7 b6
   repeat' (first|with_reducible rfl|refine fcW_bd (co) (noRs_May) ?_|with_reducible refine cdW_dec (fun _=>?_) (fun _=>?_)|refine cdW_not (fun _=>?_) (fun _=>?_)|refine cdW_any (fun _=>?_) (fun _=>?_)|with_reducible refine gdW_decT (fun _=>?_) (fun _=>?_)|with_reducible refine gdW_decF (fun _=>?_) (fun _=>?_)|refine gdW_not (fun _=>?_) (fun _=>?_)|refine gdW_any (fun _=>?_) (fun _=>?_)|simp only [go_sem,bne,iQ,iB,iX,Int.reduceLE,iN,iA,iS,iM,setAg,setSt,setKn,setBb,tk_S,tk_K,tk_B,take_map_len,List.length_set, *]|rfl)
 · clear h6 h7 b6
   repeat' (first|with_reducible rfl|refine fcW_bd (co) (noRs_May) ?_|with_reducible refine cdW_dec (fun _=>?_) (fun _=>?_)|refine cdW_not (fun _=>?_) (fun _=>?_)|refine cdW_any (fun _=>?_) (fun _=>?_)|with_reducible refine gdW_decT (fun _=>?_) (fun _=>?_)|with_reducible refine gdW_decF (fun _=>?_) (fun _=>?_)|refine gdW_not (fun _=>?_) (fun _=>?_)|refine gdW_any (fun _=>?_) (fun _=>?_)|simp only [go_sem,bne,iQ,iB,iX,Int.reduceLE,iN,iA,iS,iM,setAg,setSt,setKn,setBb,tk_S,tk_K,tk_B,take_map_len,List.length_set, *]|rfl)
 · clear h6 h7 b6
   repeat' (first|with_reducible rfl|refine fcW_bd (co) (noRs_May) ?_|with_reducible refine cdW_dec (fun _=>?_) (fun _=>?_)|refine cdW_not (fun _=>?_) (fun _=>?_)|refine cdW_any (fun _=>?_) (fun _=>?_)|with_reducible refine gdW_decT (fun _=>?_) (fun _=>?_)|with_reducible refine gdW_decF (fun _=>?_) (fun _=>?_)|refine gdW_not (fun _=>?_) (fun _=>?_)|refine gdW_any (fun _=>?_) (fun _=>?_)|simp only [go_sem,bne,iQ,iB,iX,Int.reduceLE,iN,iA,iS,iM,setAg,setSt,setKn,setBb,tk_S,tk_K,tk_B,take_map_len,List.length_set, *]|rfl)
 · clear h6 h7 b6
   repeat' (first|with_reducible rfl|refine fcW_bd (co) (noRs_May) ?_|with_reducible refine cdW_dec (fun _=>?_) (fun _=>?_)|refine cdW_not (fun _=>?_) (fun _=>?_)|refine cdW_any (fun _=>?_) (fun _=>?_)|with_reducible refine gdW_decT (fun _=>?_) (fun _=>?_)|with_reducible refine gdW_decF (fun _=>?_) (fun _=>?_)|refine gdW_not (fun _=>?_) (fun _=>?_)|refine gdW_any (fun _=>?_) (fun _=>?_)|simp only [go_sem,bne,iQ,iB,iX,Int.reduceLE,iN,iA,iS,iM,setAg,setSt,setKn,setBb,tk_S,tk_K,tk_B,take_map_len,List.length_set, *]|rfl)
theorem spec_l13Step.fc (s:StepD) (m:MayD) (hm:MayOk m) (hv:stepB s=true) :
 FCt prog F_spec_l13Step [.ro,.co] [s.d,m.d] (.tup [(mayV s m).1.d,Ii (mayV s m).2]) []:=by
 refine fct_run spec_l13Step.ok rfl ?_
 have ok:=step_ok hv
 have kd:=valid_kind (.inr hv)
 have ln:=hm.len
 obtain ⟨l1,l2,l3,l4,gr,gb,gc⟩:=hm
 obtain ⟨k,op,dst,src,imm,to⟩:=s
 obtain ⟨_,od,os,oi,oo,ot,_,_⟩:=ok
 dsimp only at *
 have c6:((6:Nat):Int)=6:=rfl
 have c16:((16:Nat):Int)=16:=rfl
 have od1:=od.1
 have od2:dst < 6:=by omega
 have os1:=os.1
 have os2:src < 6:=by omega
 have i0:0≤imm:=oi.1
 have q1:m.reg[dst.toNat]? = some (regS m dst):=getD_some (by omega)
 have q2:m.reg[src.toNat]? = some (regS m src):=getD_some (by omega)
 have q3:m.bits[dst.toNat]? = some (bitS m dst):=getD_some (by omega)
 have q4:m.bits[src.toNat]? = some (bitS m src):=getD_some (by omega)
 have sd:=gS_ok (gr _ (List.mem_of_getElem? q1))
 have ss:=gS_ok (gr _ (List.mem_of_getElem? q2))
 have kd1:=gK_ok (gb _ (List.mem_of_getElem? q3))
 have ks:=gK_ok (gb _ (List.mem_of_getElem? q4))
 have sc:=sOk_const oi
 have kc:=kOk_const oi
 have w5:IntKind.i64.wrap ((regS m src).2+imm)=(regS m src).2+imm:=by have:=ss.hi;have:=ss.lo;have:=ss.le;exact wrap_in (by omega) (by omega)
 have h6:¬ imm ≥ 16→m.cell[imm.toNat]? = some (m.cell.getD imm.toNat (0,0)):=fun h=>getD_some (by omega)
 have h7:¬ imm ≥ 16→m.isset[imm.toNat]? = some (m.isset.getD imm.toNat false):=fun h=>getD_some (by omega)
 have b6:¬ imm ≥ 16→imm < 16:=fun h=>by omega
 have cs:=spec_l9Do.fc op (regS m dst) (regS m src) sd ss
 have ck:=spec_l10Do.fc op (bitS m dst) (bitS m src) ks
 have cs2:=spec_l9Do.fc op (regS m dst) (imm,imm) sd sc
 have ck2:=spec_l10Do.fc op (bitS m dst) (imm,0) kc
 have cp:=fun s k=>spec_l13Set.fc m dst s k ln od1 od2
 have cp3:=cp (imm,imm) (imm,0)
 rw [putV_const oi] at cp3
 have cp5:=cp (0,255) (0,255)
 rw [putV_byte] at cp5
 have hp:=fun r=>putM_len (m:=m) (i:=dst) (r:=r) ln
 have pl1:=fun r=>(hp r).reg
 have pl2:=fun r=>(hp r).bits
 have pl3:=fun r=>(hp r).cell
 have pl4:=fun r=>(hp r).isset
 clear hp gr gb gc sd ss kd1 ks sc kc
 unfold mayV
 rcases kd with rfl|rfl|rfl|rfl|rfl|rfl|rfl|rfl|rfl|rfl|rfl
 · clear h6 h7 b6
   repeat' (first|with_reducible rfl|refine fcW_bd (spec_l13Const.fc imm) rfl ?_|refine fcW_bd (cs) rfl ?_|refine fcW_bd (ck) rfl ?_|refine coW_of (cp _ _) (noRs_May) (rfl) ?_|with_reducible refine cdW_dec (fun _=>?_) (fun _=>?_)|refine cdW_not (fun _=>?_) (fun _=>?_)|refine cdW_any (fun _=>?_) (fun _=>?_)|with_reducible refine gdW_decT (fun _=>?_) (fun _=>?_)|with_reducible refine gdW_decF (fun _=>?_) (fun _=>?_)|refine gdW_not (fun _=>?_) (fun _=>?_)|refine gdW_any (fun _=>?_) (fun _=>?_)|simp only [go_sem,bne,iQ,iB,iX,Int.reduceLE,iN,iA,iS,iM,setAg,setSt,setKn,setBb,tk_S,tk_K,tk_B,take_map_len,List.length_set, *]|rfl)
 · clear h6 h7 b6
   repeat' (first|with_reducible rfl|refine fcW_bd (spec_l13Const.fc imm) rfl ?_|refine fcW_bd (cs2) rfl ?_|refine fcW_bd (ck2) rfl ?_|refine coW_of (cp _ _) (noRs_May) (rfl) ?_|with_reducible refine cdW_dec (fun _=>?_) (fun _=>?_)|refine cdW_not (fun _=>?_) (fun _=>?_)|refine cdW_any (fun _=>?_) (fun _=>?_)|with_reducible refine gdW_decT (fun _=>?_) (fun _=>?_)|with_reducible refine gdW_decF (fun _=>?_) (fun _=>?_)|refine gdW_not (fun _=>?_) (fun _=>?_)|refine gdW_any (fun _=>?_) (fun _=>?_)|simp only [go_sem,bne,iQ,iB,iX,Int.reduceLE,iN,iA,iS,iM,setAg,setSt,setKn,setBb,tk_S,tk_K,tk_B,take_map_len,List.length_set, *]|rfl)
 · clear h6 h7 b6
   repeat' (first|with_reducible rfl|refine fcW_bd (spec_l13Const.fc imm) rfl ?_|refine coW_of (cp3) (noRs_May) (rfl) ?_|with_reducible refine cdW_dec (fun _=>?_) (fun _=>?_)|refine cdW_not (fun _=>?_) (fun _=>?_)|refine cdW_any (fun _=>?_) (fun _=>?_)|with_reducible refine gdW_decT (fun _=>?_) (fun _=>?_)|with_reducible refine gdW_decF (fun _=>?_) (fun _=>?_)|refine gdW_not (fun _=>?_) (fun _=>?_)|refine gdW_any (fun _=>?_) (fun _=>?_)|simp only [go_sem,bne,iQ,iB,iX,Int.reduceLE,iN,iA,iS,iM,setAg,setSt,setKn,setBb,tk_S,tk_K,tk_B,take_map_len,List.length_set, *]|rfl)
 · clear h6 h7 b6
   repeat' (first|with_reducible rfl|refine fcW_bd (spec_l13Const.fc imm) rfl ?_|refine coW_of (cp3) (noRs_May) (rfl) ?_|with_reducible refine cdW_dec (fun _=>?_) (fun _=>?_)|refine cdW_not (fun _=>?_) (fun _=>?_)|refine cdW_any (fun _=>?_) (fun _=>?_)|with_reducible refine gdW_decT (fun _=>?_) (fun _=>?_)|with_reducible refine gdW_decF (fun _=>?_) (fun _=>?_)|refine gdW_not (fun _=>?_) (fun _=>?_)|refine gdW_any (fun _=>?_) (fun _=>?_)|simp only [go_sem,bne,iQ,iB,iX,Int.reduceLE,iN,iA,iS,iM,setAg,setSt,setKn,setBb,tk_S,tk_K,tk_B,take_map_len,List.length_set, *]|rfl)
 · clear h6 h7 b6
   by_cases h:(regS m src).2+imm ≥ 8
   · repeat' (first|with_reducible rfl|refine fcW_bd (spec_l13Const.fc imm) rfl ?_|with_reducible refine cdW_dec (fun _=>?_) (fun _=>?_)|refine cdW_not (fun _=>?_) (fun _=>?_)|refine cdW_any (fun _=>?_) (fun _=>?_)|with_reducible refine gdW_decT (fun _=>?_) (fun _=>?_)|with_reducible refine gdW_decF (fun _=>?_) (fun _=>?_)|refine gdW_not (fun _=>?_) (fun _=>?_)|refine gdW_any (fun _=>?_) (fun _=>?_)|simp only [go_sem,bne,iQ,iB,iX,Int.reduceLE,iN,iA,iS,iM,setAg,setSt,setKn,setBb,tk_S,tk_K,tk_B,take_map_len,List.length_set, *]|rfl)
   · repeat' (first|with_reducible rfl|refine fcW_bd (spec_l13Const.fc imm) rfl ?_|refine coW_of (cp5) (noRs_May) (rfl) ?_|with_reducible refine cdW_dec (fun _=>?_) (fun _=>?_)|refine cdW_not (fun _=>?_) (fun _=>?_)|refine cdW_any (fun _=>?_) (fun _=>?_)|with_reducible refine gdW_decT (fun _=>?_) (fun _=>?_)|with_reducible refine gdW_decF (fun _=>?_) (fun _=>?_)|refine gdW_not (fun _=>?_) (fun _=>?_)|refine gdW_any (fun _=>?_) (fun _=>?_)|simp only [go_sem,bne,iQ,iB,iX,Int.reduceLE,iN,iA,iS,iM,setAg,setSt,setKn,setBb,tk_S,tk_K,tk_B,take_map_len,List.length_set, *]|rfl)
 · by_cases h:imm ≥ 16
   · clear h6 h7 b6
     repeat' (first|with_reducible rfl|refine fcW_bd (spec_l13Const.fc imm) rfl ?_|with_reducible refine cdW_dec (fun _=>?_) (fun _=>?_)|refine cdW_not (fun _=>?_) (fun _=>?_)|refine cdW_any (fun _=>?_) (fun _=>?_)|with_reducible refine gdW_decT (fun _=>?_) (fun _=>?_)|with_reducible refine gdW_decF (fun _=>?_) (fun _=>?_)|refine gdW_not (fun _=>?_) (fun _=>?_)|refine gdW_any (fun _=>?_) (fun _=>?_)|simp only [go_sem,bne,iQ,iB,iX,Int.reduceLE,iN,iA,iS,iM,setAg,setSt,setKn,setBb,tk_S,tk_K,tk_B,take_map_len,List.length_set, *]|rfl)
   · have h6:=h6 h
     have h7:=h7 h
     have b6:=b6 h
     cases hq:m.isset.getD imm.toNat false<;>rw [hq] at h7
     · repeat' (first|with_reducible rfl|refine fcW_bd (spec_l13Const.fc imm) rfl ?_|with_reducible refine cdW_dec (fun _=>?_) (fun _=>?_)|refine cdW_not (fun _=>?_) (fun _=>?_)|refine cdW_any (fun _=>?_) (fun _=>?_)|with_reducible refine gdW_decT (fun _=>?_) (fun _=>?_)|with_reducible refine gdW_decF (fun _=>?_) (fun _=>?_)|refine gdW_not (fun _=>?_) (fun _=>?_)|refine gdW_any (fun _=>?_) (fun _=>?_)|simp only [go_sem,bne,iQ,iB,iX,Int.reduceLE,iN,iA,iS,iM,setAg,setSt,setKn,setBb,tk_S,tk_K,tk_B,take_map_len,List.length_set, *]|rfl)
     · repeat' (first|with_reducible rfl|refine fcW_bd (spec_l13Const.fc imm) rfl ?_|refine coW_of (cp _ (0,65535)) (noRs_May) (rfl) ?_|with_reducible refine cdW_dec (fun _=>?_) (fun _=>?_)|refine cdW_not (fun _=>?_) (fun _=>?_)|refine cdW_any (fun _=>?_) (fun _=>?_)|with_reducible refine gdW_decT (fun _=>?_) (fun _=>?_)|with_reducible refine gdW_decF (fun _=>?_) (fun _=>?_)|refine gdW_not (fun _=>?_) (fun _=>?_)|refine gdW_any (fun _=>?_) (fun _=>?_)|simp only [go_sem,bne,iQ,iB,iX,Int.reduceLE,iN,iA,iS,iM,setAg,setSt,setKn,setBb,tk_S,tk_K,tk_B,take_map_len,List.length_set, *]|rfl)
 · by_cases h:imm ≥ 16
   · clear h6 h7 b6
     repeat' (first|with_reducible rfl|refine fcW_bd (spec_l13Const.fc imm) rfl ?_|with_reducible refine cdW_dec (fun _=>?_) (fun _=>?_)|refine cdW_not (fun _=>?_) (fun _=>?_)|refine cdW_any (fun _=>?_) (fun _=>?_)|with_reducible refine gdW_decT (fun _=>?_) (fun _=>?_)|with_reducible refine gdW_decF (fun _=>?_) (fun _=>?_)|refine gdW_not (fun _=>?_) (fun _=>?_)|refine gdW_any (fun _=>?_) (fun _=>?_)|simp only [go_sem,bne,iQ,iB,iX,Int.reduceLE,iN,iA,iS,iM,setAg,setSt,setKn,setBb,tk_S,tk_K,tk_B,take_map_len,List.length_set, *]|rfl)
   · have h6:=h6 h
     have h7:=h7 h
     have b6:=b6 h
     repeat' (first|with_reducible rfl|refine fcW_bd (spec_l13Const.fc imm) rfl ?_|with_reducible refine cdW_dec (fun _=>?_) (fun _=>?_)|refine cdW_not (fun _=>?_) (fun _=>?_)|refine cdW_any (fun _=>?_) (fun _=>?_)|with_reducible refine gdW_decT (fun _=>?_) (fun _=>?_)|with_reducible refine gdW_decF (fun _=>?_) (fun _=>?_)|refine gdW_not (fun _=>?_) (fun _=>?_)|refine gdW_any (fun _=>?_) (fun _=>?_)|simp only [go_sem,bne,iQ,iB,iX,Int.reduceLE,iN,iA,iS,iM,setAg,setSt,setKn,setBb,tk_S,tk_K,tk_B,take_map_len,List.length_set, *]|rfl)
 · clear h6 h7 b6
   repeat' (first|with_reducible rfl|refine fcW_bd (spec_l13Const.fc imm) rfl ?_|with_reducible refine cdW_dec (fun _=>?_) (fun _=>?_)|refine cdW_not (fun _=>?_) (fun _=>?_)|refine cdW_any (fun _=>?_) (fun _=>?_)|with_reducible refine gdW_decT (fun _=>?_) (fun _=>?_)|with_reducible refine gdW_decF (fun _=>?_) (fun _=>?_)|refine gdW_not (fun _=>?_) (fun _=>?_)|refine gdW_any (fun _=>?_) (fun _=>?_)|simp only [go_sem,bne,iQ,iB,iX,Int.reduceLE,iN,iA,iS,iM,setAg,setSt,setKn,setBb,tk_S,tk_K,tk_B,take_map_len,List.length_set, *]|rfl)
 · clear h6 h7 b6
   repeat' (first|with_reducible rfl|refine fcW_bd (spec_l13Const.fc imm) rfl ?_|with_reducible refine cdW_dec (fun _=>?_) (fun _=>?_)|refine cdW_not (fun _=>?_) (fun _=>?_)|refine cdW_any (fun _=>?_) (fun _=>?_)|with_reducible refine gdW_decT (fun _=>?_) (fun _=>?_)|with_reducible refine gdW_decF (fun _=>?_) (fun _=>?_)|refine gdW_not (fun _=>?_) (fun _=>?_)|refine gdW_any (fun _=>?_) (fun _=>?_)|simp only [go_sem,bne,iQ,iB,iX,Int.reduceLE,iN,iA,iS,iM,setAg,setSt,setKn,setBb,tk_S,tk_K,tk_B,take_map_len,List.length_set, *]|rfl)
 · clear h6 h7 b6
   repeat' (first|with_reducible rfl|refine fcW_bd (spec_l13Const.fc imm) rfl ?_|with_reducible refine cdW_dec (fun _=>?_) (fun _=>?_)|refine cdW_not (fun _=>?_) (fun _=>?_)|refine cdW_any (fun _=>?_) (fun _=>?_)|with_reducible refine gdW_decT (fun _=>?_) (fun _=>?_)|with_reducible refine gdW_decF (fun _=>?_) (fun _=>?_)|refine gdW_not (fun _=>?_) (fun _=>?_)|refine gdW_any (fun _=>?_) (fun _=>?_)|simp only [go_sem,bne,iQ,iB,iX,Int.reduceLE,iN,iA,iS,iM,setAg,setSt,setKn,setBb,tk_S,tk_K,tk_B,take_map_len,List.length_set, *]|rfl)
 · clear h6 h7 b6
   repeat' (first|with_reducible rfl|refine fcW_bd (spec_l13Const.fc imm) rfl ?_|with_reducible refine cdW_dec (fun _=>?_) (fun _=>?_)|refine cdW_not (fun _=>?_) (fun _=>?_)|refine cdW_any (fun _=>?_) (fun _=>?_)|with_reducible refine gdW_decT (fun _=>?_) (fun _=>?_)|with_reducible refine gdW_decF (fun _=>?_) (fun _=>?_)|refine gdW_not (fun _=>?_) (fun _=>?_)|refine gdW_any (fun _=>?_) (fun _=>?_)|simp only [go_sem,bne,iQ,iB,iX,Int.reduceLE,iN,iA,iS,iM,setAg,setSt,setKn,setBb,tk_S,tk_K,tk_B,take_map_len,List.length_set, *]|rfl)
theorem mayV_fault {s:StepD} {m:MayD}:(mayV s m).2=0∨(mayV s m).2 > 0:=by
 have key:∀ (c:Prop) [Decidable c] (a b:MayD×Int),(a.2=0∨a.2 > 0)→(b.2=0∨b.2 > 0)→((if c then a else b).2=0∨(if c then a else b).2 > 0):=by
  intro c _ a b ha hb;split
  · exact ha
  · exact hb
 unfold mayV
 repeat' (first|exact .inl rfl|exact .inr (show (1:Int) > 0 by decide)|exact .inr (show (2:Int) > 0 by decide)|exact .inr (show (3:Int) > 0 by decide)|apply key)
end Go.Vm.YtmbhjcgikblpiaaGreat
