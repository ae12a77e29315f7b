/- What the functions that the law reaches return: part 2 (the conditions stand at each). -/
import Derived.Test.YtmbhjcgikblpiaaGreatWka
open Int renaming reduceEq → iQ, reduceBEq → iB, reduceBNe → iX, reduceNeg → iN, reduceAdd → iA, reduceSub → iS, reduceMul → iM
namespace Go.Vm.YtmbhjcgikblpiaaGreat
open Go Go.Vm
set_option maxRecDepth 10000
set_option maxHeartbeats 16000000
set_option linter.unusedSimpArgs false
set_option linter.unusedVariables false
theorem spec_l3Do.fc (p:List StepD) (ctx:List Int) (m:MachD) (s:StepD) (hp:p.length≤20) (hc:CtxOk ctx) (hm:MachOk m) (hpc:m.pc < p.length) (hs:p[m.pc.toNat]? = some s) (hv:stepB s=true) :
 FCt prog Zdo [.ro,.ro,.co] [steps p,ints ctx,m.d] (.tup [(stepM s ctx m).1.d,Ii (stepM s ctx m).2.1,Bb (stepM s ctx m).2.2]) []:=by
 refine Zak spec_l3Do.ok rfl ?_
 have ok:=ZaF hv
 have kd:=Za1 (.inr hv)
 obtain ⟨⟨pc0,pc1⟩,l1,l2,l3,wr,wc⟩:=hm
 obtain ⟨cl,ca⟩:=hc
 obtain ⟨pc,regs,cells,isset⟩:=m
 obtain ⟨k,op,dst,src,imm,to⟩:=s
 obtain ⟨_,od,os,oi,oo,ot,_,_⟩:=ok
 dsimp only at *
 have gd:regs[dst.toNat]? = some (regI ⟨pc,regs,cells,isset⟩ dst):=getD_some (by omega)
 have gs:regs[src.toNat]? = some (regI ⟨pc,regs,cells,isset⟩ src):=getD_some (by omega)
 have ws:0≤regI ⟨pc,regs,cells,isset⟩ src∧regI ⟨pc,regs,cells,isset⟩ src≤65535:=wr _ (List.mem_of_getElem? gs)
 have w1:IntKind.i64.wrap (pc+1)=pc+1:=Zaj (by omega) (by omega)
 have w2:IntKind.i64.wrap (pc+1+to)=pc+to+1:=by rw [Zaj (by omega) (by omega)];omega
 have w4:IntKind.i64.wrap (pc+to)=pc+to:=Zaj (by omega) (by omega)
 have w5:IntKind.i64.wrap (pc+to+1)=pc+to+1:=Zaj (by omega) (by omega)
 have w3:IntKind.i64.wrap (regI ⟨pc,regs,cells,isset⟩ src+imm)=regI ⟨pc,regs,cells,isset⟩ src+imm:=Zaj (by omega) (by omega)
 have od1:=od.1
 have od2:dst < 6:=by omega
 have os1:=os.1
 have os2:src < 6:=by omega
 have c6:((6:Nat):Int)=6:=rfl
 have c8:((8:Nat):Int)=8:=rfl
 have c16:((16:Nat):Int)=16:=rfl
 have i0:0≤imm:=oi.1
 have r0:0≤regI ⟨pc,regs,cells,isset⟩ src+imm:=by omega
 have h5:¬ regI ⟨pc,regs,cells,isset⟩ src+imm ≥ 8→ctx[(regI ⟨pc,regs,cells,isset⟩ src+imm).toNat]? = some (ctx.getD (regI ⟨pc,regs,cells,isset⟩ src+imm).toNat 0):=fun h=>getD_some (by omega)
 have h6:¬ imm ≥ 16→cells[imm.toNat]? = some (cells.getD imm.toNat 0):=fun h=>getD_some (by omega)
 have h7:¬ imm ≥ 16→isset[imm.toNat]? = some (isset.getD imm.toNat false):=fun h=>getD_some (by omega)
 have b5:¬ regI ⟨pc,regs,cells,isset⟩ src+imm ≥ 8→regI ⟨pc,regs,cells,isset⟩ src+imm < 8:=fun h=>by omega
 have b6:¬ imm ≥ 16→imm < 16:=fun h=>by omega
 unfold stepM setR setC setP
 rcases kd with rfl|rfl|rfl|rfl|rfl|rfl|rfl|rfl|rfl|rfl|rfl
 · clear h5 h6 h7 b5 b6
   repeat' (first|with_reducible rfl|refine Zam (spec_l1Do.fc _ _ _ ws.1) ?_|refine Zam (spec_l1Do.fc _ _ _ i0) ?_|with_reducible refine Zah (fun _=>?_) (fun _=>?_)|refine Zaf (fun _=>?_) (fun _=>?_)|refine Zad (fun _=>?_) (fun _=>?_)|with_reducible refine Zab (fun _=>?_) (fun _=>?_)|with_reducible refine Zac (fun _=>?_) (fun _=>?_)|refine Zae (fun _=>?_) (fun _=>?_)|refine Zag (fun _=>?_) (fun _=>?_)|simp only [go_sem,bne,iQ,iB,iX,Int.reduceLE,iN,iA,iS,iM,setIi,setBb,tk_I,tk_B,List.length_set, *]|rfl)
 · clear h5 h6 h7 b5 b6
   repeat' (first|with_reducible rfl|refine Zam (spec_l1Do.fc _ _ _ ws.1) ?_|refine Zam (spec_l1Do.fc _ _ _ i0) ?_|with_reducible refine Zah (fun _=>?_) (fun _=>?_)|refine Zaf (fun _=>?_) (fun _=>?_)|refine Zad (fun _=>?_) (fun _=>?_)|with_reducible refine Zab (fun _=>?_) (fun _=>?_)|with_reducible refine Zac (fun _=>?_) (fun _=>?_)|refine Zae (fun _=>?_) (fun _=>?_)|refine Zag (fun _=>?_) (fun _=>?_)|simp only [go_sem,bne,iQ,iB,iX,Int.reduceLE,iN,iA,iS,iM,setIi,setBb,tk_I,tk_B,List.length_set, *]|rfl)
 · clear h5 h6 h7 b5 b6
   repeat' (first|with_reducible rfl|refine Zam (spec_l1Do.fc _ _ _ ws.1) ?_|refine Zam (spec_l1Do.fc _ _ _ i0) ?_|with_reducible refine Zah (fun _=>?_) (fun _=>?_)|refine Zaf (fun _=>?_) (fun _=>?_)|refine Zad (fun _=>?_) (fun _=>?_)|with_reducible refine Zab (fun _=>?_) (fun _=>?_)|with_reducible refine Zac (fun _=>?_) (fun _=>?_)|refine Zae (fun _=>?_) (fun _=>?_)|refine Zag (fun _=>?_) (fun _=>?_)|simp only [go_sem,bne,iQ,iB,iX,Int.reduceLE,iN,iA,iS,iM,setIi,setBb,tk_I,tk_B,List.length_set, *]|rfl)
 · clear h5 h6 h7 b5 b6
   repeat' (first|with_reducible rfl|refine Zam (spec_l1Do.fc _ _ _ ws.1) ?_|refine Zam (spec_l1Do.fc _ _ _ i0) ?_|with_reducible refine Zah (fun _=>?_) (fun _=>?_)|refine Zaf (fun _=>?_) (fun _=>?_)|refine Zad (fun _=>?_) (fun _=>?_)|with_reducible refine Zab (fun _=>?_) (fun _=>?_)|with_reducible refine Zac (fun _=>?_) (fun _=>?_)|refine Zae (fun _=>?_) (fun _=>?_)|refine Zag (fun _=>?_) (fun _=>?_)|simp only [go_sem,bne,iQ,iB,iX,Int.reduceLE,iN,iA,iS,iM,setIi,setBb,tk_I,tk_B,List.length_set, *]|rfl)
 · clear h6 h7 b6
   by_cases h:regI ⟨pc,regs,cells,isset⟩ src+imm ≥ 8
   · clear h5 b5
     repeat' (first|with_reducible rfl|refine Zam (spec_l1Do.fc _ _ _ ws.1) ?_|refine Zam (spec_l1Do.fc _ _ _ i0) ?_|with_reducible refine Zah (fun _=>?_) (fun _=>?_)|refine Zaf (fun _=>?_) (fun _=>?_)|refine Zad (fun _=>?_) (fun _=>?_)|with_reducible refine Zab (fun _=>?_) (fun _=>?_)|with_reducible refine Zac (fun _=>?_) (fun _=>?_)|refine Zae (fun _=>?_) (fun _=>?_)|refine Zag (fun _=>?_) (fun _=>?_)|simp only [go_sem,bne,iQ,iB,iX,Int.reduceLE,iN,iA,iS,iM,setIi,setBb,tk_I,tk_B,List.length_set, *]|rfl)
   · have h5:=h5 h
     have b5:=b5 h
     repeat' (first|with_reducible rfl|refine Zam (spec_l1Do.fc _ _ _ ws.1) ?_|refine Zam (spec_l1Do.fc _ _ _ i0) ?_|with_reducible refine Zah (fun _=>?_) (fun _=>?_)|refine Zaf (fun _=>?_) (fun _=>?_)|refine Zad (fun _=>?_) (fun _=>?_)|with_reducible refine Zab (fun _=>?_) (fun _=>?_)|with_reducible refine Zac (fun _=>?_) (fun _=>?_)|refine Zae (fun _=>?_) (fun _=>?_)|refine Zag (fun _=>?_) (fun _=>?_)|simp only [go_sem,bne,iQ,iB,iX,Int.reduceLE,iN,iA,iS,iM,setIi,setBb,tk_I,tk_B,List.length_set, *]|rfl)
 · clear h5 b5
   by_cases h:imm ≥ 16
   · clear h6 h7 b6
     repeat' (first|with_reducible rfl|refine Zam (spec_l1Do.fc _ _ _ ws.1) ?_|refine Zam (spec_l1Do.fc _ _ _ i0) ?_|with_reducible refine Zah (fun _=>?_) (fun _=>?_)|refine Zaf (fun _=>?_) (fun _=>?_)|refine Zad (fun _=>?_) (fun _=>?_)|with_reducible refine Zab (fun _=>?_) (fun _=>?_)|with_reducible refine Zac (fun _=>?_) (fun _=>?_)|refine Zae (fun _=>?_) (fun _=>?_)|refine Zag (fun _=>?_) (fun _=>?_)|simp only [go_sem,bne,iQ,iB,iX,Int.reduceLE,iN,iA,iS,iM,setIi,setBb,tk_I,tk_B,List.length_set, *]|rfl)
   · have h6:=h6 h
     have h7:=h7 h
     have b6:=b6 h
     cases hq:isset.getD imm.toNat false<;>rw [hq] at h7
     · repeat' (first|with_reducible rfl|refine Zam (spec_l1Do.fc _ _ _ ws.1) ?_|refine Zam (spec_l1Do.fc _ _ _ i0) ?_|with_reducible refine Zah (fun _=>?_) (fun _=>?_)|refine Zaf (fun _=>?_) (fun _=>?_)|refine Zad (fun _=>?_) (fun _=>?_)|with_reducible refine Zab (fun _=>?_) (fun _=>?_)|with_reducible refine Zac (fun _=>?_) (fun _=>?_)|refine Zae (fun _=>?_) (fun _=>?_)|refine Zag (fun _=>?_) (fun _=>?_)|simp only [go_sem,bne,iQ,iB,iX,Int.reduceLE,iN,iA,iS,iM,setIi,setBb,tk_I,tk_B,List.length_set, *]|rfl)
     · repeat' (first|with_reducible rfl|refine Zam (spec_l1Do.fc _ _ _ ws.1) ?_|refine Zam (spec_l1Do.fc _ _ _ i0) ?_|with_reducible refine Zah (fun _=>?_) (fun _=>?_)|refine Zaf (fun _=>?_) (fun _=>?_)|refine Zad (fun _=>?_) (fun _=>?_)|with_reducible refine Zab (fun _=>?_) (fun _=>?_)|with_reducible refine Zac (fun _=>?_) (fun _=>?_)|refine Zae (fun _=>?_) (fun _=>?_)|refine Zag (fun _=>?_) (fun _=>?_)|simp only [go_sem,bne,iQ,iB,iX,Int.reduceLE,iN,iA,iS,iM,setIi,setBb,tk_I,tk_B,List.length_set, *]|rfl)
 · clear h5 b5
   by_cases h:imm ≥ 16
   · clear h6 h7 b6
     repeat' (first|with_reducible rfl|refine Zam (spec_l1Do.fc _ _ _ ws.1) ?_|refine Zam (spec_l1Do.fc _ _ _ i0) ?_|with_reducible refine Zah (fun _=>?_) (fun _=>?_)|refine Zaf (fun _=>?_) (fun _=>?_)|refine Zad (fun _=>?_) (fun _=>?_)|with_reducible refine Zab (fun _=>?_) (fun _=>?_)|with_reducible refine Zac (fun _=>?_) (fun _=>?_)|refine Zae (fun _=>?_) (fun _=>?_)|refine Zag (fun _=>?_) (fun _=>?_)|simp only [go_sem,bne,iQ,iB,iX,Int.reduceLE,iN,iA,iS,iM,setIi,setBb,tk_I,tk_B,List.length_set, *]|rfl)
   · have h6:=h6 h
     have h7:=h7 h
     have b6:=b6 h
     repeat' (first|with_reducible rfl|refine Zam (spec_l1Do.fc _ _ _ ws.1) ?_|refine Zam (spec_l1Do.fc _ _ _ i0) ?_|with_reducible refine Zah (fun _=>?_) (fun _=>?_)|refine Zaf (fun _=>?_) (fun _=>?_)|refine Zad (fun _=>?_) (fun _=>?_)|with_reducible refine Zab (fun _=>?_) (fun _=>?_)|with_reducible refine Zac (fun _=>?_) (fun _=>?_)|refine Zae (fun _=>?_) (fun _=>?_)|refine Zag (fun _=>?_) (fun _=>?_)|simp only [go_sem,bne,iQ,iB,iX,Int.reduceLE,iN,iA,iS,iM,setIi,setBb,tk_I,tk_B,List.length_set, *]|rfl)
 · clear h5 h6 h7 b5 b6
   repeat' (first|with_reducible rfl|refine Zam (spec_l1Do.fc _ _ _ ws.1) ?_|refine Zam (spec_l1Do.fc _ _ _ i0) ?_|with_reducible refine Zah (fun _=>?_) (fun _=>?_)|refine Zaf (fun _=>?_) (fun _=>?_)|refine Zad (fun _=>?_) (fun _=>?_)|with_reducible refine Zab (fun _=>?_) (fun _=>?_)|with_reducible refine Zac (fun _=>?_) (fun _=>?_)|refine Zae (fun _=>?_) (fun _=>?_)|refine Zag (fun _=>?_) (fun _=>?_)|simp only [go_sem,bne,iQ,iB,iX,Int.reduceLE,iN,iA,iS,iM,setIi,setBb,tk_I,tk_B,List.length_set, *]|rfl)
 · clear h5 h6 h7 b5 b6
   repeat' (first|with_reducible rfl|refine Zam (spec_l1Do.fc _ _ _ ws.1) ?_|refine Zam (spec_l1Do.fc _ _ _ i0) ?_|with_reducible refine Zah (fun _=>?_) (fun _=>?_)|refine Zaf (fun _=>?_) (fun _=>?_)|refine Zad (fun _=>?_) (fun _=>?_)|with_reducible refine Zab (fun _=>?_) (fun _=>?_)|with_reducible refine Zac (fun _=>?_) (fun _=>?_)|refine Zae (fun _=>?_) (fun _=>?_)|refine Zag (fun _=>?_) (fun _=>?_)|simp only [go_sem,bne,iQ,iB,iX,Int.reduceLE,iN,iA,iS,iM,setIi,setBb,tk_I,tk_B,List.length_set, *]|rfl)
 · clear h5 h6 h7 b5 b6
   repeat' (first|with_reducible rfl|refine Zam (spec_l1Do.fc _ _ _ ws.1) ?_|refine Zam (spec_l1Do.fc _ _ _ i0) ?_|with_reducible refine Zah (fun _=>?_) (fun _=>?_)|refine Zaf (fun _=>?_) (fun _=>?_)|refine Zad (fun _=>?_) (fun _=>?_)|with_reducible refine Zab (fun _=>?_) (fun _=>?_)|with_reducible refine Zac (fun _=>?_) (fun _=>?_)|refine Zae (fun _=>?_) (fun _=>?_)|refine Zag (fun _=>?_) (fun _=>?_)|simp only [go_sem,bne,iQ,iB,iX,Int.reduceLE,iN,iA,iS,iM,setIi,setBb,tk_I,tk_B,List.length_set, *]|rfl)
 · clear h5 h6 h7 b5 b6
   repeat' (first|with_reducible rfl|refine Zam (spec_l1Do.fc _ _ _ ws.1) ?_|refine Zam (spec_l1Do.fc _ _ _ i0) ?_|with_reducible refine Zah (fun _=>?_) (fun _=>?_)|refine Zaf (fun _=>?_) (fun _=>?_)|refine Zad (fun _=>?_) (fun _=>?_)|with_reducible refine Zab (fun _=>?_) (fun _=>?_)|with_reducible refine Zac (fun _=>?_) (fun _=>?_)|refine Zae (fun _=>?_) (fun _=>?_)|refine Zag (fun _=>?_) (fun _=>?_)|simp only [go_sem,bne,iQ,iB,iX,Int.reduceLE,iN,iA,iS,iM,setIi,setBb,tk_I,tk_B,List.length_set, *]|rfl)
structure ProgOk (p:List StepD):Prop where
 len:1≤p.length∧p.length≤20
 all:∀ (i:Nat) (h:i < p.length),stepB p[i]=true∧(p[i].to > 0→(i:Int)+p[i].to+1 < p.length)
 last:lastK p=11
theorem Zdj {p:List StepD} (h:goodP p=true):ProgOk p:=by
 simp only [goodP,Bool.and_eq_true,inB,decide_eq_true_eq,beq_iff_eq,List.all_eq_true,List.mem_range] at h
 refine ⟨by omega,fun i hi=>?_,h.1.2⟩
 have:=h.2 i hi
 unfold okAt at this
 rw [List.getElem?_eq_getElem hi] at this
 simp only [Bool.and_eq_true,Bool.not_eq_true',Bool.and_eq_false_iff,decide_eq_false_iff_not] at this
 exact ⟨this.1,by omega⟩
def stepAt (p:List StepD) (ctx:List Int) (m:MachD):MachD×Int×Bool:=match p[m.pc.toNat]? with
 | some s=>stepM s ctx m
 | none=>(m,0,false)
theorem ZgJ {s:StepD} {ctx:List Int} {m:MachD}:(stepM s ctx m).2.1=0∨(stepM s ctx m).2.1 > 0:=by
 have key:∀ (c:Prop) [Decidable c] (a b:MachD×Int×Bool),(a.2.1=0∨a.2.1 > 0)→(b.2.1=0∨b.2.1 > 0)→((if c then a else b).2.1=0∨(if c then a else b).2.1 > 0):=by
  intro c _ a b ha hb;split
  · exact ha
  · exact hb
 unfold stepM
 repeat' (first|exact .inl rfl|exact .inr (show (1:Int) > 0 by decide)|exact .inr (show (2:Int) > 0 by decide)|exact .inr (show (3:Int) > 0 by decide)|apply key)
theorem ZnT {m:MachD}:noRsL [.ptr m.d]=true:=by
 show (noRs (.ptr m.d)&&true)=true
 rw [Bool.and_true]
 exact ZcO
theorem ZnE {α:Type} {f:α→D} {l:List α} {x:α}:l.map f++[f x]=(l++[x]).map f:=by rw [List.map_append];rfl
def reduS (s k:Int×Int):Option ((Int×Int)×(Int×Int)) :=
 let lo:=if k.1 > s.1 then k.1 else s.1
 let hi:=if IntKind.i64.wrap (k.1+k.2) < s.2 then IntKind.i64.wrap (k.1+k.2) else s.2
 if lo > hi then none else if lo < hi then some ((lo,hi),k) else if andNotI lo k.2 == k.1 then some ((lo,hi),(lo,0)) else none
def reduD (o:Option ((Int×Int)×(Int×Int))):D:=match o with
 | some r=>.tup [strD r.1,knownD r.2,Bb true]
 | none=>.tup [strD (0,0),knownD (0,0),Bb false]
theorem Zl1 (s k:Int×Int):redu s.1 s.2 k.1 k.2=reduD (reduS s k):=by
 unfold redu reduS reduD
 generalize (if k.1 > s.1 then k.1 else s.1)=lo
 generalize (if IntKind.i64.wrap (k.1+k.2) < s.2 then IntKind.i64.wrap (k.1+k.2) else s.2)=hi
 dsimp only
 split
 · rfl
 · split
   · rfl
   · split<;>rfl
theorem impl_reduceBoth.fcv (s k:Int×Int):FCt prog ZbA [.ro,.ro] [strD s,knownD k] (reduD (reduS s k)) []:=Zl1 s k▸impl_reduceBoth.fc s.1 s.2 k.1 k.2
theorem spec_l13Reduce.fcv (s k:Int×Int):FCt prog ZbH [.ro,.ro] [strD s,knownD k] (reduD (reduS s k)) []:=Zl1 s k▸spec_l13Reduce.fc s.1 s.2 k.1 k.2
def putV (s k:Int×Int):(Int×Int)×(Int×Int):=match reduS s k with
 | some r=>r
 | none=>(s,k)
def putM (m:MayD) (i:Int) (r:(Int×Int)×(Int×Int)):MayD:={ m with reg:=m.reg.set i.toNat r.1,bits:=m.bits.set i.toNat r.2 }
theorem Zg6 {m:MayD} {i:Int} {r:(Int×Int)×(Int×Int)} (h:MLen m):MLen (putM m i r):=⟨by simp [putM,h.reg],by simp [putM,h.bits],h.cell,h.isset⟩
theorem setSt {l:List (Int×Int)} {i:Nat} {x:Int×Int}:(l.map strD).set i (strD x)=(l.set i x).map strD:=by rw [List.map_set]
theorem setKn {l:List (Int×Int)} {i:Nat} {x:Int×Int}:(l.map knownD).set i (knownD x)=(l.set i x).map knownD:=by rw [List.map_set]
theorem tk_S {n:Nat} {l:List (Int×Int)} (h:l.length=n):(l.map strD).take n=l.map strD:=List.take_of_length_le (by simp [h])
theorem tk_K {n:Nat} {l:List (Int×Int)} (h:l.length=n):(l.map knownD).take n=l.map knownD:=List.take_of_length_le (by simp [h])
theorem Zfb {m:MayD}:noRsL [.ptr m.d]=true:=by
 show (noRs (.ptr m.d)&&true)=true
 rw [Bool.and_true]
 exact Zar
theorem impl_pMay_put.fc (m:MayD) (i:Int) (s k:Int×Int) (hm:MLen m) (h0:0≤i) (h1:i < 6) :
 FCt prog Zbs [.io,.ro,.ro,.ro] [.ptr m.d,Ii i,strD s,knownD k] (.tup []) [.ptr (putM m i (putV s k)).d]:=by
 refine Zak impl_pMay_put.ok rfl ?_
 obtain ⟨l1,l2,l3,l4⟩:=hm
 have cr:=impl_reduceBoth.fcv s k
 have c6:((6:Nat):Int)=6:=rfl
 have g1:m.reg[i.toNat]? = some (m.reg[i.toNat]'(by omega)):=List.getElem?_eq_getElem (by omega)
 have g2:m.bits[i.toNat]? = some (m.bits[i.toNat]'(by omega)):=List.getElem?_eq_getElem (by omega)
 unfold putM putV
 unfold reduD at cr
 cases hr:reduS s k with
 | none =>
  rw [hr] at cr
  repeat' (first|with_reducible rfl|refine Zal (cr) rfl ?_|with_reducible refine Zah (fun _=>?_) (fun _=>?_)|refine Zaf (fun _=>?_) (fun _=>?_)|refine Zad (fun _=>?_) (fun _=>?_)|with_reducible refine Zab (fun _=>?_) (fun _=>?_)|with_reducible refine Zac (fun _=>?_) (fun _=>?_)|refine Zae (fun _=>?_) (fun _=>?_)|refine Zag (fun _=>?_) (fun _=>?_)|simp only [go_sem,bne,iQ,iB,iX,Int.reduceLE,iN,iA,iS,iM,setSt,setKn,tk_S,tk_K,tk_B,List.length_set, *]|rfl)
 | some r =>
  rw [hr] at cr
  obtain ⟨r1,r2⟩:=r
  dsimp only at cr
  repeat' (first|with_reducible rfl|refine Zal (cr) rfl ?_|with_reducible refine Zah (fun _=>?_) (fun _=>?_)|refine Zaf (fun _=>?_) (fun _=>?_)|refine Zad (fun _=>?_) (fun _=>?_)|with_reducible refine Zab (fun _=>?_) (fun _=>?_)|with_reducible refine Zac (fun _=>?_) (fun _=>?_)|refine Zae (fun _=>?_) (fun _=>?_)|refine Zag (fun _=>?_) (fun _=>?_)|simp only [go_sem,bne,iQ,iB,iX,Int.reduceLE,iN,iA,iS,iM,setSt,setKn,tk_S,tk_K,tk_B,List.length_set, *]|rfl)
theorem spec_l13Set.fc (m:MayD) (i:Int) (s k:Int×Int) (hm:MLen m) (h0:0≤i) (h1:i < 6) :
 FCt prog Zbd [.co,.ro,.ro,.ro] [m.d,Ii i,strD s,knownD k] (putM m i (putV s k)).d []:=by
 refine Zak spec_l13Set.ok rfl ?_
 obtain ⟨l1,l2,l3,l4⟩:=hm
 have cr:=spec_l13Reduce.fcv s k
 have c6:((6:Nat):Int)=6:=rfl
 have g1:m.reg[i.toNat]? = some (m.reg[i.toNat]'(by omega)):=List.getElem?_eq_getElem (by omega)
 have g2:m.bits[i.toNat]? = some (m.bits[i.toNat]'(by omega)):=List.getElem?_eq_getElem (by omega)
 unfold putM putV
 unfold reduD at cr
 cases hr:reduS s k with
 | none =>
  rw [hr] at cr
  repeat' (first|with_reducible rfl|refine Zal (cr) rfl ?_|with_reducible refine Zah (fun _=>?_) (fun _=>?_)|refine Zaf (fun _=>?_) (fun _=>?_)|refine Zad (fun _=>?_) (fun _=>?_)|with_reducible refine Zab (fun _=>?_) (fun _=>?_)|with_reducible refine Zac (fun _=>?_) (fun _=>?_)|refine Zae (fun _=>?_) (fun _=>?_)|refine Zag (fun _=>?_) (fun _=>?_)|simp only [go_sem,bne,iQ,iB,iX,Int.reduceLE,iN,iA,iS,iM,setSt,setKn,tk_S,tk_K,tk_B,List.length_set, *]|rfl)
 | some r =>
  rw [hr] at cr
  obtain ⟨r1,r2⟩:=r
  dsimp only at cr
  repeat' (first|with_reducible rfl|refine Zal (cr) rfl ?_|with_reducible refine Zah (fun _=>?_) (fun _=>?_)|refine Zaf (fun _=>?_) (fun _=>?_)|refine Zad (fun _=>?_) (fun _=>?_)|with_reducible refine Zab (fun _=>?_) (fun _=>?_)|with_reducible refine Zac (fun _=>?_) (fun _=>?_)|refine Zae (fun _=>?_) (fun _=>?_)|refine Zag (fun _=>?_) (fun _=>?_)|simp only [go_sem,bne,iQ,iB,iX,Int.reduceLE,iN,iA,iS,iM,setSt,setKn,tk_S,tk_K,tk_B,List.length_set, *]|rfl)
set_option maxHeartbeats 32000000
def regS (m:MayD) (i:Int):Int×Int:=m.reg.getD i.toNat (0,0)
def bitS (m:MayD) (i:Int):Int×Int:=m.bits.getD i.toNat (0,0)
def mayV (s:StepD) (m:MayD):MayD×Int :=
 if s.kind == 1 then (putM m s.dst (putV (stI s.op (regS m s.dst) (regS m s.src)) (kdI s.op (bitS m s.dst) (bitS m s.src))),0) else
 if s.kind == 2 then (putM m s.dst (putV (stI s.op (regS m s.dst) (s.imm,s.imm)) (kdI s.op (bitS m s.dst) (s.imm,0))),0) else
 if s.kind == 3 then (putM m s.dst ((s.imm,s.imm),(s.imm,0)),0) else
 if s.kind == 4 then (putM m s.dst ((s.imm,s.imm),(s.imm,0)),0) else
 if s.kind == 5 then (if (regS m s.src).2+s.imm ≥ 8 then (m,1) else (putM m s.dst ((0,255),(0,255)),0)) else
 if s.kind == 7 then (if s.imm ≥ 16 then (m,2) else ({ m with cell:=m.cell.set s.imm.toNat (regS m s.dst),isset:=m.isset.set s.imm.toNat true },0)) else
 if s.kind == 6 then (if s.imm ≥ 16 then (m,2) else if m.isset.getD s.imm.toNat false then (putM m s.dst (putV (m.cell.getD s.imm.toNat (0,0)) (0,65535)),0) else (m,3)) else
 (m,0)
theorem ZkK {n:Int} (h:0≤n∧n≤65535):putV (n,n) (n,0)=((n,n),(n,0)):=by
 have e:andNotI n 0=n:=by
  have hn:wd n:=h
  rw [Zeq hn.nn ⟨by decide,by decide⟩]
  simp
  omega
 have hw:IntKind.i64.wrap (n+0)=n:=by rw [Int.add_zero];exact Zaj (by omega) (by omega)
 unfold putV reduS
 dsimp only
 rw [hw]
 simp [e]
theorem ZlG:putV (0,255) (0,255)=((0,255),(0,255)):=by decide
theorem ZcI {n:Int} (h:0≤n∧n≤65535):KOk (n,0):=by
 refine ⟨h,(⟨by decide,by decide⟩:wd 0),?_⟩
 have hn:wd n:=h
 show andI n 0=0
 rw [Zd4 hn.nn ⟨by decide,by decide⟩];simp
theorem Zdu {n:Int} (h:0≤n∧n≤65535):SOk (n,n):=⟨h.1,Int.le_refl _,h.2⟩
theorem setAg {l:List (Int×Int)} {i:Nat} {a b:Int}:(l.map strD).set i (D.agg [D.int .i64 a,D.int .i64 b])=(l.set i (a,b)).map strD:=by rw [List.map_set]
def MayZ (m:MayD) (f:Int):MayD:=if f == 0 then m else zeroM
theorem impl_stepMay.fc (s:StepD) (m:MayD) (hm:MayOk m) (hv:stepB s=true) :
 FCt prog Zcg [.ro,.ro] [s.d,m.d] (.tup [(MayZ (mayV s m).1 (mayV s m).2).d,Ii (mayV s m).2]) []:=by
 refine Zak impl_stepMay.ok rfl ?_
 have ok:=ZaF hv
 have kd:=Za1 (.inr hv)
 have ln:=hm.len
 have co:=impl_May_own.fc m ln
 obtain ⟨l1,l2,l3,l4,gr,gb,gc⟩:=hm
 obtain ⟨k,op,dst,src,imm,to⟩:=s
 obtain ⟨_,od,os,oi,oo,ot,_,_⟩:=ok
 dsimp only at *
 have c6:((6:Nat):Int)=6:=rfl
 have c16:((16:Nat):Int)=16:=rfl
 have od1:=od.1
 have od2:dst < 6:=by omega
 have os1:=os.1
 have os2:src < 6:=by omega
 have i0:0≤imm:=oi.1
 have q1:m.reg[dst.toNat]? = some (regS m dst):=getD_some (by omega)
 have q2:m.reg[src.toNat]? = some (regS m src):=getD_some (by omega)
 have q3:m.bits[dst.toNat]? = some (bitS m dst):=getD_some (by omega)
 have q4:m.bits[src.toNat]? = some (bitS m src):=getD_some (by omega)
 have sd:=ZeE (gr _ (List.mem_of_getElem? q1))
 have ss:=ZeE (gr _ (List.mem_of_getElem? q2))
 have kd1:=ZfJ (gb _ (List.mem_of_getElem? q3))
 have ks:=ZfJ (gb _ (List.mem_of_getElem? q4))
 have sc:=Zdu oi
 have kc:=ZcI oi
 have w5:IntKind.i64.wrap ((regS m src).2+imm)=(regS m src).2+imm:=by have:=ss.hi;have:=ss.lo;have:=ss.le;exact Zaj (by omega) (by omega)
 have h6:¬ imm ≥ 16→m.cell[imm.toNat]? = some (m.cell.getD imm.toNat (0,0)):=fun h=>getD_some (by omega)
 have h7:¬ imm ≥ 16→m.isset[imm.toNat]? = some (m.isset.getD imm.toNat false):=fun h=>getD_some (by omega)
 have b6:¬ imm ≥ 16→imm < 16:=fun h=>by omega
 have cs:=impl_stretched.fc op (regS m dst) (regS m src) sd ss
 have ck:=impl_doKnown.fc op (bitS m dst) (bitS m src) kd1 ks
 have cs2:=impl_stretched.fc op (regS m dst) (imm,imm) sd sc
 have ck2:=impl_doKnown.fc op (bitS m dst) (imm,0) kd1 kc
 have cp:=fun s k=>impl_pMay_put.fc m dst s k ln od1 od2
 have hp:=fun r=>Zg6 (m:=m) (i:=dst) (r:=r) ln
 have pl1:=fun r=>(hp r).reg
 have pl2:=fun r=>(hp r).bits
 have pl3:=fun r=>(hp r).cell
 have pl4:=fun r=>(hp r).isset
 clear hp gr gb gc sd ss kd1 ks sc kc
 unfold mayV MayZ zeroM
 rcases kd with rfl|rfl|rfl|rfl|rfl|rfl|rfl|rfl|rfl|rfl|rfl
 · clear h6 h7 b6
   repeat' (first|with_reducible rfl|refine Zal (co) (Zar) ?_|refine Zal (cs) rfl ?_|refine Zal (ck) rfl ?_|refine ZbL (cp _ _) (rfl) (Zfb) ?_|with_reducible refine Zah (fun _=>?_) (fun _=>?_)|refine Zaf (fun _=>?_) (fun _=>?_)|refine Zad (fun _=>?_) (fun _=>?_)|with_reducible refine Zab (fun _=>?_) (fun _=>?_)|with_reducible refine Zac (fun _=>?_) (fun _=>?_)|refine Zae (fun _=>?_) (fun _=>?_)|refine Zag (fun _=>?_) (fun _=>?_)|simp only [go_sem,bne,iQ,iB,iX,Int.reduceLE,iN,iA,iS,iM,setAg,setSt,setKn,setBb,tk_S,tk_K,tk_B,Zaa,List.length_set, *]|rfl)
 · clear h6 h7 b6
   repeat' (first|with_reducible rfl|refine Zal (co) (Zar) ?_|refine Zal (cs2) rfl ?_|refine Zal (impl_exact.fc imm) rfl ?_|refine Zal (ck2) rfl ?_|refine ZbL (cp _ _) (rfl) (Zfb) ?_|with_reducible refine Zah (fun _=>?_) (fun _=>?_)|refine Zaf (fun _=>?_) (fun _=>?_)|refine Zad (fun _=>?_) (fun _=>?_)|with_reducible refine Zab (fun _=>?_) (fun _=>?_)|with_reducible refine Zac (fun _=>?_) (fun _=>?_)|refine Zae (fun _=>?_) (fun _=>?_)|refine Zag (fun _=>?_) (fun _=>?_)|simp only [go_sem,bne,iQ,iB,iX,Int.reduceLE,iN,iA,iS,iM,setAg,setSt,setKn,setBb,tk_S,tk_K,tk_B,Zaa,List.length_set, *]|rfl)
 · clear h6 h7 b6
   repeat' (first|with_reducible rfl|refine Zal (co) (Zar) ?_|refine Zal (impl_exact.fc imm) rfl ?_|with_reducible refine Zah (fun _=>?_) (fun _=>?_)|refine Zaf (fun _=>?_) (fun _=>?_)|refine Zad (fun _=>?_) (fun _=>?_)|with_reducible refine Zab (fun _=>?_) (fun _=>?_)|with_reducible refine Zac (fun _=>?_) (fun _=>?_)|refine Zae (fun _=>?_) (fun _=>?_)|refine Zag (fun _=>?_) (fun _=>?_)|simp only [go_sem,bne,iQ,iB,iX,Int.reduceLE,iN,iA,iS,iM,setAg,setSt,setKn,setBb,tk_S,tk_K,tk_B,Zaa,List.length_set, *]|rfl)
 · clear h6 h7 b6
   repeat' (first|with_reducible rfl|refine Zal (co) (Zar) ?_|refine Zal (impl_exact.fc imm) rfl ?_|with_reducible refine Zah (fun _=>?_) (fun _=>?_)|refine Zaf (fun _=>?_) (fun _=>?_)|refine Zad (fun _=>?_) (fun _=>?_)|with_reducible refine Zab (fun _=>?_) (fun _=>?_)|with_reducible refine Zac (fun _=>?_) (fun _=>?_)|refine Zae (fun _=>?_) (fun _=>?_)|refine Zag (fun _=>?_) (fun _=>?_)|simp only [go_sem,bne,iQ,iB,iX,Int.reduceLE,iN,iA,iS,iM,setAg,setSt,setKn,setBb,tk_S,tk_K,tk_B,Zaa,List.length_set, *]|rfl)
 · clear h6 h7 b6
   by_cases h:(regS m src).2+imm ≥ 8
   · repeat' (first|with_reducible rfl|refine Zal (co) (Zar) ?_|with_reducible refine Zah (fun _=>?_) (fun _=>?_)|refine Zaf (fun _=>?_) (fun _=>?_)|refine Zad (fun _=>?_) (fun _=>?_)|with_reducible refine Zab (fun _=>?_) (fun _=>?_)|with_reducible refine Zac (fun _=>?_) (fun _=>?_)|refine Zae (fun _=>?_) (fun _=>?_)|refine Zag (fun _=>?_) (fun _=>?_)|simp only [go_sem,bne,iQ,iB,iX,Int.reduceLE,iN,iA,iS,iM,setAg,setSt,setKn,setBb,tk_S,tk_K,tk_B,Zaa,List.length_set, *]|rfl)
   · repeat' (first|with_reducible rfl|refine Zal (co) (Zar) ?_|with_reducible refine Zah (fun _=>?_) (fun _=>?_)|refine Zaf (fun _=>?_) (fun _=>?_)|refine Zad (fun _=>?_) (fun _=>?_)|with_reducible refine Zab (fun _=>?_) (fun _=>?_)|with_reducible refine Zac (fun _=>?_) (fun _=>?_)|refine Zae (fun _=>?_) (fun _=>?_)|refine Zag (fun _=>?_) (fun _=>?_)|simp only [go_sem,bne,iQ,iB,iX,Int.reduceLE,iN,iA,iS,iM,setAg,setSt,setKn,setBb,tk_S,tk_K,tk_B,Zaa,List.length_set, *]|rfl)
 · by_cases h:imm ≥ 16
   · clear h6 h7 b6
     repeat' (first|with_reducible rfl|refine Zal (co) (Zar) ?_|with_reducible refine Zah (fun _=>?_) (fun _=>?_)|refine Zaf (fun _=>?_) (fun _=>?_)|refine Zad (fun _=>?_) (fun _=>?_)|with_reducible refine Zab (fun _=>?_) (fun _=>?_)|with_reducible refine Zac (fun _=>?_) (fun _=>?_)|refine Zae (fun _=>?_) (fun _=>?_)|refine Zag (fun _=>?_) (fun _=>?_)|simp only [go_sem,bne,iQ,iB,iX,Int.reduceLE,iN,iA,iS,iM,setAg,setSt,setKn,setBb,tk_S,tk_K,tk_B,Zaa,List.length_set, *]|rfl)
   · have h6:=h6 h
     have h7:=h7 h
     have b6:=b6 h
     cases hq:m.isset.getD imm.toNat false<;>rw [hq] at h7
     · repeat' (first|with_reducible rfl|refine Zal (co) (Zar) ?_|with_reducible refine Zah (fun _=>?_) (fun _=>?_)|refine Zaf (fun _=>?_) (fun _=>?_)|refine Zad (fun _=>?_) (fun _=>?_)|with_reducible refine Zab (fun _=>?_) (fun _=>?_)|with_reducible refine Zac (fun _=>?_) (fun _=>?_)|refine Zae (fun _=>?_) (fun _=>?_)|refine Zag (fun _=>?_) (fun _=>?_)|simp only [go_sem,bne,iQ,iB,iX,Int.reduceLE,iN,iA,iS,iM,setAg,setSt,setKn,setBb,tk_S,tk_K,tk_B,Zaa,List.length_set, *]|rfl)
     · repeat' (first|with_reducible rfl|refine Zal (co) (Zar) ?_|refine Zal (impl_unknown.fc) rfl ?_|refine ZbL (cp _ (0,65535)) (rfl) (Zfb) ?_|with_reducible refine Zah (fun _=>?_) (fun _=>?_)|refine Zaf (fun _=>?_) (fun _=>?_)|refine Zad (fun _=>?_) (fun _=>?_)|with_reducible refine Zab (fun _=>?_) (fun _=>?_)|with_reducible refine Zac (fun _=>?_) (fun _=>?_)|refine Zae (fun _=>?_) (fun _=>?_)|refine Zag (fun _=>?_) (fun _=>?_)|simp only [go_sem,bne,iQ,iB,iX,Int.reduceLE,iN,iA,iS,iM,setAg,setSt,setKn,setBb,tk_S,tk_K,tk_B,Zaa,List.length_set, *]|rfl)
 · by_cases h:imm ≥ 16
   · clear h6 h7 b6
     repeat' (first|with_reducible rfl|refine Zal (co) (Zar) ?_|with_reducible refine Zah (fun _=>?_) (fun _=>?_)|refine Zaf (fun _=>?_) (fun _=>?_)|refine Zad (fun _=>?_) (fun _=>?_)|with_reducible refine Zab (fun _=>?_) (fun _=>?_)|with_reducible refine Zac (fun _=>?_) (fun _=>?_)|refine Zae (fun _=>?_) (fun _=>?_)|refine Zag (fun _=>?_) (fun _=>?_)|simp only [go_sem,bne,iQ,iB,iX,Int.reduceLE,iN,iA,iS,iM,setAg,setSt,setKn,setBb,tk_S,tk_K,tk_B,Zaa,List.length_set, *]|rfl)
   · have h6:=h6 h
     have h7:=h7 h
     have b6:=b6 h
     repeat' (first|with_reducible rfl|refine Zal (co) (Zar) ?_|with_reducible refine Zah (fun _=>?_) (fun _=>?_)|refine Zaf (fun _=>?_) (fun _=>?_)|refine Zad (fun _=>?_) (fun _=>?_)|with_reducible refine Zab (fun _=>?_) (fun _=>?_)|with_reducible refine Zac (fun _=>?_) (fun _=>?_)|refine Zae (fun _=>?_) (fun _=>?_)|refine Zag (fun _=>?_) (fun _=>?_)|simp only [go_sem,bne,iQ,iB,iX,Int.reduceLE,iN,iA,iS,iM,setAg,setSt,setKn,setBb,tk_S,tk_K,tk_B,Zaa,List.length_set, *]|rfl)
 · clear h6 h7 b6
   repeat' (first|with_reducible rfl|refine Zal (co) (Zar) ?_|with_reducible refine Zah (fun _=>?_) (fun _=>?_)|refine Zaf (fun _=>?_) (fun _=>?_)|refine Zad (fun _=>?_) (fun _=>?_)|with_reducible refine Zab (fun _=>?_) (fun _=>?_)|with_reducible refine Zac (fun _=>?_) (fun _=>?_)|refine Zae (fun _=>?_) (fun _=>?_)|refine Zag (fun _=>?_) (fun _=>?_)|simp only [go_sem,bne,iQ,iB,iX,Int.reduceLE,iN,iA,iS,iM,setAg,setSt,setKn,setBb,tk_S,tk_K,tk_B,Zaa,List.length_set, *]|rfl)
 · clear h6 h7 b6
   repeat' (first|with_reducible rfl|refine Zal (co) (Zar) ?_|with_reducible refine Zah (fun _=>?_) (fun _=>?_)|refine Zaf (fun _=>?_) (fun _=>?_)|refine Zad (fun _=>?_) (fun _=>?_)|with_reducible refine Zab (fun _=>?_) (fun _=>?_)|with_reducible refine Zac (fun _=>?_) (fun _=>?_)|refine Zae (fun _=>?_) (fun _=>?_)|refine Zag (fun _=>?_) (fun _=>?_)|simp only [go_sem,bne,iQ,iB,iX,Int.reduceLE,iN,iA,iS,iM,setAg,setSt,setKn,setBb,tk_S,tk_K,tk_B,Zaa,List.length_set, *]|rfl)
 · clear h6 h7 b6
   repeat' (first|with_reducible rfl|refine Zal (co) (Zar) ?_|with_reducible refine Zah (fun _=>?_) (fun _=>?_)|refine Zaf (fun _=>?_) (fun _=>?_)|refine Zad (fun _=>?_) (fun _=>?_)|with_reducible refine Zab (fun _=>?_) (fun _=>?_)|with_reducible refine Zac (fun _=>?_) (fun _=>?_)|refine Zae (fun _=>?_) (fun _=>?_)|refine Zag (fun _=>?_) (fun _=>?_)|simp only [go_sem,bne,iQ,iB,iX,Int.reduceLE,iN,iA,iS,iM,setAg,setSt,setKn,setBb,tk_S,tk_K,tk_B,Zaa,List.length_set, *]|rfl)
 · clear h6 h7 b6
   repeat' (first|with_reducible rfl|refine Zal (co) (Zar) ?_|with_reducible refine Zah (fun _=>?_) (fun _=>?_)|refine Zaf (fun _=>?_) (fun _=>?_)|refine Zad (fun _=>?_) (fun _=>?_)|with_reducible refine Zab (fun _=>?_) (fun _=>?_)|with_reducible refine Zac (fun _=>?_) (fun _=>?_)|refine Zae (fun _=>?_) (fun _=>?_)|refine Zag (fun _=>?_) (fun _=>?_)|simp only [go_sem,bne,iQ,iB,iX,Int.reduceLE,iN,iA,iS,iM,setAg,setSt,setKn,setBb,tk_S,tk_K,tk_B,Zaa,List.length_set, *]|rfl)
theorem spec_l13Step.fc (s:StepD) (m:MayD) (hm:MayOk m) (hv:stepB s=true) :
 FCt prog Zc2 [.ro,.co] [s.d,m.d] (.tup [(mayV s m).1.d,Ii (mayV s m).2]) []:=by
 refine Zak spec_l13Step.ok rfl ?_
 have ok:=ZaF hv
 have kd:=Za1 (.inr hv)
 have ln:=hm.len
 obtain ⟨l1,l2,l3,l4,gr,gb,gc⟩:=hm
 obtain ⟨k,op,dst,src,imm,to⟩:=s
 obtain ⟨_,od,os,oi,oo,ot,_,_⟩:=ok
 dsimp only at *
 have c6:((6:Nat):Int)=6:=rfl
 have c16:((16:Nat):Int)=16:=rfl
 have od1:=od.1
 have od2:dst < 6:=by omega
 have os1:=os.1
 have os2:src < 6:=by omega
 have i0:0≤imm:=oi.1
 have q1:m.reg[dst.toNat]? = some (regS m dst):=getD_some (by omega)
 have q2:m.reg[src.toNat]? = some (regS m src):=getD_some (by omega)
 have q3:m.bits[dst.toNat]? = some (bitS m dst):=getD_some (by omega)
 have q4:m.bits[src.toNat]? = some (bitS m src):=getD_some (by omega)
 have sd:=ZeE (gr _ (List.mem_of_getElem? q1))
 have ss:=ZeE (gr _ (List.mem_of_getElem? q2))
 have kd1:=ZfJ (gb _ (List.mem_of_getElem? q3))
 have ks:=ZfJ (gb _ (List.mem_of_getElem? q4))
 have sc:=Zdu oi
 have kc:=ZcI oi
 have w5:IntKind.i64.wrap ((regS m src).2+imm)=(regS m src).2+imm:=by have:=ss.hi;have:=ss.lo;have:=ss.le;exact Zaj (by omega) (by omega)
 have h6:¬ imm ≥ 16→m.cell[imm.toNat]? = some (m.cell.getD imm.toNat (0,0)):=fun h=>getD_some (by omega)
 have h7:¬ imm ≥ 16→m.isset[imm.toNat]? = some (m.isset.getD imm.toNat false):=fun h=>getD_some (by omega)
 have b6:¬ imm ≥ 16→imm < 16:=fun h=>by omega
 have cs:=spec_l9Do.fc op (regS m dst) (regS m src) sd ss
 have ck:=spec_l10Do.fc op (bitS m dst) (bitS m src) ks
 have cs2:=spec_l9Do.fc op (regS m dst) (imm,imm) sd sc
 have ck2:=spec_l10Do.fc op (bitS m dst) (imm,0) kc
 have cp:=fun s k=>spec_l13Set.fc m dst s k ln od1 od2
 have cp3:=cp (imm,imm) (imm,0)
 rw [ZkK oi] at cp3
 have cp5:=cp (0,255) (0,255)
 rw [ZlG] at cp5
 have hp:=fun r=>Zg6 (m:=m) (i:=dst) (r:=r) ln
 have pl1:=fun r=>(hp r).reg
 have pl2:=fun r=>(hp r).bits
 have pl3:=fun r=>(hp r).cell
 have pl4:=fun r=>(hp r).isset
 clear hp gr gb gc sd ss kd1 ks sc kc
 unfold mayV
 rcases kd with rfl|rfl|rfl|rfl|rfl|rfl|rfl|rfl|rfl|rfl|rfl
 · clear h6 h7 b6
   repeat' (first|with_reducible rfl|refine Zal (spec_l13Const.fc imm) rfl ?_|refine Zal (cs) rfl ?_|refine Zal (ck) rfl ?_|refine ZbL (cp _ _) (Zar) (rfl) ?_|with_reducible refine Zah (fun _=>?_) (fun _=>?_)|refine Zaf (fun _=>?_) (fun _=>?_)|refine Zad (fun _=>?_) (fun _=>?_)|with_reducible refine Zab (fun _=>?_) (fun _=>?_)|with_reducible refine Zac (fun _=>?_) (fun _=>?_)|refine Zae (fun _=>?_) (fun _=>?_)|refine Zag (fun _=>?_) (fun _=>?_)|simp only [go_sem,bne,iQ,iB,iX,Int.reduceLE,iN,iA,iS,iM,setAg,setSt,setKn,setBb,tk_S,tk_K,tk_B,Zaa,List.length_set, *]|rfl)
 · clear h6 h7 b6
   repeat' (first|with_reducible rfl|refine Zal (spec_l13Const.fc imm) rfl ?_|refine Zal (cs2) rfl ?_|refine Zal (ck2) rfl ?_|refine ZbL (cp _ _) (Zar) (rfl) ?_|with_reducible refine Zah (fun _=>?_) (fun _=>?_)|refine Zaf (fun _=>?_) (fun _=>?_)|refine Zad (fun _=>?_) (fun _=>?_)|with_reducible refine Zab (fun _=>?_) (fun _=>?_)|with_reducible refine Zac (fun _=>?_) (fun _=>?_)|refine Zae (fun _=>?_) (fun _=>?_)|refine Zag (fun _=>?_) (fun _=>?_)|simp only [go_sem,bne,iQ,iB,iX,Int.reduceLE,iN,iA,iS,iM,setAg,setSt,setKn,setBb,tk_S,tk_K,tk_B,Zaa,List.length_set, *]|rfl)
 · clear h6 h7 b6
   repeat' (first|with_reducible rfl|refine Zal (spec_l13Const.fc imm) rfl ?_|refine ZbL (cp3) (Zar) (rfl) ?_|with_reducible refine Zah (fun _=>?_) (fun _=>?_)|refine Zaf (fun _=>?_) (fun _=>?_)|refine Zad (fun _=>?_) (fun _=>?_)|with_reducible refine Zab (fun _=>?_) (fun _=>?_)|with_reducible refine Zac (fun _=>?_) (fun _=>?_)|refine Zae (fun _=>?_) (fun _=>?_)|refine Zag (fun _=>?_) (fun _=>?_)|simp only [go_sem,bne,iQ,iB,iX,Int.reduceLE,iN,iA,iS,iM,setAg,setSt,setKn,setBb,tk_S,tk_K,tk_B,Zaa,List.length_set, *]|rfl)
 · clear h6 h7 b6
   repeat' (first|with_reducible rfl|refine Zal (spec_l13Const.fc imm) rfl ?_|refine ZbL (cp3) (Zar) (rfl) ?_|with_reducible refine Zah (fun _=>?_) (fun _=>?_)|refine Zaf (fun _=>?_) (fun _=>?_)|refine Zad (fun _=>?_) (fun _=>?_)|with_reducible refine Zab (fun _=>?_) (fun _=>?_)|with_reducible refine Zac (fun _=>?_) (fun _=>?_)|refine Zae (fun _=>?_) (fun _=>?_)|refine Zag (fun _=>?_) (fun _=>?_)|simp only [go_sem,bne,iQ,iB,iX,Int.reduceLE,iN,iA,iS,iM,setAg,setSt,setKn,setBb,tk_S,tk_K,tk_B,Zaa,List.length_set, *]|rfl)
 · clear h6 h7 b6
   by_cases h:(regS m src).2+imm ≥ 8
   · repeat' (first|with_reducible rfl|refine Zal (spec_l13Const.fc imm) rfl ?_|with_reducible refine Zah (fun _=>?_) (fun _=>?_)|refine Zaf (fun _=>?_) (fun _=>?_)|refine Zad (fun _=>?_) (fun _=>?_)|with_reducible refine Zab (fun _=>?_) (fun _=>?_)|with_reducible refine Zac (fun _=>?_) (fun _=>?_)|refine Zae (fun _=>?_) (fun _=>?_)|refine Zag (fun _=>?_) (fun _=>?_)|simp only [go_sem,bne,iQ,iB,iX,Int.reduceLE,iN,iA,iS,iM,setAg,setSt,setKn,setBb,tk_S,tk_K,tk_B,Zaa,List.length_set, *]|rfl)
   · repeat' (first|with_reducible rfl|refine Zal (spec_l13Const.fc imm) rfl ?_|refine ZbL (cp5) (Zar) (rfl) ?_|with_reducible refine Zah (fun _=>?_) (fun _=>?_)|refine Zaf (fun _=>?_) (fun _=>?_)|refine Zad (fun _=>?_) (fun _=>?_)|with_reducible refine Zab (fun _=>?_) (fun _=>?_)|with_reducible refine Zac (fun _=>?_) (fun _=>?_)|refine Zae (fun _=>?_) (fun _=>?_)|refine Zag (fun _=>?_) (fun _=>?_)|simp only [go_sem,bne,iQ,iB,iX,Int.reduceLE,iN,iA,iS,iM,setAg,setSt,setKn,setBb,tk_S,tk_K,tk_B,Zaa,List.length_set, *]|rfl)
 · by_cases h:imm ≥ 16
   · clear h6 h7 b6
     repeat' (first|with_reducible rfl|refine Zal (spec_l13Const.fc imm) rfl ?_|with_reducible refine Zah (fun _=>?_) (fun _=>?_)|refine Zaf (fun _=>?_) (fun _=>?_)|refine Zad (fun _=>?_) (fun _=>?_)|with_reducible refine Zab (fun _=>?_) (fun _=>?_)|with_reducible refine Zac (fun _=>?_) (fun _=>?_)|refine Zae (fun _=>?_) (fun _=>?_)|refine Zag (fun _=>?_) (fun _=>?_)|simp only [go_sem,bne,iQ,iB,iX,Int.reduceLE,iN,iA,iS,iM,setAg,setSt,setKn,setBb,tk_S,tk_K,tk_B,Zaa,List.length_set, *]|rfl)
   · have h6:=h6 h
     have h7:=h7 h
     have b6:=b6 h
     cases hq:m.isset.getD imm.toNat false<;>rw [hq] at h7
     · repeat' (first|with_reducible rfl|refine Zal (spec_l13Const.fc imm) rfl ?_|with_reducible refine Zah (fun _=>?_) (fun _=>?_)|refine Zaf (fun _=>?_) (fun _=>?_)|refine Zad (fun _=>?_) (fun _=>?_)|with_reducible refine Zab (fun _=>?_) (fun _=>?_)|with_reducible refine Zac (fun _=>?_) (fun _=>?_)|refine Zae (fun _=>?_) (fun _=>?_)|refine Zag (fun _=>?_) (fun _=>?_)|simp only [go_sem,bne,iQ,iB,iX,Int.reduceLE,iN,iA,iS,iM,setAg,setSt,setKn,setBb,tk_S,tk_K,tk_B,Zaa,List.length_set, *]|rfl)
     · repeat' (first|with_reducible rfl|refine Zal (spec_l13Const.fc imm) rfl ?_|refine ZbL (cp _ (0,65535)) (Zar) (rfl) ?_|with_reducible refine Zah (fun _=>?_) (fun _=>?_)|refine Zaf (fun _=>?_) (fun _=>?_)|refine Zad (fun _=>?_) (fun _=>?_)|with_reducible refine Zab (fun _=>?_) (fun _=>?_)|with_reducible refine Zac (fun _=>?_) (fun _=>?_)|refine Zae (fun _=>?_) (fun _=>?_)|refine Zag (fun _=>?_) (fun _=>?_)|simp only [go_sem,bne,iQ,iB,iX,Int.reduceLE,iN,iA,iS,iM,setAg,setSt,setKn,setBb,tk_S,tk_K,tk_B,Zaa,List.length_set, *]|rfl)
 · by_cases h:imm ≥ 16
   · clear h6 h7 b6
     repeat' (first|with_reducible rfl|refine Zal (spec_l13Const.fc imm) rfl ?_|with_reducible refine Zah (fun _=>?_) (fun _=>?_)|refine Zaf (fun _=>?_) (fun _=>?_)|refine Zad (fun _=>?_) (fun _=>?_)|with_reducible refine Zab (fun _=>?_) (fun _=>?_)|with_reducible refine Zac (fun _=>?_) (fun _=>?_)|refine Zae (fun _=>?_) (fun _=>?_)|refine Zag (fun _=>?_) (fun _=>?_)|simp only [go_sem,bne,iQ,iB,iX,Int.reduceLE,iN,iA,iS,iM,setAg,setSt,setKn,setBb,tk_S,tk_K,tk_B,Zaa,List.length_set, *]|rfl)
   · have h6:=h6 h
     have h7:=h7 h
     have b6:=b6 h
     repeat' (first|with_reducible rfl|refine Zal (spec_l13Const.fc imm) rfl ?_|with_reducible refine Zah (fun _=>?_) (fun _=>?_)|refine Zaf (fun _=>?_) (fun _=>?_)|refine Zad (fun _=>?_) (fun _=>?_)|with_reducible refine Zab (fun _=>?_) (fun _=>?_)|with_reducible refine Zac (fun _=>?_) (fun _=>?_)|refine Zae (fun _=>?_) (fun _=>?_)|refine Zag (fun _=>?_) (fun _=>?_)|simp only [go_sem,bne,iQ,iB,iX,Int.reduceLE,iN,iA,iS,iM,setAg,setSt,setKn,setBb,tk_S,tk_K,tk_B,Zaa,List.length_set, *]|rfl)
 · clear h6 h7 b6
   repeat' (first|with_reducible rfl|refine Zal (spec_l13Const.fc imm) rfl ?_|with_reducible refine Zah (fun _=>?_) (fun _=>?_)|refine Zaf (fun _=>?_) (fun _=>?_)|refine Zad (fun _=>?_) (fun _=>?_)|with_reducible refine Zab (fun _=>?_) (fun _=>?_)|with_reducible refine Zac (fun _=>?_) (fun _=>?_)|refine Zae (fun _=>?_) (fun _=>?_)|refine Zag (fun _=>?_) (fun _=>?_)|simp only [go_sem,bne,iQ,iB,iX,Int.reduceLE,iN,iA,iS,iM,setAg,setSt,setKn,setBb,tk_S,tk_K,tk_B,Zaa,List.length_set, *]|rfl)
 · clear h6 h7 b6
   repeat' (first|with_reducible rfl|refine Zal (spec_l13Const.fc imm) rfl ?_|with_reducible refine Zah (fun _=>?_) (fun _=>?_)|refine Zaf (fun _=>?_) (fun _=>?_)|refine Zad (fun _=>?_) (fun _=>?_)|with_reducible refine Zab (fun _=>?_) (fun _=>?_)|with_reducible refine Zac (fun _=>?_) (fun _=>?_)|refine Zae (fun _=>?_) (fun _=>?_)|refine Zag (fun _=>?_) (fun _=>?_)|simp only [go_sem,bne,iQ,iB,iX,Int.reduceLE,iN,iA,iS,iM,setAg,setSt,setKn,setBb,tk_S,tk_K,tk_B,Zaa,List.length_set, *]|rfl)
 · clear h6 h7 b6
   repeat' (first|with_reducible rfl|refine Zal (spec_l13Const.fc imm) rfl ?_|with_reducible refine Zah (fun _=>?_) (fun _=>?_)|refine Zaf (fun _=>?_) (fun _=>?_)|refine Zad (fun _=>?_) (fun _=>?_)|with_reducible refine Zab (fun _=>?_) (fun _=>?_)|with_reducible refine Zac (fun _=>?_) (fun _=>?_)|refine Zae (fun _=>?_) (fun _=>?_)|refine Zag (fun _=>?_) (fun _=>?_)|simp only [go_sem,bne,iQ,iB,iX,Int.reduceLE,iN,iA,iS,iM,setAg,setSt,setKn,setBb,tk_S,tk_K,tk_B,Zaa,List.length_set, *]|rfl)
 · clear h6 h7 b6
   repeat' (first|with_reducible rfl|refine Zal (spec_l13Const.fc imm) rfl ?_|with_reducible refine Zah (fun _=>?_) (fun _=>?_)|refine Zaf (fun _=>?_) (fun _=>?_)|refine Zad (fun _=>?_) (fun _=>?_)|with_reducible refine Zab (fun _=>?_) (fun _=>?_)|with_reducible refine Zac (fun _=>?_) (fun _=>?_)|refine Zae (fun _=>?_) (fun _=>?_)|refine Zag (fun _=>?_) (fun _=>?_)|simp only [go_sem,bne,iQ,iB,iX,Int.reduceLE,iN,iA,iS,iM,setAg,setSt,setKn,setBb,tk_S,tk_K,tk_B,Zaa,List.length_set, *]|rfl)
theorem ZkX {s:StepD} {m:MayD}:(mayV s m).2=0∨(mayV s m).2 > 0:=by
 have key:∀ (c:Prop) [Decidable c] (a b:MayD×Int),(a.2=0∨a.2 > 0)→(b.2=0∨b.2 > 0)→((if c then a else b).2=0∨(if c then a else b).2 > 0):=by
  intro c _ a b ha hb;split
  · exact ha
  · exact hb
 unfold mayV
 repeat' (first|exact .inl rfl|exact .inr (show (1:Int) > 0 by decide)|exact .inr (show (2:Int) > 0 by decide)|exact .inr (show (3:Int) > 0 by decide)|apply key)
def meetSb (a b:Int×Int):Bool:=decide (mxI a.1 b.1 > mnI a.2 b.2)
def meetS (a b:Int×Int):Int×Int:=if meetSb a b then (0,0) else (mxI a.1 b.1,mnI a.2 b.2)
theorem impl_meetStretch.fc (a b:Int×Int):FCt prog ZbR [.ro,.ro] [strD a,strD b] (.tup [strD (meetS a b),Bb (!meetSb a b)]) []:=by
 refine Zak impl_meetStretch.ok rfl ?_
 have e1:(if b.1 > a.1 then b.1 else a.1)=mxI a.1 b.1:=rfl
 have e2:(if b.2 < a.2 then b.2 else a.2)=mnI a.2 b.2:=rfl
 unfold meetS meetSb
 repeat' (first|with_reducible rfl|with_reducible refine Zah (fun _=>?_) (fun _=>?_)|refine Zaf (fun _=>?_) (fun _=>?_)|refine Zad (fun _=>?_) (fun _=>?_)|with_reducible refine Zab (fun _=>?_) (fun _=>?_)|with_reducible refine Zac (fun _=>?_) (fun _=>?_)|refine Zae (fun _=>?_) (fun _=>?_)|refine Zag (fun _=>?_) (fun _=>?_)|simp only [go_sem,bne,iQ,iB,iX,Int.reduceLE,iN,iA,iS,iM, *]|rfl)
theorem spec_l9Meet.fc (a b:Int×Int):FCt prog Zdf [.ro,.ro] [strD a,strD b] (.tup [strD (meetS a b),Bb (!meetSb a b)]) []:=by
 refine Zak spec_l9Meet.ok rfl ?_
 have e1:(if b.1 > a.1 then b.1 else a.1)=mxI a.1 b.1:=rfl
 have e2:(if b.2 < a.2 then b.2 else a.2)=mnI a.2 b.2:=rfl
 unfold meetS meetSb
 repeat' (first|with_reducible rfl|refine Zam (spec_l1Most.fc ..) ?_|refine Zam (spec_l1Least.fc ..) ?_|with_reducible refine Zah (fun _=>?_) (fun _=>?_)|refine Zaf (fun _=>?_) (fun _=>?_)|refine Zad (fun _=>?_) (fun _=>?_)|with_reducible refine Zab (fun _=>?_) (fun _=>?_)|with_reducible refine Zac (fun _=>?_) (fun _=>?_)|refine Zae (fun _=>?_) (fun _=>?_)|refine Zag (fun _=>?_) (fun _=>?_)|simp only [go_sem,bne,iQ,iB,iX,Int.reduceLE,iN,iA,iS,iM, *]|rfl)
def lessS (a b:Int×Int):(Int×Int)×(Int×Int)×Bool:=if a.1 ≥ b.2 then ((0,0),(0,0),false) else ((a.1,mnI a.2 (b.2 - 1)),(mxI b.1 (a.1+1),b.2),true)
theorem impl_splitLess.fc (a b:Int×Int) (ha:SOk a) (hb:SOk b):FCt prog Zcr [.ro,.ro] [strD a,strD b] (.tup [strD (lessS a b).1,strD (lessS a b).2.1,Bb (lessS a b).2.2]) []:=by
 refine Zak impl_splitLess.ok rfl ?_
 have w1:IntKind.i64.wrap (b.2 - 1)=b.2 - 1:=by have:=hb.lo;have:=hb.le;have:=hb.hi;exact Zaj (by omega) (by omega)
 have w2:IntKind.i64.wrap (a.1+1)=a.1+1:=by have:=ha.lo;have:=ha.le;have:=ha.hi;exact Zaj (by omega) (by omega)
 clear ha hb
 unfold lessS mnI mxI
 repeat' (first|with_reducible rfl|with_reducible refine Zah (fun _=>?_) (fun _=>?_)|refine Zaf (fun _=>?_) (fun _=>?_)|refine Zad (fun _=>?_) (fun _=>?_)|with_reducible refine Zab (fun _=>?_) (fun _=>?_)|with_reducible refine Zac (fun _=>?_) (fun _=>?_)|refine Zae (fun _=>?_) (fun _=>?_)|refine Zag (fun _=>?_) (fun _=>?_)|simp only [go_sem,bne,iQ,iB,iX,Int.reduceLE,iN,iA,iS,iM, *]|rfl)
theorem spec_l9Less.fc (a b:Int×Int) (ha:SOk a) (hb:SOk b):FCt prog Zdd [.ro,.ro] [strD a,strD b] (.tup [strD (lessS a b).1,strD (lessS a b).2.1,Bb (lessS a b).2.2]) []:=by
 refine Zak spec_l9Less.ok rfl ?_
 have w1:IntKind.i64.wrap (b.2 - 1)=b.2 - 1:=by have:=hb.lo;have:=hb.le;have:=hb.hi;exact Zaj (by omega) (by omega)
 have w2:IntKind.i64.wrap (a.1+1)=a.1+1:=by have:=ha.lo;have:=ha.le;have:=ha.hi;exact Zaj (by omega) (by omega)
 clear ha hb
 unfold lessS mnI mxI
 repeat' (first|with_reducible rfl|refine Zam (spec_l1Most.fc ..) ?_|refine Zam (spec_l1Least.fc ..) ?_|with_reducible refine Zah (fun _=>?_) (fun _=>?_)|refine Zaf (fun _=>?_) (fun _=>?_)|refine Zad (fun _=>?_) (fun _=>?_)|with_reducible refine Zab (fun _=>?_) (fun _=>?_)|with_reducible refine Zac (fun _=>?_) (fun _=>?_)|refine Zae (fun _=>?_) (fun _=>?_)|refine Zag (fun _=>?_) (fun _=>?_)|simp only [go_sem,bne,iQ,iB,iX,Int.reduceLE,iN,iA,iS,iM, *]|rfl)
def setR2 (m:MayD) (i j:Int) (x y:Int×Int):MayD:={ m with reg:=(m.reg.set i.toNat x).set j.toNat y }
def setB2 (m:MayD) (i j:Int) (x:Int×Int):MayD:={ m with bits:=(m.bits.set i.toNat x).set j.toNat x }
def heedV (s:StepD) (m:MayD) (t:Bool):MayD×Bool :=
 if s.kind == 9 then
  (if t then (if meetSb (regS m s.dst) (regS m s.src) then (zeroM,false) else if meetKb (bitS m s.dst) (bitS m s.src) then (zeroM,false) else
   (setB2 (setR2 m s.dst s.src (meetS (regS m s.dst) (regS m s.src)) (meetS (regS m s.dst) (regS m s.src))) s.dst s.src (meetK (bitS m s.dst) (bitS m s.src)),true)) else (m,true)) else
 if t then (if (lessS (regS m s.dst) (regS m s.src)).2.2 then (if s.dst == s.src then (zeroM,false) else (setR2 m s.dst s.src (lessS (regS m s.dst) (regS m s.src)).1 (lessS (regS m s.dst) (regS m s.src)).2.1,true)) else (zeroM,false)) else
 if s.dst == s.src then (m,true) else
 if (regS m s.dst).2 ≥ (regS m s.src).1 then (setR2 m s.dst s.src (mxI (regS m s.dst).1 (regS m s.src).1,(regS m s.dst).2) ((regS m s.src).1,mnI (regS m s.src).2 (regS m s.dst).2),true) else (zeroM,false)
theorem ZeS {m:MayD} {i j:Int} {x y:Int×Int} (h:MLen m):MLen (setR2 m i j x y):=⟨by simp [setR2,h.reg],h.bits,h.cell,h.isset⟩
theorem ZlR {m:MayD} {i j:Int} {x:Int×Int} (h:MLen m):MLen (setB2 m i j x):=⟨h.reg,by simp [setB2,h.bits],h.cell,h.isset⟩
theorem impl_heedJump.fc (s:StepD) (m:MayD) (t:Bool) (hm:MayOk m) (hv:stepB s=true) (hk:s.kind=9∨s.kind=10) :
 FCt prog ZbW [.ro,.ro,.ro] [s.d,m.d,Bb t] (.tup [(heedV s m t).1.d,Bb (heedV s m t).2]) []:=by
 refine Zak impl_heedJump.ok rfl ?_
 have ok:=ZaF hv
 have ln:=hm.len
 have co:=impl_May_own.fc m ln
 obtain ⟨l1,l2,l3,l4,gr,gb,gc⟩:=hm
 obtain ⟨k,op,dst,src,imm,to⟩:=s
 obtain ⟨_,od,os,oi,oo,ot,_,_⟩:=ok
 dsimp only at *
 have c6:((6:Nat):Int)=6:=rfl
 have c16:((16:Nat):Int)=16:=rfl
 have od1:=od.1
 have od2:dst < 6:=by omega
 have os1:=os.1
 have os2:src < 6:=by omega
 have q1:m.reg[dst.toNat]? = some (regS m dst):=getD_some (by omega)
 have q2:m.reg[src.toNat]? = some (regS m src):=getD_some (by omega)
 have q3:m.bits[dst.toNat]? = some (bitS m dst):=getD_some (by omega)
 have q4:m.bits[src.toNat]? = some (bitS m src):=getD_some (by omega)
 have sd:=ZeE (gr _ (List.mem_of_getElem? q1))
 have ss:=ZeE (gr _ (List.mem_of_getElem? q2))
 have kd1:=ZfJ (gb _ (List.mem_of_getElem? q3))
 have ks:=ZfJ (gb _ (List.mem_of_getElem? q4))
 have cm:=impl_meetStretch.fc (regS m dst) (regS m src)
 have ck:=impl_meetKnown.fc (bitS m dst) (bitS m src) kd1 ks
 have cl:=impl_splitLess.fc (regS m dst) (regS m src) sd ss
 have q5:∀ x,(m.reg.set dst.toNat x)[src.toNat]? = some (if dst.toNat=src.toNat then x else regS m src):=fun x=>by
  rw [List.getElem?_set]
  have:dst.toNat < m.reg.length:=by omega
  split
  · rfl
  · exact q2
 have q6:∀ x,(m.bits.set dst.toNat x)[src.toNat]? = some (if dst.toNat=src.toNat then x else bitS m src):=fun x=>by
  rw [List.getElem?_set]
  have:dst.toNat < m.bits.length:=by omega
  split
  · rfl
  · exact q4
 clear gr gb gc sd ss kd1 ks
 unfold heedV setR2 setB2 zeroM
 rcases hk with rfl|rfl
 · cases t with
   | false=>repeat' (first|with_reducible rfl|refine Zal (co) (Zar) ?_|with_reducible refine Zah (fun _=>?_) (fun _=>?_)|refine Zaf (fun _=>?_) (fun _=>?_)|refine Zad (fun _=>?_) (fun _=>?_)|with_reducible refine Zab (fun _=>?_) (fun _=>?_)|with_reducible refine Zac (fun _=>?_) (fun _=>?_)|refine Zae (fun _=>?_) (fun _=>?_)|refine Zag (fun _=>?_) (fun _=>?_)|simp only [go_sem,bne,iQ,iB,iX,Int.reduceLE,iN,iA,iS,iM,setAg,setSt,setKn,tk_S,tk_K,tk_B,Zaa,List.length_set, *]|rfl)
   | true =>
    cases h1:meetSb (regS m dst) (regS m src)<;>rw [h1] at cm<;>cases h2:meetKb (bitS m dst) (bitS m src)<;>rw [h2] at ck <;>
     repeat' (first|with_reducible rfl|refine Zal (co) (Zar) ?_|refine Zal (cm) rfl ?_|refine Zal (ck) rfl ?_|with_reducible refine Zah (fun _=>?_) (fun _=>?_)|refine Zaf (fun _=>?_) (fun _=>?_)|refine Zad (fun _=>?_) (fun _=>?_)|with_reducible refine Zab (fun _=>?_) (fun _=>?_)|with_reducible refine Zac (fun _=>?_) (fun _=>?_)|refine Zae (fun _=>?_) (fun _=>?_)|refine Zag (fun _=>?_) (fun _=>?_)|simp only [go_sem,bne,iQ,iB,iX,Int.reduceLE,iN,iA,iS,iM,setAg,setSt,setKn,tk_S,tk_K,tk_B,Zaa,List.length_set, *]|rfl)
 · cases t with
   | true =>
    generalize lessS (regS m dst) (regS m src)=L at cl ⊢
    obtain ⟨L0,L1,L2⟩:=L
    dsimp only at cl ⊢
    cases L2<;>cases hne:(dst == src)<;>repeat' (first|with_reducible rfl|refine Zal (co) (Zar) ?_|refine Zal (cl) rfl ?_|with_reducible refine Zah (fun _=>?_) (fun _=>?_)|refine Zaf (fun _=>?_) (fun _=>?_)|refine Zad (fun _=>?_) (fun _=>?_)|with_reducible refine Zab (fun _=>?_) (fun _=>?_)|with_reducible refine Zac (fun _=>?_) (fun _=>?_)|refine Zae (fun _=>?_) (fun _=>?_)|refine Zag (fun _=>?_) (fun _=>?_)|simp only [go_sem,bne,iQ,iB,iX,Int.reduceLE,iN,iA,iS,iM,setAg,setSt,setKn,tk_S,tk_K,tk_B,Zaa,List.length_set, *]|rfl)
   | false =>
    by_cases hge:(regS m dst).2 ≥ (regS m src).1<;>cases hne:(dst == src)
    · repeat' (first|with_reducible rfl|refine Zal (co) (Zar) ?_|with_reducible refine Zah (fun _=>?_) (fun _=>?_)|refine Zaf (fun _=>?_) (fun _=>?_)|refine Zad (fun _=>?_) (fun _=>?_)|with_reducible refine Zab (fun _=>?_) (fun _=>?_)|with_reducible refine Zac (fun _=>?_) (fun _=>?_)|refine Zae (fun _=>?_) (fun _=>?_)|refine Zag (fun _=>?_) (fun _=>?_)|simp only [go_sem,bne,iQ,iB,iX,Int.reduceLE,iN,iA,iS,iM,mxI,mnI,setAg,setSt,setKn,tk_S,tk_K,tk_B,Zaa,List.length_set, *]|rfl)
    · repeat' (first|with_reducible rfl|refine Zal (co) (Zar) ?_|with_reducible refine Zah (fun _=>?_) (fun _=>?_)|refine Zaf (fun _=>?_) (fun _=>?_)|refine Zad (fun _=>?_) (fun _=>?_)|with_reducible refine Zab (fun _=>?_) (fun _=>?_)|with_reducible refine Zac (fun _=>?_) (fun _=>?_)|refine Zae (fun _=>?_) (fun _=>?_)|refine Zag (fun _=>?_) (fun _=>?_)|simp only [go_sem,bne,iQ,iB,iX,Int.reduceLE,iN,iA,iS,iM,mxI,mnI,setAg,setSt,setKn,tk_S,tk_K,tk_B,Zaa,List.length_set, *]|rfl)
    · repeat' (first|with_reducible rfl|refine Zal (co) (Zar) ?_|with_reducible refine Zah (fun _=>?_) (fun _=>?_)|refine Zaf (fun _=>?_) (fun _=>?_)|refine Zad (fun _=>?_) (fun _=>?_)|with_reducible refine Zab (fun _=>?_) (fun _=>?_)|with_reducible refine Zac (fun _=>?_) (fun _=>?_)|refine Zae (fun _=>?_) (fun _=>?_)|refine Zag (fun _=>?_) (fun _=>?_)|simp only [go_sem,bne,iQ,iB,iX,Int.reduceLE,iN,iA,iS,iM,mxI,mnI,setAg,setSt,setKn,tk_S,tk_K,tk_B,Zaa,List.length_set, *]|rfl)
    · repeat' (first|with_reducible rfl|refine Zal (co) (Zar) ?_|with_reducible refine Zah (fun _=>?_) (fun _=>?_)|refine Zaf (fun _=>?_) (fun _=>?_)|refine Zad (fun _=>?_) (fun _=>?_)|with_reducible refine Zab (fun _=>?_) (fun _=>?_)|with_reducible refine Zac (fun _=>?_) (fun _=>?_)|refine Zae (fun _=>?_) (fun _=>?_)|refine Zag (fun _=>?_) (fun _=>?_)|simp only [go_sem,bne,iQ,iB,iX,Int.reduceLE,iN,iA,iS,iM,mxI,mnI,setAg,setSt,setKn,tk_S,tk_K,tk_B,Zaa,List.length_set, *]|rfl)
theorem Zfq {α:Type} {l:List α} {i:Nat} {x:α} (h:l[i]? = some x):l.set i x=l:=by
 apply List.ext_getElem?
 intro j
 rw [List.getElem?_set]
 split
 · rename_i e;subst e
   split
   · exact h.symm
   · rename_i hl;exact absurd (List.getElem?_eq_some_iff.1 h).1 hl
 · rfl
theorem spec_l13Heed.fc (s:StepD) (m:MayD) (t:Bool) (hm:MayOk m) (hv:stepB s=true) (hk:s.kind=9∨s.kind=10) :
 FCt prog ZcV [.ro,.co,.ro] [s.d,m.d,Bb t] (.tup [(heedV s m t).1.d,Bb (heedV s m t).2]) []:=by
 refine Zak spec_l13Heed.ok rfl ?_
 have ok:=ZaF hv
 have ln:=hm.len
 obtain ⟨l1,l2,l3,l4,gr,gb,gc⟩:=hm
 obtain ⟨k,op,dst,src,imm,to⟩:=s
 obtain ⟨_,od,os,oi,oo,ot,_,_⟩:=ok
 dsimp only at *
 have c6:((6:Nat):Int)=6:=rfl
 have c16:((16:Nat):Int)=16:=rfl
 have od1:=od.1
 have od2:dst < 6:=by omega
 have os1:=os.1
 have os2:src < 6:=by omega
 have q1:m.reg[dst.toNat]? = some (regS m dst):=getD_some (by omega)
 have q2:m.reg[src.toNat]? = some (regS m src):=getD_some (by omega)
 have q3:m.bits[dst.toNat]? = some (bitS m dst):=getD_some (by omega)
 have q4:m.bits[src.toNat]? = some (bitS m src):=getD_some (by omega)
 have sd:=ZeE (gr _ (List.mem_of_getElem? q1))
 have ss:=ZeE (gr _ (List.mem_of_getElem? q2))
 have kd1:=ZfJ (gb _ (List.mem_of_getElem? q3))
 have ks:=ZfJ (gb _ (List.mem_of_getElem? q4))
 have cm:=spec_l9Meet.fc (regS m dst) (regS m src)
 have ck:=spec_l10Meet.fc (bitS m dst) (bitS m src)
 have cl:=spec_l9Less.fc (regS m dst) (regS m src) sd ss
 have q5:∀ x,(m.reg.set dst.toNat x)[src.toNat]? = some (if dst.toNat=src.toNat then x else regS m src):=fun x=>by
  rw [List.getElem?_set]
  have:dst.toNat < m.reg.length:=by omega
  split
  · rfl
  · exact q2
 have q6:∀ x,(m.bits.set dst.toNat x)[src.toNat]? = some (if dst.toNat=src.toNat then x else bitS m src):=fun x=>by
  rw [List.getElem?_set]
  have:dst.toNat < m.bits.length:=by omega
  split
  · rfl
  · exact q4
 have z1:(m.reg.set dst.toNat (regS m dst)).set src.toNat (regS m src)=m.reg:=by rw [Zfq q1,Zfq q2]
 have z2:dst=src→meetS (regS m dst) (regS m src)=regS m dst:=fun h=>by
  subst h
  have:=sd.le
  have e1:mxI (regS m dst).1 (regS m dst).1=(regS m dst).1:=by unfold mxI;split<;>rfl
  have e2:mnI (regS m dst).2 (regS m dst).2=(regS m dst).2:=by unfold mnI;split<;>rfl
  unfold meetS meetSb
  rw [e1,e2,if_neg (by rw [decide_eq_true_eq];omega)]
 have z3:dst=src→(regS m dst).2 ≥ (regS m src).1:=fun h=>by subst h;have:=sd.le;omega
 have z4:dst=src→((m.reg.set dst.toNat (meetS (regS m dst) (regS m src))).set src.toNat (meetS (regS m dst) (regS m src)))=m.reg:=fun h=>by
  rw [z2 h]
  subst h
  rw [Zfq q1,Zfq q1]
 clear gr gb gc sd ss kd1 ks
 unfold heedV setR2 setB2 zeroM
 rcases hk with rfl|rfl
 · cases t with
   | false =>
    clear z2 z3 z4
    cases hne:(dst == src)<;>repeat' (first|with_reducible rfl|with_reducible refine Zah (fun _=>?_) (fun _=>?_)|refine Zaf (fun _=>?_) (fun _=>?_)|refine Zad (fun _=>?_) (fun _=>?_)|with_reducible refine Zab (fun _=>?_) (fun _=>?_)|with_reducible refine Zac (fun _=>?_) (fun _=>?_)|refine Zae (fun _=>?_) (fun _=>?_)|refine Zag (fun _=>?_) (fun _=>?_)|simp only [go_sem,bne,iQ,iB,iX,Int.reduceLE,iN,iA,iS,iM,z1,setAg,setSt,setKn,tk_S,tk_K,tk_B,Zaa,List.length_set, *]|rfl)
   | true =>
    cases h1:meetSb (regS m dst) (regS m src)<;>rw [h1] at cm<;>cases h2:meetKb (bitS m dst) (bitS m src)<;>rw [h2] at ck
    · generalize meetS (regS m dst) (regS m src)=X at z2 z4 cm ⊢
      cases hne:(dst == src)
      · clear z1 z2 z3 z4
        repeat' (first|with_reducible rfl|refine Zal (cm) rfl ?_|refine Zal (ck) rfl ?_|with_reducible refine Zah (fun _=>?_) (fun _=>?_)|refine Zaf (fun _=>?_) (fun _=>?_)|refine Zad (fun _=>?_) (fun _=>?_)|with_reducible refine Zab (fun _=>?_) (fun _=>?_)|with_reducible refine Zac (fun _=>?_) (fun _=>?_)|refine Zae (fun _=>?_) (fun _=>?_)|refine Zag (fun _=>?_) (fun _=>?_)|simp only [go_sem,bne,iQ,iB,iX,Int.reduceLE,iN,iA,iS,iM,setAg,setSt,setKn,tk_S,tk_K,tk_B,Zaa,List.length_set, *]|rfl)
      · have z4:=z4 (by simpa using hne)
        clear z1 z2 z3
        repeat' (first|with_reducible rfl|refine Zal (cm) rfl ?_|refine Zal (ck) rfl ?_|with_reducible refine Zah (fun _=>?_) (fun _=>?_)|refine Zaf (fun _=>?_) (fun _=>?_)|refine Zad (fun _=>?_) (fun _=>?_)|with_reducible refine Zab (fun _=>?_) (fun _=>?_)|with_reducible refine Zac (fun _=>?_) (fun _=>?_)|refine Zae (fun _=>?_) (fun _=>?_)|refine Zag (fun _=>?_) (fun _=>?_)|simp only [go_sem,bne,iQ,iB,iX,Int.reduceLE,iN,iA,iS,iM,setAg,setSt,setKn,tk_S,tk_K,tk_B,Zaa,List.length_set, *]|rfl)
    all_goals
     clear z1 z2 z3 z4
     repeat' (first|with_reducible rfl|refine Zal (cm) rfl ?_|refine Zal (ck) rfl ?_|with_reducible refine Zah (fun _=>?_) (fun _=>?_)|refine Zaf (fun _=>?_) (fun _=>?_)|refine Zad (fun _=>?_) (fun _=>?_)|with_reducible refine Zab (fun _=>?_) (fun _=>?_)|with_reducible refine Zac (fun _=>?_) (fun _=>?_)|refine Zae (fun _=>?_) (fun _=>?_)|refine Zag (fun _=>?_) (fun _=>?_)|simp only [go_sem,bne,iQ,iB,iX,Int.reduceLE,iN,iA,iS,iM,setAg,setSt,setKn,tk_S,tk_K,tk_B,Zaa,List.length_set, *]|rfl)
 · cases t with
   | true =>
    clear z1 z2 z3 z4
    generalize lessS (regS m dst) (regS m src)=L at cl ⊢
    obtain ⟨L0,L1,L2⟩:=L
    dsimp only at cl ⊢
    cases L2<;>cases hne:(dst == src)<;>repeat' (first|with_reducible rfl|refine Zal (cl) rfl ?_|with_reducible refine Zah (fun _=>?_) (fun _=>?_)|refine Zaf (fun _=>?_) (fun _=>?_)|refine Zad (fun _=>?_) (fun _=>?_)|with_reducible refine Zab (fun _=>?_) (fun _=>?_)|with_reducible refine Zac (fun _=>?_) (fun _=>?_)|refine Zae (fun _=>?_) (fun _=>?_)|refine Zag (fun _=>?_) (fun _=>?_)|simp only [go_sem,bne,iQ,iB,iX,Int.reduceLE,iN,iA,iS,iM,setAg,setSt,setKn,tk_S,tk_K,tk_B,Zaa,List.length_set, *]|rfl)
   | false =>
    cases hne:(dst == src)
    · clear z1 z2 z3 z4
      have sy:(if (regS m src).2 < (regS m dst).2 then (regS m src).2 else (regS m dst).2)=(if (regS m dst).2 < (regS m src).2 then (regS m dst).2 else (regS m src).2):=by split<;>split<;>omega
      by_cases hge:(regS m dst).2 ≥ (regS m src).1
      · repeat' (first|with_reducible rfl|refine Zam (spec_l1Most.fc ..) ?_|refine Zam (spec_l1Least.fc ..) ?_|with_reducible refine Zah (fun _=>?_) (fun _=>?_)|refine Zaf (fun _=>?_) (fun _=>?_)|refine Zad (fun _=>?_) (fun _=>?_)|with_reducible refine Zab (fun _=>?_) (fun _=>?_)|with_reducible refine Zac (fun _=>?_) (fun _=>?_)|refine Zae (fun _=>?_) (fun _=>?_)|refine Zag (fun _=>?_) (fun _=>?_)|simp only [go_sem,bne,iQ,iB,iX,Int.reduceLE,iN,iA,iS,iM,mxI,mnI,setAg,setSt,setKn,tk_S,tk_K,tk_B,Zaa,List.length_set, *]|rfl)
      · repeat' (first|with_reducible rfl|refine Zam (spec_l1Most.fc ..) ?_|refine Zam (spec_l1Least.fc ..) ?_|with_reducible refine Zah (fun _=>?_) (fun _=>?_)|refine Zaf (fun _=>?_) (fun _=>?_)|refine Zad (fun _=>?_) (fun _=>?_)|with_reducible refine Zab (fun _=>?_) (fun _=>?_)|with_reducible refine Zac (fun _=>?_) (fun _=>?_)|refine Zae (fun _=>?_) (fun _=>?_)|refine Zag (fun _=>?_) (fun _=>?_)|simp only [go_sem,bne,iQ,iB,iX,Int.reduceLE,iN,iA,iS,iM,mxI,mnI,setAg,setSt,setKn,tk_S,tk_K,tk_B,Zaa,List.length_set, *]|rfl)
    · have z3:=z3 (by simpa using hne)
      clear z1 z2 z4
      repeat' (first|with_reducible rfl|refine Zam (spec_l1Most.fc ..) ?_|refine Zam (spec_l1Least.fc ..) ?_|with_reducible refine Zah (fun _=>?_) (fun _=>?_)|refine Zaf (fun _=>?_) (fun _=>?_)|refine Zad (fun _=>?_) (fun _=>?_)|with_reducible refine Zab (fun _=>?_) (fun _=>?_)|with_reducible refine Zac (fun _=>?_) (fun _=>?_)|refine Zae (fun _=>?_) (fun _=>?_)|refine Zag (fun _=>?_) (fun _=>?_)|simp only [go_sem,bne,iQ,iB,iX,Int.reduceLE,iN,iA,iS,iM,mxI,mnI,setAg,setSt,setKn,tk_S,tk_K,tk_B,Zaa,List.length_set, *]|rfl)
theorem Zf4 {m:MayD} {b:Bool}:noRs (.tup [m.d,Bb b])=true:=Zdv Zar rfl
set_option maxHeartbeats 8000000
theorem Zpa {a b:Int} (ha:wd a) (hb:wd b):wd (IntKind.i64.wrap (Int.tdiv a b)):=by
 have h1:0≤Int.tdiv a b:=by rw [Int.tdiv_eq_ediv_of_nonneg ha.1];exact Int.ediv_nonneg ha.1 hb.1
 have h2:Int.tdiv a b≤a:=by rw [Int.tdiv_eq_ediv_of_nonneg ha.1];exact Int.ediv_le_self b ha.1
 have:=ha.2
 rw [Zaj (by omega) (by omega)]
 exact ⟨h1,by omega⟩
theorem ZoZ {a b:Int} (ha:wd a) (hb:wd b) (h:b≠0):wd (Int.tmod a b):=by
 rw [Int.tmod_eq_emod_of_nonneg ha.1]
 have h1:=Int.emod_nonneg a h
 have h2:=Int.emod_lt_of_pos a (show 0 < b by have:=hb.1;omega)
 have:=hb.2
 exact ⟨h1,by omega⟩
theorem Zpl {a:Int} {k:Nat} (ha:wd a):wd (Int.fdiv a (2 ^ k)):=by
 have hp:(0:Int)≤2 ^ k:=Int.pow_nonneg (by decide)
 rw [Int.fdiv_eq_ediv_of_nonneg _ hp]
 have h1:=Int.ediv_nonneg ha.1 hp
 have h2:=Int.ediv_le_self (2 ^ k:Int) ha.1
 have:=ha.2
 exact ⟨h1,by omega⟩
theorem ZdD {op a b:Int} (ha:wd a) (hb:wd b):wd (doI op a b):=by
 have key:∀ (c:Prop) [Decidable c] (x y:Int),(c→wd x)→(¬ c→wd y)→wd (if c then x else y):=by
  intro c _ x y hx hy;split
  · rename_i h;exact hx h
  · rename_i h;exact hy h
 have z:wd 0:=⟨by decide,by decide⟩
 unfold doI
 refine key _ _ _ (fun _=>ZaP _) fun _=>key _ _ _ (fun _=>ZaP _) fun _=>key _ _ _ (fun _=>ZaP _) fun _=>key _ _ _ (fun _=>key _ _ _ (fun _=>z) fun _=>Zpa ha hb) fun _=>key _ _ _ (fun _=>key _ _ _ (fun _=>ha) fun h=>ZoZ ha hb (by simpa using h)) fun _ =>
  key _ _ _ (fun _=>ZhD ha) fun _=>key _ _ _ (fun _=>Zbx ha hb) fun _=>key _ _ _ (fun _=>Zc1 ha hb) fun _=>key _ _ _ (fun _=>ZaP _) fun _=>Zpl ha
theorem Zlw {α:Type} {l:List α} {i:Nat} {x y:α} (h:y∈l.set i x):y∈l∨y=x:=List.mem_or_eq_of_mem_set h
theorem ZpK {m:MachD} {i n:Int} (hm:MachOk m) (hp:m.pc+1≤19) (hn:wd n):MachOk (setR m i n) :=
 ⟨⟨by have:=hm.pc.1;show 0≤m.pc+1;omega,hp⟩,by simp [setR,hm.regs],hm.cells,hm.isset,fun x hx=>(Zlw hx).elim (hm.wr x) (fun e=>e▸hn),hm.wc⟩
theorem ZpZ {m:MachD} {i n:Int} (hm:MachOk m) (hp:m.pc+1≤19) (hn:wd n):MachOk (setC m i n) :=
 ⟨⟨by have:=hm.pc.1;show 0≤m.pc+1;omega,hp⟩,hm.regs,by simp [setC,hm.cells],by simp [setC,hm.isset],hm.wr,fun x hx=>(Zlw hx).elim (hm.wc x) (fun e=>e▸hn)⟩
theorem ZmP {m:MachD} {n:Int} (hm:MachOk m) (hp:0≤n∧n≤19):MachOk (setP m n):=⟨hp,hm.regs,hm.cells,hm.isset,hm.wr,hm.wc⟩
theorem Zo5 {m:MachD} {i:Int} (hm:MachOk m):wd (regI m i):=by
 unfold regI
 rw [List.getD_eq_getElem?_getD]
 cases h:m.regs[i.toNat]? with
 | none=>exact ⟨by decide,by decide⟩
 | some x=>exact hm.wr x (List.mem_of_getElem? h)
theorem ZjF {α:Type} {P:α→Prop} {l:List α} {i:Nat} {d:α} (hd:P d) (h:∀ x∈l,P x):P (l.getD i d):=by
 rw [List.getD_eq_getElem?_getD]
 cases e:l[i]? with
 | none=>exact hd
 | some x=>exact h x (List.mem_of_getElem? e)
structure StepKeeps (p:List StepD) (r:MachD×Int×Bool):Prop where
 ok:MachOk r.1
 pc:r.1.pc < p.length
theorem Zc9 {p:List StepD} {ctx:List Int} {m:MachD} (hp:ProgOk p) (hc:CtxOk ctx) (hm:MachOk m) (hpc:m.pc < p.length):StepKeeps p (stepAt p ctx m):=by
 have p0:=hm.pc.1
 have hi:m.pc.toNat < p.length:=by omega
 obtain ⟨hv,ht⟩:=hp.all m.pc.toNat hi
 have gs:p[m.pc.toNat]? = some p[m.pc.toNat]:=List.getElem?_eq_getElem hi
 unfold stepAt
 rw [gs]
 dsimp only
 have hlast:p[m.pc.toNat].kind=11∨m.pc+1 < p.length:=by
  by_cases h:m.pc+1 < p.length
  · exact .inr h
  · left
    have e:p.length - 1=m.pc.toNat:=by omega
    have:=hp.last
    unfold lastK at this
    rw [e,gs] at this
    exact this
 have kd:=Za1 (.inr hv)
 have ok:=ZaF hv
 generalize p[m.pc.toNat]=s at hv ht hlast kd ok
 have hto:=ok.to
 have hj:=ok.jmp
 have hw:∀ i,wd (regI m i):=fun i=>Zo5 hm
 have hl20:=hp.len.2
 have k0:StepKeeps p (m,(1:Int),false):=⟨hm,hpc⟩
 have k1:∀ f e,StepKeeps p (m,f,e):=fun f e=>⟨hm,hpc⟩
 have key:∀ (c:Prop) [Decidable c] (a b:MachD×Int×Bool),(c→StepKeeps p a)→(¬ c→StepKeeps p b)→StepKeeps p (if c then a else b):=by
  intro c _ a b ha hb;split
  · rename_i h;exact ha h
  · rename_i h;exact hb h
 have wi:wd s.imm:=ok.imm
 have z:wd 0:=⟨by decide,by decide⟩
 have kR:∀ n,s.kind≠11→wd n→StepKeeps p (setR m s.dst n,(0:Int),false):=fun n hk hn=>⟨ZpK hm (by omega) hn,by show m.pc+1 < _;omega⟩
 have kC:∀ n,s.kind≠11→wd n→StepKeeps p (setC m s.imm n,(0:Int),false):=fun n hk hn=>⟨ZpZ hm (by omega) hn,by show m.pc+1 < _;omega⟩
 have kJ:s.to > 0→StepKeeps p (setP m (m.pc+s.to+1),(0:Int),false):=fun h=>⟨ZmP hm (by have:=ht h;omega),by show m.pc+s.to+1 < _;have:=ht h;omega⟩
 have kN:s.kind≠11→StepKeeps p (setP m (m.pc+1),(0:Int),false):=fun h=>⟨ZmP hm (by omega),by show m.pc+1 < _;omega⟩
 have bk:∀ j:Int,(s.kind == j)=true→s.kind=j:=fun j h=>by simpa using h
 have nk:∀ j:Int,¬ (s.kind == j)=true→s.kind≠j:=fun j h=>by simpa using h
 unfold stepM
 refine key _ _ _ (fun h=>kR _ (by have:=bk _ h;omega) (ZdD (hw _) (hw _))) fun h1=>key _ _ _ (fun h=>kR _ (by have:=bk _ h;omega) (ZdD (hw _) wi)) fun h2=>key _ _ _ (fun h=>kR _ (by have:=bk _ h;omega) wi) fun h3=>key _ _ _ (fun h=>kR _ (by have:=bk _ h;omega) wi) fun h4 =>
  key _ _ _ (fun h=>key _ _ _ (fun _=>k1 _ _) fun _=>kR _ (by have:=bk _ h;omega) (ZjF (P:=wd) z fun x hx=>⟨(hc.all x hx).1,by have:=(hc.all x hx).2;omega⟩)) fun h5 =>
  key _ _ _ (fun h=>key _ _ _ (fun _=>k1 _ _) fun _=>kC _ (by have:=bk _ h;omega) (hw _)) fun h7 =>
  key _ _ _ (fun h=>key _ _ _ (fun _=>k1 _ _) fun _=>key _ _ _ (fun _=>kR _ (by have:=bk _ h;omega) (ZjF (P:=wd) z fun x hx=>hm.wc x hx)) fun _=>k1 _ _) fun h6 =>
  key _ _ _ (fun h=>k1 _ _) fun h11=>key _ _ _ (fun h=>kJ (hj.2 (by have:=bk _ h;omega))) fun h8 =>
  key _ _ _ (fun h=>key _ _ _ (fun _=>kJ (hj.2 (by have:=bk _ h;omega))) fun _=>kN (by have:=bk _ h;omega)) fun h9 =>
  key _ _ _ (fun _=>kJ (hj.2 (by have:=nk _ h1;have:=nk _ h2;have:=nk _ h3;have:=nk _ h4;have:=nk _ h5;have:=nk _ h7;have:=nk _ h6;have:=nk _ h11;have:=nk _ h8;have:=nk _ h9;omega))) fun _=>kN (nk _ h11)
def newM:MachD:=⟨0,List.replicate 6 0,List.replicate 16 0,List.replicate 16 false⟩
theorem newM_ok:MachOk newM:=by
 refine ⟨⟨by decide,by decide⟩,by decide,by decide,by decide,?_,?_⟩
 · intro x hx;rw [List.eq_of_mem_replicate hx];decide
 · intro x hx;rw [List.eq_of_mem_replicate hx];decide
set_option maxHeartbeats 4000000
theorem ZcS {a b:Int}:mnI a b≤a∧mnI a b≤b∧(mnI a b=a∨mnI a b=b):=by unfold mnI;split<;>omega
theorem Zdp {a b:Int}:a≤mxI a b∧b≤mxI a b∧(mxI a b=a∨mxI a b=b):=by unfold mxI;split<;>omega
theorem Zkg {a b:Int×Int} (ha:SOk a) (hb:SOk b):SOk (joinS a b):=by
 obtain ⟨a1,a2,a3⟩:=ha
 obtain ⟨b1,b2,b3⟩:=hb
 have h1:=ZcS (a:=a.1) (b:=b.1)
 have h2:=Zdp (a:=a.2) (b:=b.2)
 refine ⟨?_,?_,?_⟩<;>simp only [joinS]<;>omega
theorem ZeD {a b:Int} (h:a≤b):SOk (endsI a b):=by
 unfold endsI
 split
 · exact ⟨by decide,by decide,by decide⟩
 · rename_i hc
   have hc:a / 65536=b / 65536:=by simpa using hc
   refine ⟨?_,?_,?_⟩<;>dsimp only<;>omega
theorem Zhn (n k:Int) (h0:0≤k):n≤onesW n k:=by
 by_cases h:k < n
 · rw [Zdg h0 h]
   exact Zhn n (2 * k+1) (by omega)
 · rw [ZcG h];omega
 termination_by (n - k).toNat
 decreasing_by omega
theorem ZgN (n:Int) (hn:n≤65535):∃ j:Nat,j≤16∧onesW n 0=2 ^ j - 1:=by
 have key:∀ d j:Nat,d+j=16→∃ j':Nat,j'≤16∧onesW n (2 ^ j - 1)=2 ^ j' - 1:=by
  intro d
  induction d with
  | zero =>
   intro j h
   obtain rfl:j=16:=by omega
   refine ⟨16,Nat.le_refl _,ZcG ?_⟩
   have:(2:Int) ^ 16=65536:=by decide
   omega
  | succ d ih =>
   intro j h
   by_cases hc:(2:Int) ^ j - 1 < n
   · have hp:(0:Int) < 2 ^ j:=Int.pow_pos (by decide)
     rw [Zdg (by omega) hc]
     obtain ⟨j',h1,h2⟩:=ih (j+1) (by omega)
     refine ⟨j',h1,?_⟩
     rw [← h2,Int.pow_succ]
     exact congrArg _ (by omega)
   · exact ⟨j,by omega,ZcG hc⟩
 exact key 16 0 (by omega)
theorem Zny {n:Int} (hn:n≤65535):onesW n 0≤65535:=by
 obtain ⟨j,hj,e⟩:=ZgN n hn
 rw [e]
 have h1:(2:Nat) ^ j≤2 ^ 16:=Nat.pow_le_pow_right (by decide) hj
 have h2:((2 ^ j:Nat):Int)=(2:Int) ^ j:=by simp
 omega
theorem Zqk:SOk (0,65535):=⟨by decide,by decide,by decide⟩
theorem ZcJ {a b m:Int} (h0:0≤a) (h:a≤b) (hm:0 < m):Int.tdiv a m≤Int.tdiv b m:=by
 rw [Int.tdiv_eq_ediv_of_nonneg h0,Int.tdiv_eq_ediv_of_nonneg (by omega)]
 exact Int.ediv_le_ediv hm h
theorem Zdw {a b c d:Int} (h0:0≤a) (h:a≤b) (hc:0 < d) (hd:d≤c):Int.tdiv a c≤Int.tdiv b d:=by
 rw [Int.tdiv_eq_ediv_of_nonneg h0,Int.tdiv_eq_ediv_of_nonneg (by omega)]
 have h1:a / c≤a / d:=by
  refine (Int.le_ediv_iff_mul_le hc).2 ?_
  have h2:a / c * c≤a:=Int.ediv_mul_le a (by omega)
  have h3:0≤a / c:=Int.ediv_nonneg h0 (by omega)
  have h4:a / c * d≤a / c * c:=Int.mul_le_mul_of_nonneg_left hd h3
  omega
 have h2:a / d≤b / d:=Int.ediv_le_ediv hc h
 omega
theorem Zqz {op:Int} {a b:Int×Int} (ha:SOk a) (hb:SOk b):SOk (shS op a b):=by
 obtain ⟨a1,a2,a3⟩:=ha
 obtain ⟨b1,b2,b3⟩:=hb
 have hp:=Zia b1
 have hx:=Zb7 (a:=a.1) (b:=shP b.1) a1 (by omega)
 have hy:=Zb7 (a:=a.2) (b:=shP b.1) (by omega) (by omega)
 have hz:=ZcJ (m:=shP b.1) a1 a2 (by omega)
 unfold shS
 split
 · split
   · exact ZeD (Int.mul_le_mul_of_nonneg_right a2 (by omega))
   · exact Zqk
 · split
   · refine ⟨?_,?_,?_⟩<;>dsimp only<;>omega
   · refine ⟨?_,?_,?_⟩<;>dsimp only<;>omega
theorem ZeG {op:Int} {a b:Int×Int} (ha:SOk a) (hb:SOk b):SOk (stI op a b):=by
 have hs:=Zqz (op:=op) ha hb
 have ha':=ha
 obtain ⟨a1,a2,a3⟩:=ha
 obtain ⟨b1,b2,b3⟩:=hb
 have hn:=ZcS (a:=a.2) (b:=b.2)
 have hn2:=ZcS (a:=a.2) (b:=b.2 - 1)
 have hm:=Zdp (a:=a.1) (b:=b.1)
 have hm2:=Zdp (a:=a.2) (b:=b.2)
 have o1:=Zhn (mxI a.2 b.2) 0 (by omega)
 have o2:=Zny (n:=mxI a.2 b.2) (by omega)
 unfold stI
 split
 · exact ZeD (by omega)
 split
 · exact ZeD (by omega)
 split
 · refine ZeD ?_
   exact Int.mul_le_mul a2 b2 b1 (by omega)
 split
 · split
   · refine ⟨?_,?_,?_⟩<;>dsimp only<;>omega
   · rename_i hb0
     have hb0:¬ b.1=0:=by simpa using hb0
     have h1:=Zb7 (a:=a.1) (b:=b.2) a1 (by omega)
     have h2:=Zb7 (a:=a.2) (b:=b.1) (by omega) (by omega)
     have h3:=Zdw (a:=a.1) (b:=a.2) (c:=b.2) (d:=b.1) a1 a2 (by omega) b2
     refine ⟨?_,?_,?_⟩<;>dsimp only<;>omega
 split
 · unfold modS
   split
   · exact ha'
   split
   · refine ⟨?_,?_,?_⟩<;>dsimp only<;>omega
   · rename_i hb0
     have hb0:¬ b.1=0:=by simpa using hb0
     refine ⟨?_,?_,?_⟩<;>dsimp only<;>omega
 split
 · refine ⟨?_,?_,?_⟩<;>dsimp only<;>omega
 split
 · refine ⟨?_,?_,?_⟩<;>dsimp only<;>omega
 split
 · refine ⟨?_,?_,?_⟩<;>dsimp only<;>omega
 exact hs
theorem Zg4 {v m:Int} (hv:wd v) (hm:wd m):KOk (knN v m):=by
 refine ⟨Zb3 hv,hm,?_⟩
 show andI (andNotI v m) m=0
 rw [Zbb,Zat,Zao]
 have:bI v &&& ~~~bI m &&& bI m=0#64:=by
  apply BitVec.eq_of_getLsbD_eq
  intro i hi
  simp only [BitVec.getLsbD_and,BitVec.getLsbD_not]
  cases (bI v).getLsbD i<;>cases (bI m).getLsbD i<;>simp
 rw [this];rfl
theorem Zod {a b:Int×Int} (ha:KOk a) (hb:KOk b):KOk (joinK a b):=Zg4 ha.v (Zbx (Zbx ha.m hb.m) (Zc1 ha.v hb.v))
theorem wd0:wd 0:=⟨by decide,by decide⟩
theorem wdF:wd 65535:=⟨by decide,by decide⟩
theorem Zed:KOk (0,65535):=⟨wd0,wdF,by decide⟩
theorem ZgM {op:Int} {a b:Int×Int} (ha:KOk a) (hb:KOk b):KOk (kbI op a b):=by
 unfold kbI
 split
 · refine ⟨ZhD ha.v,Zb3 (ZhD (Zbx ha.v ha.m)),?_⟩
   dsimp only
   generalize andI a.1 b.1=v
   generalize andI (orI a.1 a.2) (orI b.1 b.2)=w
   rw [Zbb,Zat,Zao]
   have:bI v &&& (bI w &&& ~~~bI v)=0#64:=by
    apply BitVec.eq_of_getLsbD_eq
    intro i hi
    simp only [BitVec.getLsbD_and,BitVec.getLsbD_not]
    cases (bI v).getLsbD i<;>cases (bI w).getLsbD i<;>simp
   rw [this];rfl
 split
 · refine ⟨Zbx ha.v hb.v,Zb3 (Zbx ha.m hb.m),?_⟩
   dsimp only
   generalize orI a.1 b.1=v
   generalize orI a.2 b.2=w
   rw [Zbb,Zat,Zao]
   have:bI v &&& (bI w &&& ~~~bI v)=0#64:=by
    apply BitVec.eq_of_getLsbD_eq
    intro i hi
    simp only [BitVec.getLsbD_and,BitVec.getLsbD_not]
    cases (bI v).getLsbD i<;>cases (bI w).getLsbD i<;>simp
   rw [this];rfl
 · exact Zg4 (Zc1 ha.v hb.v) (Zbx ha.m hb.m)
theorem Zb6 {a:Int} (ha:wd a) (n:Nat):Int.fdiv a (2 ^ n)=((a.toNat >>> n:Nat):Int):=by
 have hp : (0 : Int) ≤ 2 ^ n := by have : (0 : Int) < 2 ^ n := Int.pow_pos (by decide)
                                   omega
 rw [Int.fdiv_eq_ediv_of_nonneg _ hp,Nat.shiftRight_eq_div_pow]
 have:a=(a.toNat:Int):=by have:=ha.1;omega
 rw [this]
 simp
theorem Zel {a:Int} (ha:wd a) {n:Nat} (hn:n < 16):IntKind.i64.wrap (a * 2 ^ n) % 65536=(((a.toNat <<< n) % 2 ^ 16:Nat):Int):=by
 have h0:=ha.1
 have e:a=(a.toNat:Int):=by omega
 have hl:a.toNat * 2 ^ n < 2 ^ 16 * 2 ^ 16:=Nat.mul_lt_mul'' ha.lt (Nat.pow_lt_pow_right (by decide) hn)
 rw [Nat.shiftLeft_eq]
 have e2:a * 2 ^ n=((a.toNat * 2 ^ n:Nat):Int):=by rw [Int.natCast_mul,← e];simp
 rw [e2,Zaj (by omega) (by omega)]
 omega
theorem Zpz {op:Int} {a b:Int×Int} (ho:op=9∨op=10) (ha:KOk a) (hb:KOk b):KOk (doI op a.1 b.1,doI op a.2 b.1):=by
 refine ⟨ZdD ha.v hb.v,ZdD ha.m hb.v,?_⟩
 dsimp only
 have ht:=tmod16 hb.v.1
 have hd:a.1.toNat &&& a.2.toNat=0:=by
  have:=ha.dj
  rw [Zd4 ha.v.nn ha.m.nn] at this
  omega
 have hn:min (Int.tmod b.1 16).toNat IntKind.i64.bits < 16:=by show min _ 64 < 16;omega
 generalize hk:min (Int.tmod b.1 16).toNat IntKind.i64.bits=k at hn
 rcases ho with rfl|rfl
 · have e:∀ x,doI 9 x b.1=IntKind.i64.wrap (x * 2 ^ k) % 65536:=fun x=>by rw [← hk];rfl
   rw [e,e,Zel ha.v hn,Zel ha.m hn,Zd4 ⟨by omega,by omega⟩ ⟨by omega,by omega⟩]
   simp only [Int.toNat_natCast]
   rw [← Nat.and_mod_two_pow,← Nat.shiftLeft_and_distrib,hd]
   simp
 · have e:∀ x,doI 10 x b.1=Int.fdiv x (2 ^ k):=fun x=>by rw [← hk];rfl
   have l1:a.1.toNat >>> k≤a.1.toNat:=by rw [Nat.shiftRight_eq_div_pow];exact Nat.div_le_self _ _
   have l2:a.2.toNat >>> k≤a.2.toNat:=by rw [Nat.shiftRight_eq_div_pow];exact Nat.div_le_self _ _
   have w1:=ha.v.lt
   have w2:=ha.m.lt
   have n1:nn ((a.1.toNat >>> k:Nat):Int):=⟨Int.natCast_nonneg _,by generalize a.1.toNat >>> k=u at l1 ⊢;omega⟩
   have n2:nn ((a.2.toNat >>> k:Nat):Int):=⟨Int.natCast_nonneg _,by generalize a.2.toNat >>> k=u at l2 ⊢;omega⟩
   rw [e,e,Zb6 ha.v,Zb6 ha.m,Zd4 n1 n2]
   simp only [Int.toNat_natCast]
   rw [← Nat.shiftRight_and_distrib,hd]
   simp
theorem Zd8 {op:Int} {a b:Int×Int} (ha:KOk a) (hb:KOk b):KOk (kdI op a b):=by
 unfold kdI
 split
 · exact ZgM ha hb
 split
 · exact ZgM ha hb
 split
 · exact ZgM ha hb
 split
 · exact Zg4 (ZaP _) (Zbx (Zbx ha.m hb.m) (Zc1 (ZaP _) (ZaP _)))
 split
 · exact Zg4 (ZaP _) (Zbx (Zbx ha.m hb.m) (Zc1 (ZaP _) (ZaP _)))
 split
 · split
   · rename_i h _
     exact Zpz (.inl (by simpa using h)) ha hb
   · exact Zed
 split
 · split
   · rename_i h _
     exact Zpz (.inr (by simpa using h)) ha hb
   · exact Zed
 split
 · split
   · exact ⟨ZdD ha.v hb.v,wd0,by
      show andI (doI op a.1 b.1) 0=0
      rw [Zd4 (ZdD ha.v hb.v).nn wd0.nn];simp⟩
   · exact Zed
 · exact Zed
theorem Zjw {n:Int} (h:wd n):KOk (n,0):=ZcI h
theorem ZnL {s k:Int×Int} (hs:SOk s) (hk:KOk k) {r:(Int×Int)×(Int×Int)} (h:reduS s k=some r):SOk r.1∧KOk r.2:=by
 obtain ⟨s1,s2,s3⟩:=hs
 have k1:=hk.v
 have k2:=hk.m
 unfold wd at k1 k2
 have hw:IntKind.i64.wrap (k.1+k.2)=k.1+k.2:=Zaj (by omega) (by omega)
 unfold reduS at h
 dsimp only at h
 rw [hw] at h
 generalize hlo:(if k.1 > s.1 then k.1 else s.1)=lo at h
 generalize hhi:(if k.1+k.2 < s.2 then k.1+k.2 else s.2)=hi at h
 have l1:k.1≤lo∧s.1≤lo∧(lo=k.1∨lo=s.1):=by subst hlo;split<;>omega
 have l2:hi≤k.1+k.2∧hi≤s.2∧(hi=k.1+k.2∨hi=s.2):=by subst hhi;split<;>omega
 clear hlo hhi
 by_cases c1:lo > hi
 · rw [if_pos c1] at h;cases h
 rw [if_neg c1] at h
 by_cases c2:lo < hi
 · rw [if_pos c2] at h
   injection h with h
   subst h
   exact ⟨⟨by dsimp only;omega,by dsimp only;omega,by dsimp only;omega⟩,hk⟩
 rw [if_neg c2] at h
 split at h
 · injection h with h
   subst h
   exact ⟨⟨by dsimp only;omega,by dsimp only;omega,by dsimp only;omega⟩,Zjw ⟨by omega,by omega⟩⟩
 · cases h
theorem Zje {s k:Int×Int} (hs:SOk s) (hk:KOk k):SOk (putV s k).1∧KOk (putV s k).2:=by
 unfold putV
 split
 · rename_i r h
   exact ZnL hs hk h
 · exact ⟨hs,hk⟩
theorem Zbi {α:Type} {l:List α} {i:Nat} {x y:α} (h:y∈l.set i x):y=x∨y∈l:=by
 rcases List.mem_or_eq_of_mem_set h with h|h
 · exact .inr h
 · exact .inl h
theorem Ze3 {m:MayD} {i:Int} {r:(Int×Int)×(Int×Int)} (h:MayOk m) (h1:SOk r.1) (h2:KOk r.2):MayOk (putM m i r):=by
 have l:=Zg6 (i:=i) (r:=r) h.len
 refine ⟨l.reg,l.bits,l.cell,l.isset,fun x hx=>?_,fun x hx=>?_,h.gc⟩
 · rcases Zbi hx with rfl|hx
   · exact ZkY h1
   · exact h.gr x hx
 · rcases Zbi hx with rfl|hx
   · exact ZnC h2
   · exact h.gb x hx
theorem Zex {α:Type} {l:List α} {i:Nat} {d:α} (h:i < l.length):l.getD i d∈l:=by
 rw [List.getD_eq_getElem?_getD,List.getElem?_eq_getElem h]
 exact List.getElem_mem h
theorem Zbp {m:MayD} (h:MayOk m) {i:Int} (h0:0≤i) (h1:i≤5):SOk (regS m i):=ZeE (h.gr _ (Zex (by have:=h.reg;omega)))
theorem Zbv {m:MayD} (h:MayOk m) {i:Int} (h0:0≤i) (h1:i≤5):KOk (bitS m i):=ZfJ (h.gb _ (Zex (by have:=h.bits;omega)))
theorem Zhb {m:MayD} (h:MayOk m) {i:Int} (h0:0≤i) (h1:¬ i ≥ 16):SOk (m.cell.getD i.toNat (0,0)):=ZeE (h.gc _ (Zex (by have:=h.cell;omega)))
theorem ZdS {s:StepD} {m:MayD} (h:MayOk m) (hv:stepB s=true):MayOk (mayV s m).1:=by
 have ok:=ZaF hv
 obtain ⟨_,od,os,oi,oo,ot,_,_⟩:=ok
 have rd:=Zbp h od.1 od.2
 have rs:=Zbp h os.1 os.2
 have bd:=Zbv h od.1 od.2
 have bs:=Zbv h os.1 os.2
 have hi:wd s.imm:=oi
 have sc:=Zdu oi
 have kc:=ZcI oi
 unfold mayV
 split
 · have:=Zje (ZeG (op:=s.op) rd rs) (Zd8 (op:=s.op) bd bs);exact Ze3 h this.1 this.2
 split
 · have:=Zje (ZeG (op:=s.op) rd sc) (Zd8 (op:=s.op) bd kc);exact Ze3 h this.1 this.2
 split
 · exact Ze3 h sc kc
 split
 · exact Ze3 h sc kc
 split
 · split
   · exact h
   · exact Ze3 h ⟨by decide,by decide,by decide⟩ ⟨wd0,⟨by decide,by decide⟩,by decide⟩
 split
 · split
   · exact h
   · refine ⟨h.reg,h.bits,by simp [h.cell],by simp [h.isset],h.gr,h.gb,fun x hx=>?_⟩
     rcases Zbi hx with rfl|hx
     · exact ZkY rd
     · exact h.gc x hx
 split
 · split
   · exact h
   · rename_i hn
     split
     · have:=Zje (Zhb h oi.1 hn) Zed;exact Ze3 h this.1 this.2
     · exact h
 exact h
theorem Zop {a b:Int×Int} (ha:SOk a) (hb:SOk b) (h:meetSb a b=false):SOk (meetS a b):=by
 have h1:=Zdp (a:=a.1) (b:=b.1)
 have h2:=ZcS (a:=a.2) (b:=b.2)
 have h3:=h
 obtain ⟨a1,a2,a3⟩:=ha
 obtain ⟨b1,b2,b3⟩:=hb
 unfold meetSb at h
 unfold meetS
 rw [h3]
 have h:¬ mxI a.1 b.1 > mnI a.2 b.2:=by simpa using h
 refine ⟨?_,?_,?_⟩<;>simp only [Bool.false_eq_true,if_false]<;>omega
theorem ZfA {a b:Int×Int} (ha:KOk a) (hb:KOk b):KOk (meetK a b):=by
 unfold meetK
 split
 · exact ZcI ⟨by decide,by decide⟩
 · rw [← ZmW ha hb]
   exact Zg4 (Zbx ha.v hb.v) (ZhD ha.m)
theorem ZnB {a b:Int×Int} (ha:SOk a) (hb:SOk b) (h:(lessS a b).2.2=true):SOk (lessS a b).1∧SOk (lessS a b).2.1:=by
 have h1:=Zdp (a:=b.1) (b:=a.1+1)
 have h2:=ZcS (a:=a.2) (b:=b.2 - 1)
 obtain ⟨a1,a2,a3⟩:=ha
 obtain ⟨b1,b2,b3⟩:=hb
 unfold lessS at h ⊢
 split at h
 · cases h
 · rename_i hc
   rw [if_neg hc]
   refine ⟨⟨?_,?_,?_⟩,⟨?_,?_,?_⟩⟩<;>dsimp only<;>omega
theorem Zg5 {m:MayD} {i j:Int} {x y:Int×Int} (h:MayOk m) (hx:SOk x) (hy:SOk y):MayOk (setR2 m i j x y):=by
 have l:=ZeS (i:=i) (j:=j) (x:=x) (y:=y) h.len
 refine ⟨l.reg,l.bits,l.cell,l.isset,fun z hz=>?_,h.gb,h.gc⟩
 rcases Zbi hz with rfl|hz
 · exact ZkY hy
 rcases Zbi hz with rfl|hz
 · exact ZkY hx
 · exact h.gr z hz
theorem ZnA {m:MayD} {i j:Int} {x:Int×Int} (h:MayOk m) (hx:KOk x):MayOk (setB2 m i j x):=by
 have l:=ZlR (i:=i) (j:=j) (x:=x) h.len
 refine ⟨l.reg,l.bits,l.cell,l.isset,h.gr,fun z hz=>?_,h.gc⟩
 rcases Zbi hz with rfl|hz
 · exact ZnC hx
 rcases Zbi hz with rfl|hz
 · exact ZnC hx
 · exact h.gb z hz
theorem Zdk {s:StepD} {m:MayD} {t:Bool} (h:MayOk m) (hv:stepB s=true) (hp:(heedV s m t).2=true):MayOk (heedV s m t).1:=by
 have ok:=ZaF hv
 obtain ⟨_,od,os,oi,oo,ot,_,_⟩:=ok
 have rd:=Zbp h od.1 od.2
 have rs:=Zbp h os.1 os.2
 have bd:=Zbv h od.1 od.2
 have bs:=Zbv h os.1 os.2
 revert hp
 unfold heedV
 split
 · split
   · split
     · intro h;cases h
     · rename_i hm
       split
       · intro h;cases h
       · intro _
         have ms:=Zop rd rs (by simpa using hm)
         exact ZnA (Zg5 h ms ms) (ZfA bd bs)
   · intro _;exact h
 split
 · split
   · rename_i hl
     split
     · intro h;cases h
     · intro _
       have:=ZnB rd rs hl
       exact Zg5 h this.1 this.2
   · intro h;cases h
 split
 · intro _;exact h
 split
 · rename_i hge
   intro _
   have h1:=Zdp (a:=(regS m s.dst).1) (b:=(regS m s.src).1)
   have h2:=ZcS (a:=(regS m s.src).2) (b:=(regS m s.dst).2)
   obtain ⟨a1,a2,a3⟩:=rd
   obtain ⟨b1,b2,b3⟩:=rs
   refine Zg5 h ⟨?_,?_,?_⟩ ⟨?_,?_,?_⟩<;>dsimp only<;>omega
 · intro h;cases h
theorem ZhJ {α β γ:Type} {f:α→β→γ}:∀ {l:List α} {r:List β} {z:γ},z∈List.zipWith f l r→∃ x∈l,∃ y∈r,z=f x y
 | [],_,_,h=>by simp at h
 | _::_,[],_,h=>by simp at h
 | a::l,b::r,z,h=>by
  rw [List.zipWith_cons_cons] at h
  rcases List.mem_cons.1 h with rfl|h
  · exact ⟨a,List.mem_cons_self,b,List.mem_cons_self,rfl⟩
  · obtain ⟨x,hx,y,hy,e⟩:=ZhJ h
    exact ⟨x,List.mem_cons_of_mem _ hx,y,List.mem_cons_of_mem _ hy,e⟩
theorem Zhd {a b:MayD} (ha:MayOk a) (hb:MayOk b):MayOk (joinM a b):=by
 have l:=ZeF ha.len hb.len
 refine ⟨l.reg,l.bits,l.cell,l.isset,fun z hz=>?_,fun z hz=>?_,fun z hz=>?_⟩
 · obtain ⟨x,hx,y,hy,rfl⟩:=ZhJ hz
   exact ZkY (Zkg (ZeE (ha.gr x hx)) (ZeE (hb.gr y hy)))
 · obtain ⟨x,hx,y,hy,rfl⟩:=ZhJ hz
   exact ZnC (Zod (ZfJ (ha.gb x hx)) (ZfJ (hb.gb y hy)))
 · obtain ⟨x,hx,y,hy,rfl⟩:=ZhJ hz
   exact ZkY (Zkg (ZeE (ha.gc x hx)) (ZeE (hb.gc y hy)))
theorem startM_ok:MayOk startM:=by
 refine ⟨by rfl,by rfl,by rfl,by rfl,fun x hx=>?_,fun x hx=>?_,fun x hx=>?_⟩ <;>
 · rw [List.eq_of_mem_replicate hx];decide
def inS (x:Int) (s:Int×Int):Prop:=s.1≤x∧x≤s.2
def inK (x:Int) (k:Int×Int):Prop:=andNotI x k.2=k.1
theorem SOk.wd_of {s:Int×Int} (h:SOk s) {x:Int} (hx:inS x s):wd x:=⟨by have:=h.lo;have:=hx.1;omega,by have:=h.hi;have:=hx.2;omega⟩
theorem Zd2 {lo hi z:Int} (h1:lo≤z) (h2:z≤hi):inS (z % 65536) (endsI lo hi):=by
 unfold endsI inS
 split
 · dsimp only;omega
 · rename_i hc
   have hc:lo / 65536=hi / 65536:=by simpa using hc
   dsimp only
   omega
theorem Zsn {x y:Int} (hx:wd x) (hy:wd y):x≤orI x y∧y≤orI x y:=by
 rw [Zl7 hx.nn hy.nn]
 have h1:x.toNat≤x.toNat ||| y.toNat:=Nat.left_le_or
 have h2:y.toNat≤x.toNat ||| y.toNat:=Nat.right_le_or
 have:=hx.1;have:=hy.1
 omega
theorem Zpo {x y n:Int} (hx:wd x) (hy:wd y) (h1:x≤n) (h2:y≤n) (hn:n≤65535):orI x y≤onesW n 0∧xorI x y≤onesW n 0:=by
 obtain ⟨j,hj,e⟩:=ZgN n hn
 have hge:=Zhn n 0 (Int.le_refl 0)
 rw [e] at hge ⊢
 have hx0:=hx.1
 have hy0:=hy.1
 have ex:((2:Nat) ^ j:Nat)=((2:Int) ^ j):=by simp
 have bx:x.toNat < 2 ^ j:=by omega
 have b_y:y.toNat < 2 ^ j:=by omega
 have ho:=Nat.or_lt_two_pow bx b_y
 have hxo:=Nat.xor_lt_two_pow bx b_y
 rw [Zl7 hx.nn hy.nn,Znv hx.nn hy.nn]
 omega
theorem Zmz {x y:Int} (hx:wd x) (hy:wd y):0≤andI x y∧andI x y≤x∧andI x y≤y:=by
 rw [Zd4 hx.nn hy.nn]
 have h1:x.toNat &&& y.toNat≤x.toNat:=Nat.and_le_left
 have h2:x.toNat &&& y.toNat≤y.toNat:=Nat.and_le_right
 have:=hx.1;have:=hy.1
 omega
theorem Zmi (op x y:Int):doI op x y=if op == 1 then IntKind.i64.wrap (x+y) % 65536 else if op == 2 then IntKind.i64.wrap (x - y) % 65536 else if op == 3 then IntKind.i64.wrap (x * y) % 65536
 else if op == 4 then (if y == 0 then 0 else IntKind.i64.wrap (Int.tdiv x y)) else if op == 5 then (if y == 0 then x else Int.tmod x y)
 else if op == 6 then andI x y else if op == 7 then orI x y else if op == 8 then xorI x y
 else if op == 9 then IntKind.i64.wrap (x * shP y) % 65536 else Int.fdiv x (shP y):=rfl
theorem Zqr {x y:Int} (hx:wd x) (hy:0≤y):IntKind.i64.wrap (Int.tdiv x y)=Int.tdiv x y:=by
 have:=Zb7 hx.1 hy
 have:=hx.2
 exact Zaj (by omega) (by omega)
theorem ZeC {op x y:Int} {a b:Int×Int} (ha:SOk a) (hb:SOk b) (hx:inS x a) (hy:inS y b):inS (doI op x y) (stI op a b):=by
 have wx:=ha.wd_of hx
 have wy:=hb.wd_of hy
 have hp:=Zia wy.1
 have hor:=Zsn wx wy
 have hand:=Zmz wx wy
 obtain ⟨a1,a2,a3⟩:=ha
 obtain ⟨b1,b2,b3⟩:=hb
 obtain ⟨x1,x2⟩:=hx
 obtain ⟨y1,y2⟩:=hy
 have hm:=Zdp (a:=a.1) (b:=b.1)
 have hm2:=Zdp (a:=a.2) (b:=b.2)
 have hn:=ZcS (a:=a.2) (b:=b.2)
 have hn2:=ZcS (a:=a.2) (b:=b.2 - 1)
 have hoo:=Zpo (n:=mxI a.2 b.2) wx wy (by omega) (by omega) (by omega)
 have ww:0≤x∧x≤65535:=wx
 have ww2:0≤y∧y≤65535:=wy
 rw [Zmi]
 unfold stI
 split
 · rw [Zaj (x:=x+y) (by omega) (by omega)]
   exact Zd2 (by omega) (by omega)
 split
 · rw [Zaj (x:=x - y) (by omega) (by omega)]
   exact Zd2 (by omega) (by omega)
 split
 · have h1:x * y≤a.2 * b.2:=Int.mul_le_mul x2 y2 ww2.1 (by omega)
   have h2:a.1 * b.1≤x * y:=Int.mul_le_mul x1 y1 b1 (by omega)
   have h3:=Zee (a:=x) (b:=y) (A:=65535) (B:=65535) ww.1 ww.2 ww2.1 ww2.2
   rw [Zaj (x:=x * y) (by omega) (by omega)]
   exact Zd2 h2 h1
 split
 · by_cases y0:y=0
   · subst y0
     have:b.1=0:=by omega
     simp only [this,beq_self_eq_true,if_true]
     exact ⟨Int.le_refl 0,by dsimp only;omega⟩
   · have yb:(y == 0)=false:=by simpa using y0
     rw [yb,Zqr wx ww2.1]
     simp only [Bool.false_eq_true,if_false]
     have hin:=Zb7 (a:=x) (b:=y) ww.1 ww2.1
     split
     · exact ⟨hin.1,by dsimp only;omega⟩
     · rename_i hb0
       have hb0:¬ b.1=0:=by simpa using hb0
       have h1:=Zdw (a:=a.1) (b:=x) (c:=b.2) (d:=y) a1 x1 (by omega) y2
       have h2:=Zdw (a:=x) (b:=a.2) (c:=y) (d:=b.1) ww.1 x2 (by omega) y1
       exact ⟨h1,h2⟩
 split
 · unfold modS
   by_cases y0:y=0
   · subst y0
     have hb0:b.1=0:=by omega
     simp only [beq_self_eq_true,if_true,hb0]
     split
     · exact ⟨x1,x2⟩
     · exact ⟨ww.1,by dsimp only;omega⟩
   · have yb:(y == 0)=false:=by simpa using y0
     rw [yb]
     simp only [Bool.false_eq_true,if_false]
     rw [Int.tmod_eq_emod_of_nonneg ww.1]
     have hl:=Int.emod_lt_of_pos x (show 0 < y by omega)
     have hg:=Int.emod_nonneg x y0
     have hle:x % y≤x:=by
      have:=Int.emod_add_mul_ediv x y
      have h3:0≤x / y:=Int.ediv_nonneg ww.1 ww2.1
      have h4:0≤y * (x / y):=Int.mul_nonneg ww2.1 h3
      omega
     split
     · rw [Int.emod_eq_of_lt ww.1 (by omega)]
       exact ⟨x1,x2⟩
     split
     · exact ⟨hg,by dsimp only;omega⟩
     · refine ⟨hg,?_⟩
       dsimp only
       omega
 split
 · exact ⟨hand.1,by dsimp only;omega⟩
 split
 · exact ⟨by dsimp only;omega,hoo.1⟩
 split
 · exact ⟨(Zc1 wx wy).1,hoo.2⟩
 unfold shS
 split
 · split
   · rename_i hb1
     have hb1:b.1=b.2:=by simpa using hb1
     obtain rfl:y=b.1:=by omega
     have h3:=Zee (a:=x) (b:=shP b.1) (A:=65535) (B:=32768) ww.1 ww.2 (by omega) hp.2
     rw [Zaj (x:=x * shP b.1) (by omega) (by omega)]
     exact Zd2 (Int.mul_le_mul_of_nonneg_right x1 (by omega)) (Int.mul_le_mul_of_nonneg_right x2 (by omega))
   · have:=ZaP (IntKind.i64.wrap (x * shP y))
     exact ⟨this.1,this.2⟩
 · rw [fdivP ww.1 (by omega)]
   have hin:=Zb7 (a:=x) (b:=shP y) ww.1 (by omega)
   split
   · rename_i hb1
     have hb1:b.1=b.2:=by simpa using hb1
     obtain rfl:y=b.1:=by omega
     exact ⟨ZcJ a1 x1 (by omega),ZcJ ww.1 x2 (by omega)⟩
   · exact ⟨hin.1,by dsimp only;omega⟩
theorem Zau {x:Int} {k:Int×Int} (hk:KOk k) (hx:wd x):inK x k↔∀ i,i < 16→((bI x).getLsbD i&&!(bI k.2).getLsbD i)=(bI k.1).getLsbD i:=by
 unfold inK
 constructor
 · intro h i hi
   have e:bI (andNotI x k.2)=bI k.1:=by rw [h]
   rw [Zat,Zao] at e
   rw [← e]
   simp [show i < 64 by omega]
 · intro h
   refine Zox (Zb3 hx) hk.v ?_
   rw [Zat,Zao]
   apply BitVec.eq_of_getLsbD_eq
   intro i hi
   by_cases h16:i < 16
   · rw [← h i h16];simp [hi]
   · rw [ZdJ hk.v (by omega)]
     simp [ZdJ hx (show 16≤i by omega)]
theorem ZdK {x n:Int} (hx:wd x) (h:inK x (n,0)):x=n:=by
 unfold inK at h
 rw [Zeq (b:=0) hx.nn wd0.nn] at h
 have:=hx.1
 simp at h
 omega
theorem Zfx {n:Int} (hn:wd n):inK n (n,0):=by
 unfold inK
 rw [Zeq (b:=0) hn.nn wd0.nn]
 have:=hn.1
 simp
 omega
theorem Zej {x:Int} (hx:wd x):inK x (0,65535):=by
 rw [Zau Zed hx]
 intro i hi
 rw [Ze8,Zdy]
 simp [hi]
theorem Zhz {x v m:Int} (hx:wd x) (hv:wd v) (hm:wd m) (h:∀ i,i < 16→(bI m).getLsbD i=false→(bI x).getLsbD i=(bI v).getLsbD i):inK x (knN v m):=by
 rw [Zau (Zg4 hv hm) hx]
 intro i hi
 have h64:i < 64:=by omega
 show _=(bI (andNotI v m)).getLsbD i
 rw [Zat,Zao]
 simp only [knN,BitVec.getLsbD_and,BitVec.getLsbD_not,h64,decide_true,Bool.true_and]
 have:=h i hi
 cases hmi:(bI m).getLsbD i with
 | true=>simp
 | false=>rw [this hmi]
theorem ZfX {x:Int} {a b:Int×Int} (ha:KOk a) (hb:KOk b) (hx:wd x) (h:inK x a∨inK x b):inK x (joinK a b):=by
 refine Zhz hx ha.v (Zbx (Zbx ha.m hb.m) (Zc1 ha.v hb.v)) fun i hi hm=>?_
 rw [ZaG,Zao,ZaG,Zao,ZcD,Zao] at hm
 simp only [BitVec.getLsbD_or,BitVec.getLsbD_xor,Bool.or_eq_false_iff] at hm
 obtain ⟨⟨h1,h2⟩,h3⟩:=hm
 rcases h with h|h
 · have:=(Zau ha hx).1 h i hi
   rw [h1] at this
   simpa using this
 · have:=(Zau hb hx).1 h i hi
   rw [h2] at this
   have h4:(bI a.1).getLsbD i=(bI b.1).getLsbD i:=by
    revert h3;cases (bI a.1).getLsbD i<;>cases (bI b.1).getLsbD i<;>simp
   rw [h4]
   simpa using this
theorem ZfZ {op x y:Int} {a b:Int×Int} (ho:op=6∨op=7∨op=8) (ha:KOk a) (hb:KOk b) (wx:wd x) (wy:wd y) (hx:inK x a) (hy:inK y b):inK (doI op x y) (kbI op a b):=by
 have hx:=(Zau ha wx).1 hx
 have hy:=(Zau hb wy).1 hy
 rw [Zau (ZgM ha hb) (ZdD wx wy)]
 intro i hi
 have h1:=hx i hi
 have h2:=hy i hi
 have d1:=disj ha.dj i
 have d2:=disj hb.dj i
 have h64:i < 64:=by omega
 rcases ho with rfl|rfl|rfl
 · show ((bI (andI x y)).getLsbD i&&!(bI (andNotI (andI (orI a.1 a.2) (orI b.1 b.2)) (andI a.1 b.1))).getLsbD i)=(bI (andI a.1 b.1)).getLsbD i
   simp only [Zat,ZaG,Zbb,Zao,BitVec.getLsbD_and,BitVec.getLsbD_not,BitVec.getLsbD_or,h64,decide_true,Bool.true_and]
   revert h1 h2 d1 d2
   cases (bI a.1).getLsbD i<;>cases (bI a.2).getLsbD i<;>cases (bI b.1).getLsbD i<;>cases (bI b.2).getLsbD i<;>cases (bI x).getLsbD i<;>cases (bI y).getLsbD i<;>simp
 · show ((bI (orI x y)).getLsbD i&&!(bI (andNotI (orI a.2 b.2) (orI a.1 b.1))).getLsbD i)=(bI (orI a.1 b.1)).getLsbD i
   simp only [Zat,ZaG,Zbb,Zao,BitVec.getLsbD_and,BitVec.getLsbD_not,BitVec.getLsbD_or,h64,decide_true,Bool.true_and]
   revert h1 h2 d1 d2
   cases (bI a.1).getLsbD i<;>cases (bI a.2).getLsbD i<;>cases (bI b.1).getLsbD i<;>cases (bI b.2).getLsbD i<;>cases (bI x).getLsbD i<;>cases (bI y).getLsbD i<;>simp
 · show ((bI (xorI x y)).getLsbD i&&!(bI (orI a.2 b.2)).getLsbD i)=(bI (andNotI (xorI a.1 b.1) (orI a.2 b.2))).getLsbD i
   simp only [Zat,ZaG,Zbb,ZcD,Zao,BitVec.getLsbD_and,BitVec.getLsbD_not,BitVec.getLsbD_or,BitVec.getLsbD_xor,h64,decide_true,Bool.true_and]
   revert h1 h2 d1 d2
   cases (bI a.1).getLsbD i<;>cases (bI a.2).getLsbD i<;>cases (bI b.1).getLsbD i<;>cases (bI b.2).getLsbD i<;>cases (bI x).getLsbD i<;>cases (bI y).getLsbD i<;>simp
def sub (x y:BitVec 64):Prop:=∀ i,x.getLsbD i=true→y.getLsbD i=true
theorem ZmJ {x y:BitVec 64} (h:sub x y) (i:Nat):x.toNat % 2 ^ i≤y.toNat % 2 ^ i:=by
 have e:x.toNat % 2 ^ i=(x.toNat % 2 ^ i) &&& (y.toNat % 2 ^ i):=by
  apply Nat.eq_of_testBit_eq
  intro j
  simp only [Nat.testBit_and,Nat.testBit_mod_two_pow]
  have:=h j
  simp only [BitVec.getLsbD] at this
  cases hx:x.toNat.testBit j
  · simp
  · simp [this hx]
 rw [e]
 exact Nat.and_le_right
theorem Zgy {i:Nat} {x y x' y':BitVec 64} (hx:sub x x') (hy:sub y y') (c:Bool) (h:BitVec.carry i x y c=true):BitVec.carry i x' y' c=true:=by
 simp only [BitVec.carry,decide_eq_true_eq] at h ⊢
 have:=ZmJ hx i
 have:=ZmJ hy i
 omega
theorem Zhu {i:Nat} (hi:i < 64) {l m u l' m' u':BitVec 64} (c:Bool) (h1:sub l m) (h2:sub m u) (h3:sub l' m') (h4:sub m' u')
 (e1:l.getLsbD i=u.getLsbD i) (e2:l'.getLsbD i=u'.getLsbD i) (e:(l+l'+BitVec.setWidth 64 (BitVec.ofBool c)).getLsbD i=(u+u'+BitVec.setWidth 64 (BitVec.ofBool c)).getLsbD i) :
 (m+m'+BitVec.setWidth 64 (BitVec.ofBool c)).getLsbD i=(l+l'+BitVec.setWidth 64 (BitVec.ofBool c)).getLsbD i:=by
 have em:m.getLsbD i=l.getLsbD i:=by
  have a:=h1 i;have b:=h2 i
  revert a b e1
  cases l.getLsbD i<;>cases m.getLsbD i<;>cases u.getLsbD i<;>simp
 have em':m'.getLsbD i=l'.getLsbD i:=by
  have a:=h3 i;have b:=h4 i
  revert a b e2
  cases l'.getLsbD i<;>cases m'.getLsbD i<;>cases u'.getLsbD i<;>simp
 rw [BitVec.getLsbD_add_add_bool hi,BitVec.getLsbD_add_add_bool hi] at e ⊢
 rw [em,em']
 have c1:=Zgy (i:=i) h1 h3 c
 have c2:=Zgy (i:=i) h2 h4 c
 rw [← e1,← e2] at e
 revert c1 c2 e
 cases BitVec.carry i l l' c<;>cases BitVec.carry i m m' c<;>cases BitVec.carry i u u' c<;>cases l.getLsbD i<;>cases l'.getLsbD i<;>simp
theorem Zf5 (a b:Int):bI (a+b)=bI a+bI b:=BitVec.ofInt_add a b
theorem Zkb (a b:Int):bI (a - b)=bI a+~~~bI b+BitVec.setWidth 64 (BitVec.ofBool true):=by
 have h:bI (a - b)+bI b=bI a:=by rw [← Zf5];exact congrArg bI (by omega)
 have h2:bI a+~~~bI b+BitVec.setWidth 64 (BitVec.ofBool true)=bI a - bI b:=by
  rw [BitVec.sub_eq_add_neg,BitVec.neg_eq_not_add,BitVec.add_assoc];rfl
 rw [h2,← h,BitVec.add_sub_cancel]
theorem ZdA (n:Int) {i:Nat} (hi:i < 16):(bI (n % 65536)).getLsbD i=(bI n).getLsbD i:=by
 rw [← Zie,Zbb,Zao,BitVec.getLsbD_and,Ze8]
 simp [hi]
theorem add0 (x:BitVec 64):x+BitVec.setWidth 64 (BitVec.ofBool false)=x:=by
 have:BitVec.setWidth 64 (BitVec.ofBool false)=0#64:=by decide
 rw [this,BitVec.add_zero]
theorem ZjR {x:Int} {k:Int×Int} (hk:KOk k) (hx:wd x) (h:inK x k):sub (bI k.1) (bI x):=by
 intro i hi
 by_cases h16:i < 16
 · have:=(Zau hk hx).1 h i h16
   rw [hi] at this
   simp only [Bool.and_eq_true] at this
   exact this.1
 · rw [ZdJ hk.v (by omega)] at hi;cases hi
theorem Zjm {x:Int} {k:Int×Int} (hk:KOk k) (hx:wd x) (h:inK x k):sub (bI x) (bI k.1 ||| bI k.2):=by
 intro i hi
 by_cases h16:i < 16
 · have:=(Zau hk hx).1 h i h16
   rw [hi] at this
   rw [BitVec.getLsbD_or,← this]
   cases (bI k.2).getLsbD i<;>rfl
 · rw [ZdJ hx (by omega)] at hi;cases hi
theorem Zjb {x y:BitVec 64} (h:sub x y):sub (~~~y) (~~~x):=by
 intro i hi
 simp only [BitVec.getLsbD_not,Bool.and_eq_true,decide_eq_true_eq,Bool.not_eq_true'] at hi ⊢
 refine ⟨hi.1,?_⟩
 have:=h i
 cases hx:x.getLsbD i
 · rfl
 · rw [this hx] at hi;exact absurd hi.2 (by simp)
theorem ZgH {k:Int×Int} (hk:KOk k):bI k.1 ||| bI k.2=bI (k.1+k.2):=by
 rw [Zf5,BitVec.add_eq_or_of_and_eq_zero _ _ (ZiA hk.dj)]
theorem Zfi (x y:BitVec 64):sub x (x ||| y):=fun i h=>by rw [BitVec.getLsbD_or,h];rfl
theorem ZhF (x:BitVec 64):sub x x:=fun _ h=>h
theorem ZqV {x y:Int} {a b:Int×Int} (ha:KOk a) (hb:KOk b) (wx:wd x) (wy:wd y) (hx:inK x a) (hy:inK y b):inK (doI 1 x y) (kdI 1 a b):=by
 have w1:=ha.v;have w2:=ha.m;have w3:=hb.v;have w4:=hb.m
 unfold wd at wx wy w1 w2 w3 w4
 have e1:doI 1 x y=(x+y) % 65536:=by
  show IntKind.i64.wrap (x+y) % 65536=_
  rw [Zaj (x:=x+y) (by omega) (by omega)]
 have e2:kdI 1 a b=knN ((a.1+b.1) % 65536) (orI (orI a.2 b.2) (xorI ((a.1+b.1) % 65536) ((a.1+a.2+b.1+b.2) % 65536))):=by
  show knN (IntKind.i64.wrap (a.1+b.1) % 65536) (orI (orI a.2 b.2) (xorI (IntKind.i64.wrap (a.1+b.1) % 65536) (IntKind.i64.wrap (IntKind.i64.wrap (IntKind.i64.wrap (a.1+a.2)+b.1)+b.2) % 65536)))=_
  rw [Zaj (x:=a.1+b.1) (by omega) (by omega),Zaj (x:=a.1+a.2) (by omega) (by omega),Zaj (x:=a.1+a.2+b.1) (by omega) (by omega),Zaj (x:=a.1+a.2+b.1+b.2) (by omega) (by omega)]
 rw [e1,e2]
 refine Zhz (ZaP _) (ZaP _) (Zbx (Zbx ha.m hb.m) (Zc1 (ZaP _) (ZaP _))) fun i hi hm=>?_
 rw [ZaG,Zao,ZaG,Zao,ZcD,Zao] at hm
 simp only [BitVec.getLsbD_or,BitVec.getLsbD_xor,Bool.or_eq_false_iff] at hm
 obtain ⟨⟨m1,m2⟩,m3⟩:=hm
 rw [ZdA _ hi,ZdA _ hi] at m3
 rw [ZdA _ hi,ZdA _ hi]
 have e3:a.1+a.2+b.1+b.2=(a.1+a.2)+(b.1+b.2):=by omega
 rw [e3,Zf5 (a.1+a.2),← ZgH ha,← ZgH hb] at m3
 have m3:(bI (a.1+b.1)).getLsbD i=((bI a.1 ||| bI a.2)+(bI b.1 ||| bI b.2)).getLsbD i:=by
  revert m3
  cases (bI (a.1+b.1)).getLsbD i<;>cases ((bI a.1 ||| bI a.2)+(bI b.1 ||| bI b.2)).getLsbD i<;>simp
 rw [Zf5] at m3
 rw [Zf5,Zf5]
 have:=Zhu (i:=i) (by omega) false (ZjR ha wx hx) (Zjm ha wx hx) (ZjR hb wy hy) (Zjm hb wy hy)
  (by rw [BitVec.getLsbD_or,m1,Bool.or_false]) (by rw [BitVec.getLsbD_or,m2,Bool.or_false]) (by rw [add0,add0];exact m3)
 rwa [add0,add0] at this
theorem Zqv {x y:Int} {a b:Int×Int} (ha:KOk a) (hb:KOk b) (wx:wd x) (wy:wd y) (hx:inK x a) (hy:inK y b):inK (doI 2 x y) (kdI 2 a b):=by
 have w1:=ha.v;have w2:=ha.m;have w3:=hb.v;have w4:=hb.m
 unfold wd at wx wy w1 w2 w3 w4
 have e1:doI 2 x y=(x - y) % 65536:=by
  show IntKind.i64.wrap (x - y) % 65536=_
  rw [Zaj (x:=x - y) (by omega) (by omega)]
 have e2:kdI 2 a b=knN ((a.1 - b.1) % 65536) (orI (orI a.2 b.2) (xorI ((a.1+a.2 - b.1) % 65536) ((a.1 - (b.1+b.2)) % 65536))):=by
  show knN (IntKind.i64.wrap (a.1 - b.1) % 65536) (orI (orI a.2 b.2) (xorI (IntKind.i64.wrap (IntKind.i64.wrap (a.1 - b.1) % 65536+a.2) % 65536) (IntKind.i64.wrap (IntKind.i64.wrap (a.1 - b.1) % 65536 - b.2) % 65536)))=_
  rw [Zaj (x:=a.1 - b.1) (by omega) (by omega),Zaj (x:=(a.1 - b.1) % 65536+a.2) (by omega) (by omega),Zaj (x:=(a.1 - b.1) % 65536 - b.2) (by omega) (by omega)]
  have f1:((a.1 - b.1) % 65536+a.2) % 65536=(a.1+a.2 - b.1) % 65536:=by omega
  have f2:((a.1 - b.1) % 65536 - b.2) % 65536=(a.1 - (b.1+b.2)) % 65536:=by omega
  rw [f1,f2]
 rw [e1,e2]
 refine Zhz (ZaP _) (ZaP _) (Zbx (Zbx ha.m hb.m) (Zc1 (ZaP _) (ZaP _))) fun i hi hm=>?_
 rw [ZaG,Zao,ZaG,Zao,ZcD,Zao] at hm
 simp only [BitVec.getLsbD_or,BitVec.getLsbD_xor,Bool.or_eq_false_iff] at hm
 obtain ⟨⟨m1,m2⟩,m3⟩:=hm
 rw [ZdA _ hi,ZdA _ hi] at m3
 rw [ZdA _ hi,ZdA _ hi]
 rw [Zkb,Zkb,← ZgH ha,← ZgH hb] at m3
 have h64:i < 64:=by omega
 have q1:(bI a.1).getLsbD i=(bI a.1 ||| bI a.2).getLsbD i:=by rw [BitVec.getLsbD_or,m1,Bool.or_false]
 have q2:(~~~(bI b.1 ||| bI b.2)).getLsbD i=(~~~bI b.1).getLsbD i:=by simp [m2]
 have m3:(bI a.1+~~~(bI b.1 ||| bI b.2)+BitVec.setWidth 64 (BitVec.ofBool true)).getLsbD i=((bI a.1 ||| bI a.2)+~~~bI b.1+BitVec.setWidth 64 (BitVec.ofBool true)).getLsbD i:=by
  revert m3
  generalize (bI a.1+~~~(bI b.1 ||| bI b.2)+BitVec.setWidth 64 (BitVec.ofBool true)).getLsbD i=p
  generalize ((bI a.1 ||| bI a.2)+~~~bI b.1+BitVec.setWidth 64 (BitVec.ofBool true)).getLsbD i=q
  cases p<;>cases q<;>simp
 have s1:=Zhu h64 true (ZjR ha wx hx) (Zjm ha wx hx) (Zjb (Zjm hb wy hy)) (Zjb (ZjR hb wy hy)) q1 q2 m3
 have s2:=Zhu h64 true (ZhF (bI a.1)) (Zfi (bI a.1) (bI a.2)) (Zjb (Zfi (bI b.1) (bI b.2))) (ZhF (~~~bI b.1)) q1 q2 m3
 rw [Zkb,Zkb,s1,s2]
theorem Zql {x:Int} (hx:0≤x):bI x=BitVec.ofNat 64 x.toNat:=by
 obtain ⟨n,rfl⟩:=Int.eq_ofNat_of_zero_le hx
 rw [Int.toNat_natCast]
 exact BitVec.ofInt_natCast 64 n
theorem Zb9 {x:Int} (hx:wd x) {i:Nat} (hi:i < 16):(bI x).getLsbD i=x.toNat.testBit i:=by
 rw [Zql hx.1,BitVec.getLsbD_ofNat]
 simp [show i < 64 by omega]
theorem ZiM {x:Int} {k:Int×Int} (hk:KOk k) (hx:wd x):inK x k↔∀ i,i < 16→(x.toNat.testBit i&&!k.2.toNat.testBit i)=k.1.toNat.testBit i:=by
 rw [Zau hk hx]
 constructor
 · intro h i hi
   have:=h i hi
   rwa [Zb9 hx hi,Zb9 hk.m hi,Zb9 hk.v hi] at this
 · intro h i hi
   rw [Zb9 hx hi,Zb9 hk.m hi,Zb9 hk.v hi]
   exact h i hi
theorem ZqS {op x y:Int} {a b:Int×Int} (ho:op=9∨op=10) (ha:KOk a) (hb:KOk b) (wx:wd x) (wy:wd y) (hx:inK x a) (hy:inK y b) (h0:b.2=0):inK (doI op x y) (doI op a.1 b.1,doI op a.2 b.1):=by
 have hk:KOk (doI op a.1 b.1,doI op a.2 b.1):=Zpz ho ha hb
 obtain rfl:y=b.1:=ZdK wy (by unfold inK at hy ⊢;rw [h0] at hy;exact hy)
 rw [ZiM hk (ZdD wx wy)]
 have hx:=(ZiM ha wx).1 hx
 have ht:=tmod16 hb.v.1
 have hn:min (Int.tmod b.1 16).toNat IntKind.i64.bits < 16:=by show min _ 64 < 16;omega
 generalize hq:min (Int.tmod b.1 16).toNat IntKind.i64.bits=k at hn
 intro i hi
 dsimp only
 rcases ho with rfl|rfl
 · have e:∀ x,doI 9 x b.1=IntKind.i64.wrap (x * 2 ^ k) % 65536:=fun x=>by rw [← hq];rfl
   rw [e,e,e,Zel ha.v hn,Zel ha.m hn,Zel wx hn]
   simp only [Int.toNat_natCast,Nat.testBit_mod_two_pow,Nat.testBit_shiftLeft,hi,decide_true,Bool.true_and]
   by_cases hki:k≤i
   · simp only [ge_iff_le,hki,decide_true,Bool.true_and]
     exact hx (i - k) (by omega)
   · simp [hki]
 · have e:∀ x,doI 10 x b.1=Int.fdiv x (2 ^ k):=fun x=>by rw [← hq];rfl
   rw [e,e,e,Zb6 ha.v,Zb6 ha.m,Zb6 wx]
   simp only [Int.toNat_natCast,Nat.testBit_shiftRight]
   by_cases hki:k+i < 16
   · exact hx (k+i) hki
   · have z:∀ n:Int,wd n→n.toNat.testBit (k+i)=false:=fun n hn=>Nat.testBit_lt_two_pow (Nat.lt_of_lt_of_le hn.lt (Nat.pow_le_pow_right (by omega) (by omega)))
     rw [z x wx,z a.1 ha.v]
     simp
theorem ZdE {op x y:Int} {a b:Int×Int} (ha:KOk a) (hb:KOk b) (wx:wd x) (wy:wd y) (hx:inK x a) (hy:inK y b):inK (doI op x y) (kdI op a b):=by
 have hw:=ZdD (op:=op) wx wy
 have bk:∀ j:Int,(op == j)=true→op=j:=fun j h=>by simpa using h
 unfold kdI
 split
 · rename_i h;exact ZfZ (.inl (bk _ h)) ha hb wx wy hx hy
 split
 · rename_i h;exact ZfZ (.inr (.inl (bk _ h))) ha hb wx wy hx hy
 split
 · rename_i h;exact ZfZ (.inr (.inr (bk _ h))) ha hb wx wy hx hy
 split
 · rename_i h
   obtain rfl:=bk _ h
   exact ZqV ha hb wx wy hx hy
 split
 · rename_i h
   obtain rfl:=bk _ h
   exact Zqv ha hb wx wy hx hy
 split
 · rename_i h
   obtain rfl:=bk _ h
   split
   · rename_i h0;exact ZqS (.inl rfl) ha hb wx wy hx hy (by simpa using h0)
   · exact Zej hw
 split
 · rename_i h
   obtain rfl:=bk _ h
   split
   · rename_i h0;exact ZqS (.inr rfl) ha hb wx wy hx hy (by simpa using h0)
   · exact Zej hw
 split
 · rename_i ha0
   split
   · rename_i hb0
     have ha0:a.2=0:=by simpa using ha0
     have hb0:b.2=0:=by simpa using hb0
     obtain rfl:x=a.1:=ZdK wx (by unfold inK at hx ⊢;rw [ha0] at hx;exact hx)
     obtain rfl:y=b.1:=ZdK wy (by unfold inK at hy ⊢;rw [hb0] at hy;exact hy)
     exact Zfx hw
   · exact Zej hw
 · exact Zej hw
theorem Zd0 {x:Int} {k:Int×Int} (hk:KOk k) (hx:wd x) (h:inK x k):k.1≤x∧x≤k.1+k.2:=by
 unfold inK at h
 have e:andNotI x k.2+andI x k.2=x:=by
  have h1:bI (andNotI x k.2)+bI (andI x k.2)=bI x:=by
   rw [Zat,Zbb,Zao,Zao,BitVec.add_eq_or_of_and_eq_zero]
   · apply BitVec.eq_of_getLsbD_eq
     intro i hi
     simp only [BitVec.getLsbD_or,BitVec.getLsbD_and,BitVec.getLsbD_not,hi,decide_true,Bool.true_and]
     cases (bI x).getLsbD i<;>cases (bI k.2).getLsbD i<;>simp
   · apply BitVec.eq_of_getLsbD_eq
     intro i hi
     simp only [BitVec.getLsbD_and,BitVec.getLsbD_not,hi,decide_true,Bool.true_and]
     cases (bI x).getLsbD i<;>cases (bI k.2).getLsbD i<;>simp
  rw [← Zf5] at h1
  have a1:=Zb3 (b:=k.2) hx
  have a2:=Zmz hx hk.m
  unfold wd at a1
  have h2:=congrArg BitVec.toNat h1
  have w1:nn (andNotI x k.2+andI x k.2):=⟨by omega,by have:=hx.2;omega⟩
  have b1:(bI (andNotI x k.2+andI x k.2)).toNat=(andNotI x k.2+andI x k.2).toNat:=ZeQ w1
  have b2:(bI x).toNat=x.toNat:=ZeQ hx.nn
  rw [b1,b2] at h2
  have:=hx.1
  omega
 have a2:=Zmz hx hk.m
 omega
theorem Zi6 {s k:Int×Int} (hs:SOk s) (hk:KOk k) {x:Int} (hx:wd x):(inS x s∧inK x k)↔∃ r,reduS s k=some r∧inS x r.1∧inK x r.2:=by
 have k1:=hk.v
 have k2:=hk.m
 unfold wd at k1 k2
 have hw:IntKind.i64.wrap (k.1+k.2)=k.1+k.2:=Zaj (by omega) (by omega)
 have hb:=Zd0 hk hx
 unfold reduS
 dsimp only
 rw [hw]
 generalize hlo:(if k.1 > s.1 then k.1 else s.1)=lo
 generalize hhi:(if k.1+k.2 < s.2 then k.1+k.2 else s.2)=hi
 have l1:k.1≤lo∧s.1≤lo∧(lo=k.1∨lo=s.1):=by subst hlo;split<;>omega
 have l2:hi≤k.1+k.2∧hi≤s.2∧(hi=k.1+k.2∨hi=s.2):=by subst hhi;split<;>omega
 clear hlo hhi
 have back:lo≤x→x≤hi→inS x s:=fun h1 h2=>⟨by omega,by omega⟩
 constructor
 · rintro ⟨h1,h2⟩
   have hb:=hb h2
   obtain ⟨h3,h4⟩:=h1
   rw [if_neg (by omega)]
   split
   · exact ⟨_,rfl,⟨by dsimp only;omega,by dsimp only;omega⟩,h2⟩
   · have e:x=lo:=by omega
     subst e
     rw [if_pos (by rw [beq_iff_eq];exact h2)]
     exact ⟨_,rfl,⟨by dsimp only;omega,by dsimp only;omega⟩,Zfx hx⟩
 · rintro ⟨r,hr,h1,h2⟩
   split at hr
   · cases hr
   split at hr
   · injection hr with hr
     subst hr
     exact ⟨back h1.1 h1.2,h2⟩
   split at hr
   · rename_i hm
     injection hr with hr
     subst hr
     have e:x=lo:=ZdK hx h2
     subst e
     exact ⟨back h1.1 h1.2,by rw [beq_iff_eq] at hm;exact hm⟩
   · cases hr
theorem Ze5 {s k:Int×Int} (hs:SOk s) (hk:KOk k) {x:Int} (h1:inS x s) (h2:inK x k):inS x (putV s k).1∧inK x (putV s k).2:=by
 obtain ⟨r,hr,h3,h4⟩:=(Zi6 hs hk (hs.wd_of h1)).1 ⟨h1,h2⟩
 unfold putV
 rw [hr]
 exact ⟨h3,h4⟩
structure InM (m:MayD) (x:MachD):Prop where
 rs:∀ i,i < 6→inS (x.regs.getD i 0) (m.reg.getD i (0,0))
 rk:∀ i,i < 6→inK (x.regs.getD i 0) (m.bits.getD i (0,0))
 cs:∀ i,i < 16→x.isset.getD i false=true→inS (x.cells.getD i 0) (m.cell.getD i (0,0))
 st:∀ i,i < 16→m.isset.getD i false=true→x.isset.getD i false=true
theorem Zas {α:Type} {l:List α} {i j:Nat} {x d:α} (hi:i < l.length):(l.set i x).getD j d=if i=j then x else l.getD j d:=by
 rw [List.getD_eq_getElem?_getD,List.getD_eq_getElem?_getD,List.getElem?_set]
 by_cases h:i=j
 · subst h;simp [hi]
 · simp [h]
theorem InM.pc {m:MayD} {x:MachD} (h:InM m x) (n:Int):InM m (setP x n):=⟨h.rs,h.rk,h.cs,h.st⟩
theorem InM.setR {m:MayD} {x:MachD} {i n:Int} {r:(Int×Int)×(Int×Int)} (h:InM m x) (hm:MLen m) (hx:MachOk x) (hi:i.toNat < 6) (h1:inS n r.1) (h2:inK n r.2):InM (putM m i r) (setR x i n):=by
 have l1:=hm.reg;have l2:=hm.bits;have l3:=hx.regs
 refine ⟨fun j hj=>?_,fun j hj=>?_,h.cs,h.st⟩
 · show inS ((x.regs.set i.toNat n).getD j 0) ((m.reg.set i.toNat r.1).getD j (0,0))
   rw [Zas (by omega),Zas (by omega)]
   split
   · exact h1
   · exact h.rs j hj
 · show inK ((x.regs.set i.toNat n).getD j 0) ((m.bits.set i.toNat r.2).getD j (0,0))
   rw [Zas (by omega),Zas (by omega)]
   split
   · exact h2
   · exact h.rk j hj
theorem ZgO {s:StepD} {m:MayD} {x:MachD} {ctx:List Int} (hm:MayOk m) (hx:MachOk x) (hc:CtxOk ctx) (hv:stepB s=true) (h:InM m x) (h0:(mayV s m).2=0) :
 (stepM s ctx x).2.1=0∧InM (mayV s m).1 (stepM s ctx x).1:=by
 have ok:=ZaF hv
 have kd:=Za1 (.inr hv)
 obtain ⟨_,od,os,oi,oo,ot,_,_⟩:=ok
 have di:s.dst.toNat < 6:=by omega
 have si:s.src.toNat < 6:=by omega
 have rd:=Zbp hm od.1 od.2
 have rs:=Zbp hm os.1 os.2
 have bd:=Zbv hm od.1 od.2
 have bs:=Zbv hm os.1 os.2
 have wi:wd s.imm:=oi
 have sc:=Zdu oi
 have kc:=ZcI oi
 have xd1:inS (regI x s.dst) (regS m s.dst):=h.rs _ di
 have xs1:inS (regI x s.src) (regS m s.src):=h.rs _ si
 have xd2:inK (regI x s.dst) (bitS m s.dst):=h.rk _ di
 have xs2:inK (regI x s.src) (bitS m s.src):=h.rk _ si
 have wxd:=rd.wd_of xd1
 have wxs:=rs.wd_of xs1
 have ci:inS s.imm (s.imm,s.imm):=⟨Int.le_refl _,Int.le_refl _⟩
 have ki:inK s.imm (s.imm,0):=Zfx wi
 obtain ⟨k,op,dst,src,imm,to⟩:=s
 dsimp only at *
 rcases kd with rfl|rfl|rfl|rfl|rfl|rfl|rfl|rfl|rfl|rfl|rfl
 · refine ⟨rfl,?_⟩
   have:=Ze5 (ZeG (op:=op) rd rs) (Zd8 (op:=op) bd bs) (ZeC rd rs xd1 xs1) (ZdE bd bs wxd wxs xd2 xs2)
   exact h.setR hm.len hx di this.1 this.2
 · refine ⟨rfl,?_⟩
   have:=Ze5 (ZeG (op:=op) rd sc) (Zd8 (op:=op) bd kc) (ZeC rd sc xd1 ci) (ZdE bd kc wxd wi xd2 ki)
   exact h.setR hm.len hx di this.1 this.2
 · exact ⟨rfl,h.setR hm.len hx di ci ki⟩
 · exact ⟨rfl,h.setR hm.len hx di ci ki⟩
 · by_cases hf:(regS m src).2+imm ≥ 8
   · have:(mayV ⟨5,op,dst,src,imm,to⟩ m).2=1:=by show (if (regS m src).2+imm ≥ 8 then (m,(1:Int)) else _).2=1;rw [if_pos hf]
     omega
   · have e1:mayV ⟨5,op,dst,src,imm,to⟩ m=(putM m dst ((0,255),(0,255)),0):=by show (if (regS m src).2+imm ≥ 8 then (m,(1:Int)) else _)=_;rw [if_neg hf]
     have hr:¬ regI x src+imm ≥ 8:=by have:=xs1.2;omega
     have e2:stepM ⟨5,op,dst,src,imm,to⟩ ctx x=(setR x dst (ctx.getD (regI x src+imm).toNat 0),0,false):=by show (if regI x src+imm ≥ 8 then (x,(1:Int),false) else _)=_;rw [if_neg hr]
     rw [e1,e2]
     refine ⟨rfl,?_⟩
     have r0:0≤regI x src:=wxs.1
     have hl:(regI x src+imm).toNat < ctx.length:=by rw [hc.len];omega
     have hb:=hc.all _ (Zex (d:=0) hl)
     have wb:wd (ctx.getD (regI x src+imm).toNat 0):=⟨hb.1,by omega⟩
     refine h.setR hm.len hx di ⟨hb.1,hb.2⟩ ?_
     generalize ctx.getD (regI x src+imm).toNat 0=n at hb wb
     rw [ZiM (⟨wd0,⟨by decide,by decide⟩,by decide⟩:KOk (0,255)) wb]
     intro i hi
     have hn:n.toNat < 2 ^ 8:=by omega
     show (n.toNat.testBit i&&!(255:Nat).testBit i)=(0:Nat).testBit i
     rw [show (255:Nat)=2 ^ 8 - 1 from rfl,Nat.testBit_two_pow_sub_one]
     by_cases h8:i < 8
     · simp [h8]
     · rw [Nat.testBit_lt_two_pow (Nat.lt_of_lt_of_le hn (Nat.pow_le_pow_right (by omega) (by omega)))]
       simp
 · by_cases hf:imm ≥ 16
   · have:(mayV ⟨6,op,dst,src,imm,to⟩ m).2=2:=by show (if imm ≥ 16 then (m,(2:Int)) else _).2=2;rw [if_pos hf]
     omega
   · cases hq:m.isset.getD imm.toNat false with
     | false =>
      have:(mayV ⟨6,op,dst,src,imm,to⟩ m).2=3:=by
       show (if imm ≥ 16 then (m,(2:Int)) else if m.isset.getD imm.toNat false then _ else (m,3)).2=3
       rw [if_neg hf,hq];rfl
      omega
     | true =>
      have e1:mayV ⟨6,op,dst,src,imm,to⟩ m=(putM m dst (putV (m.cell.getD imm.toNat (0,0)) (0,65535)),0):=by
       show (if imm ≥ 16 then (m,(2:Int)) else if m.isset.getD imm.toNat false then _ else (m,3))=_
       rw [if_neg hf,hq];rfl
      have ii:imm.toNat < 16:=by omega
      have hs:=h.st _ ii hq
      have e2:stepM ⟨6,op,dst,src,imm,to⟩ ctx x=(setR x dst (x.cells.getD imm.toNat 0),0,false):=by
       show (if imm ≥ 16 then (x,(2:Int),false) else if x.isset.getD imm.toNat false then _ else (x,3,false))=_
       rw [if_neg hf,hs];rfl
      rw [e1,e2]
      refine ⟨rfl,?_⟩
      have cw:=h.cs _ ii hs
      have co:=Zhb hm oi.1 hf
      have:=Ze5 co Zed cw (Zej (co.wd_of cw))
      exact h.setR hm.len hx di this.1 this.2
 · by_cases hf:imm ≥ 16
   · have:(mayV ⟨7,op,dst,src,imm,to⟩ m).2=2:=by show (if imm ≥ 16 then (m,(2:Int)) else _).2=2;rw [if_pos hf]
     omega
   · have e1:mayV ⟨7,op,dst,src,imm,to⟩ m=({ m with cell:=m.cell.set imm.toNat (regS m dst),isset:=m.isset.set imm.toNat true },0):=by show (if imm ≥ 16 then (m,(2:Int)) else _)=_;rw [if_neg hf]
     have e2:stepM ⟨7,op,dst,src,imm,to⟩ ctx x=(setC x imm (regI x dst),0,false):=by show (if imm ≥ 16 then (x,(2:Int),false) else _)=_;rw [if_neg hf]
     rw [e1,e2]
     have ii:imm.toNat < 16:=by omega
     have l1:=hm.cell;have l2:=hm.isset;have l3:=hx.cells;have l4:=hx.isset
     refine ⟨rfl,h.rs,h.rk,fun j hj hs=>?_,fun j hj hs=>?_⟩
     · have hs:(x.isset.set imm.toNat true).getD j false=true:=hs
       show inS ((x.cells.set imm.toNat (regI x dst)).getD j 0) ((m.cell.set imm.toNat (regS m dst)).getD j (0,0))
       rw [Zas (by omega)] at hs
       rw [Zas (by omega),Zas (by omega)]
       by_cases e:imm.toNat=j
       · rw [if_pos e,if_pos e];exact xd1
       · rw [if_neg e] at hs
         rw [if_neg e,if_neg e];exact h.cs j hj hs
     · have hs:(m.isset.set imm.toNat true).getD j false=true:=hs
       show (x.isset.set imm.toNat true).getD j false=true
       rw [Zas (by omega)] at hs ⊢
       by_cases e:imm.toNat=j
       · rw [if_pos e]
       · rw [if_neg e] at hs ⊢;exact h.st j hj hs
 · exact ⟨rfl,h.pc _⟩
 · have:stepM ⟨9,op,dst,src,imm,to⟩ ctx x=if regI x dst == regI x src then (setP x (x.pc+to+1),0,false) else (setP x (x.pc+1),0,false):=rfl
   rw [this]
   show _∧InM m _
   split<;>exact ⟨rfl,h.pc _⟩
 · have:stepM ⟨10,op,dst,src,imm,to⟩ ctx x=if regI x dst < regI x src then (setP x (x.pc+to+1),0,false) else (setP x (x.pc+1),0,false):=rfl
   rw [this]
   show _∧InM m _
   split<;>exact ⟨rfl,h.pc _⟩
 · exact ⟨rfl,h⟩
theorem Zek {a b:Int×Int} {x:Int} (h1:inS x a) (h2:inS x b):meetSb a b=false∧inS x (meetS a b):=by
 have m1:=Zdp (a:=a.1) (b:=b.1)
 have m2:=ZcS (a:=a.2) (b:=b.2)
 obtain ⟨a1,a2⟩:=h1
 obtain ⟨b1,b2⟩:=h2
 have hf:meetSb a b=false:=by unfold meetSb;rw [decide_eq_false_iff_not];omega
 refine ⟨hf,?_⟩
 unfold meetS
 rw [hf]
 exact ⟨by simp only [Bool.false_eq_true,if_false];omega,by simp only [Bool.false_eq_true,if_false];omega⟩
theorem Zep {a b:Int×Int} {x:Int} (ha:KOk a) (hb:KOk b) (hx:wd x) (h1:inK x a) (h2:inK x b):meetKb a b=false∧inK x (meetK a b):=by
 have k1:=(Zau ha hx).1 h1
 have k2:=(Zau hb hx).1 h2
 have hf:meetKb a b=false:=by
  unfold meetKb
  have:andNotI (xorI a.1 b.1) (orI a.2 b.2)=0:=by
   rw [Zat,ZcD,Zao,ZaG,Zao]
   have:(bI a.1 ^^^ bI b.1) &&& ~~~(bI a.2 ||| bI b.2)=0#64:=by
    apply BitVec.eq_of_getLsbD_eq
    intro i hi
    by_cases h16:i < 16
    · have q1:=k1 i h16
      have q2:=k2 i h16
      simp only [BitVec.getLsbD_and,BitVec.getLsbD_xor,BitVec.getLsbD_not,BitVec.getLsbD_or,hi,decide_true,Bool.true_and,BitVec.getLsbD_zero]
      revert q1 q2
      cases (bI a.1).getLsbD i<;>cases (bI a.2).getLsbD i<;>cases (bI b.1).getLsbD i<;>cases (bI b.2).getLsbD i<;>cases (bI x).getLsbD i<;>simp
    · simp [ZdJ ha.v (show 16≤i by omega),ZdJ hb.v (show 16≤i by omega)]
   rw [this];rfl
  rw [this];rfl
 refine ⟨hf,?_⟩
 have hk:=ZfA ha hb
 unfold meetK at hk ⊢
 rw [hf] at hk ⊢
 simp only [Bool.false_eq_true,if_false] at hk ⊢
 rw [Zau hk hx]
 intro i hi
 have q1:=k1 i hi
 have q2:=k2 i hi
 dsimp only
 rw [ZaG,Zao,Zbb,Zao,BitVec.getLsbD_or,BitVec.getLsbD_and]
 revert q1 q2
 cases (bI a.1).getLsbD i<;>cases (bI a.2).getLsbD i<;>cases (bI b.1).getLsbD i<;>cases (bI b.2).getLsbD i<;>cases (bI x).getLsbD i<;>simp
theorem Zei {a b:Int×Int} {x y:Int} (h1:inS x a) (h2:inS y b) (h:x < y):(lessS a b).2.2=true∧inS x (lessS a b).1∧inS y (lessS a b).2.1:=by
 have m1:=Zdp (a:=b.1) (b:=a.1+1)
 have m2:=ZcS (a:=a.2) (b:=b.2 - 1)
 obtain ⟨a1,a2⟩:=h1
 obtain ⟨b1,b2⟩:=h2
 unfold lessS
 rw [if_neg (by omega)]
 exact ⟨rfl,⟨a1,by dsimp only;omega⟩,⟨by dsimp only;omega,b2⟩⟩
theorem InM.setR2 {m:MayD} {x:MachD} {i j:Int} {a b:Int×Int} (h:InM m x) (hm:MLen m) (hi:i.toNat < 6) (hj:j.toNat < 6) (h1:i.toNat=j.toNat→inS (regI x i) b) (h2:inS (regI x i) a) (h3:inS (regI x j) b):InM (setR2 m i j a b) x:=by
 have l1:=hm.reg
 refine ⟨fun k hk=>?_,h.rk,h.cs,h.st⟩
 show inS (x.regs.getD k 0) (((m.reg.set i.toNat a).set j.toNat b).getD k (0,0))
 rw [Zas (by simp;omega),Zas (by omega)]
 split
 · rename_i e;subst e;exact h3
 split
 · rename_i e;subst e;exact h2
 · exact h.rs k hk
theorem InM.setB2 {m:MayD} {x:MachD} {i j:Int} {a:Int×Int} (h:InM m x) (hm:MLen m) (hi:i.toNat < 6) (hj:j.toNat < 6) (h2:inK (regI x i) a) (h3:inK (regI x j) a):InM (setB2 m i j a) x:=by
 have l1:=hm.bits
 refine ⟨h.rs,fun k hk=>?_,h.cs,h.st⟩
 show inK (x.regs.getD k 0) (((m.bits.set i.toNat a).set j.toNat a).getD k (0,0))
 rw [Zas (by simp;omega),Zas (by omega)]
 split
 · rename_i e;subst e;exact h3
 split
 · rename_i e;subst e;exact h2
 · exact h.rk k hk
def takesB (s:StepD) (x:MachD):Bool:=if s.kind == 9 then regI x s.dst == regI x s.src else decide (regI x s.dst < regI x s.src)
theorem ZfI {s:StepD} {m:MayD} {x:MachD} {t:Bool} (hm:MayOk m) (hv:stepB s=true) (hk:s.kind=9∨s.kind=10) (h:InM m x) (ht:takesB s x=t) :
 (heedV s m t).2=true∧InM (heedV s m t).1 x:=by
 have ok:=ZaF hv
 obtain ⟨_,od,os,oi,oo,ot,_,_⟩:=ok
 have di:s.dst.toNat < 6:=by omega
 have si:s.src.toNat < 6:=by omega
 have rd:=Zbp hm od.1 od.2
 have rs:=Zbp hm os.1 os.2
 have bd:=Zbv hm od.1 od.2
 have bs:=Zbv hm os.1 os.2
 have xd1:inS (regI x s.dst) (regS m s.dst):=h.rs _ di
 have xs1:inS (regI x s.src) (regS m s.src):=h.rs _ si
 have xd2:inK (regI x s.dst) (bitS m s.dst):=h.rk _ di
 have xs2:inK (regI x s.src) (bitS m s.src):=h.rk _ si
 have wxd:=rd.wd_of xd1
 have hm6:=hm.len
 obtain ⟨k,op,dst,src,imm,to⟩:=s
 dsimp only at *
 unfold takesB at ht
 dsimp only at ht
 rcases hk with rfl|rfl
 · simp only [beq_self_eq_true,if_true] at ht
   cases t with
   | false=>exact ⟨rfl,h⟩
   | true =>
    have e:regI x dst=regI x src:=by simpa using ht
    have m1:=Zek xd1 (e▸xs1)
    have m2:=Zep bd bs wxd xd2 (e▸xs2)
    have e1:heedV ⟨9,op,dst,src,imm,to⟩ m true=(setB2 (setR2 m dst src (meetS (regS m dst) (regS m src)) (meetS (regS m dst) (regS m src))) dst src (meetK (bitS m dst) (bitS m src)),true):=by
     show (if meetSb (regS m dst) (regS m src) then _ else if meetKb (bitS m dst) (bitS m src) then _ else _)=_
     rw [m1.1,m2.1];rfl
    rw [e1]
    refine ⟨rfl,?_⟩
    exact (h.setR2 hm6 di si (fun _=>m1.2) m1.2 (e▸m1.2)).setB2 (ZeS hm6) di si m2.2 (e▸m2.2)
 · have ht:decide (regI x dst < regI x src)=t:=ht
   cases t with
   | true =>
    have e:regI x dst < regI x src:=by simpa using ht
    have m1:=Zei xd1 xs1 e
    have hne:(dst == src)=false:=by rw [beq_eq_false_iff_ne];intro c;subst c;omega
    have e1:heedV ⟨10,op,dst,src,imm,to⟩ m true=(setR2 m dst src (lessS (regS m dst) (regS m src)).1 (lessS (regS m dst) (regS m src)).2.1,true):=by
     show (if (lessS (regS m dst) (regS m src)).2.2 then (if dst == src then _ else _) else _)=_
     rw [m1.1,hne];rfl
    rw [e1]
    refine ⟨rfl,h.setR2 hm6 di si (fun c=>?_) m1.2.1 m1.2.2⟩
    have:dst=src:=by omega
    subst this;omega
   | false =>
    have e:¬ regI x dst < regI x src:=by simpa using ht
    cases hne:(dst == src) with
    | true =>
     have e1:heedV ⟨10,op,dst,src,imm,to⟩ m false=(m,true):=by
      show (if dst == src then (m,true) else _)=_
      rw [hne];rfl
     rw [e1];exact ⟨rfl,h⟩
    | false =>
     have hge:(regS m dst).2 ≥ (regS m src).1:=by have:=xd1.2;have:=xs1.1;omega
     have e1:heedV ⟨10,op,dst,src,imm,to⟩ m false=(setR2 m dst src (mxI (regS m dst).1 (regS m src).1,(regS m dst).2) ((regS m src).1,mnI (regS m src).2 (regS m dst).2),true):=by
      show (if dst == src then (m,true) else if (regS m dst).2 ≥ (regS m src).1 then _ else _)=_
      rw [hne,if_pos hge];rfl
     rw [e1]
     have q1:=Zdp (a:=(regS m dst).1) (b:=(regS m src).1)
     have q2:=ZcS (a:=(regS m src).2) (b:=(regS m dst).2)
     have hne':dst≠src:=by simpa using hne
     obtain ⟨x1,x2⟩:=xd1
     obtain ⟨y1,y2⟩:=xs1
     refine ⟨rfl,h.setR2 hm6 di si (fun c=>?_) ⟨by dsimp only;omega,x2⟩ ⟨y1,by dsimp only;omega⟩⟩
     exact absurd (show dst=src by omega) hne'
theorem Zgk:InM startM newM:=by
 refine ⟨fun i hi=>?_,fun i hi=>?_,fun i hi hs=>?_,fun i hi hs=>?_⟩
 · have:i=0∨i=1∨i=2∨i=3∨i=4∨i=5:=by omega
   rcases this with rfl|rfl|rfl|rfl|rfl|rfl<;>exact ⟨by decide,by decide⟩
 · have:i=0∨i=1∨i=2∨i=3∨i=4∨i=5:=by omega
   rcases this with rfl|rfl|rfl|rfl|rfl|rfl<;>(show andNotI _ _=_;decide)
 · have e:newM.isset.getD i false=false:=by show (List.replicate 16 false).getD i false=false;rw [List.getD_eq_getElem?_getD,List.getElem?_replicate];split<;>rfl
   rw [e] at hs;cases hs
 · have e:startM.isset.getD i false=false:=by show (List.replicate 16 false).getD i false=false;rw [List.getD_eq_getElem?_getD,List.getElem?_replicate];split<;>rfl
   rw [e] at hs;cases hs
def SLe (a b:Int×Int):Prop:=b.1≤a.1∧a.2≤b.2
theorem SLe.refl (a:Int×Int):SLe a a:=⟨Int.le_refl _,Int.le_refl _⟩
theorem SLe.all {a:Int×Int} (h:SOk a):SLe a (0,65535):=⟨h.lo,h.hi⟩
theorem Zez {a b c d:Int} (h1:c≤a) (h2:a≤b) (h3:b≤d):SLe (endsI a b) (endsI c d):=by
 have ho:=ZeD (a:=a) (b:=b) h2
 unfold endsI at ho ⊢
 by_cases h:c / 65536=d / 65536
 · have e1:(c / 65536 != d / 65536)=false:=by simp [h]
   have e2:a / 65536=b / 65536:=by omega
   have e3:(a / 65536 != b / 65536)=false:=by simp [e2]
   rw [e1,e3]
   simp only [Bool.false_eq_true,if_false]
   exact ⟨by dsimp only;omega,by dsimp only;omega⟩
 · have e1:(c / 65536 != d / 65536)=true:=by simp [h]
   rw [if_pos e1]
   exact SLe.all ho
theorem ZoV (n:Int):∀ k:Int,0≤k→k≤onesW n k:=by
 intro k
 generalize hm:(n - k).toNat=m
 induction m using Nat.strongRecOn generalizing k with
 | _ m ih =>
  intro h0
  by_cases h:k < n
  · rw [Zdg h0 h]
    have:=ih (n - (2 * k+1)).toNat (by omega) (2 * k+1) rfl (by omega)
    omega
  · rw [ZcG h];omega
theorem Zic {n n':Int} (hn:n≤n'):∀ k:Int,0≤k→onesW n k≤onesW n' k:=by
 intro k
 generalize hm:(n - k).toNat=m
 induction m using Nat.strongRecOn generalizing k with
 | _ m ih =>
  intro h0
  by_cases h:k < n
  · rw [Zdg h0 h,Zdg h0 (show k < n' by omega)]
    exact ih (n - (2 * k+1)).toNat (by omega) (2 * k+1) rfl (by omega)
  · rw [ZcG h];exact ZoV n' k h0
theorem Zfa {a b c d:Int} (h1:a≤c) (h2:b≤d):mxI a b≤mxI c d:=by unfold mxI;split<;>split<;>omega
theorem Zgn {a b c d:Int} (h1:a≤c) (h2:b≤d):mnI a b≤mnI c d:=by unfold mnI;split<;>split<;>omega
theorem Zhe {a b:Int} (h0:0≤a) (hb:1≤b):0≤Int.tdiv a b∧Int.tdiv a b≤a:=by
 rw [Int.tdiv_eq_ediv_of_nonneg h0]
 exact ⟨Int.ediv_nonneg h0 (by omega),Int.ediv_le_self _ h0⟩
theorem Zkw {op:Int} {a b A B:Int×Int} (ha:SOk a) (hb:SOk b) (hA:SOk A) (hB:SOk B) (h1:SLe a A) (h2:SLe b B):SLe (stI op a b) (stI op A B):=by
 have ho:=ZeG (op:=op) ha hb
 obtain ⟨p1,p2⟩:=h1
 obtain ⟨q1,q2⟩:=h2
 obtain ⟨a1,a2,a3⟩:=ha
 obtain ⟨b1,b2,b3⟩:=hb
 obtain ⟨A1,A2,A3⟩:=hA
 obtain ⟨B1,B2,B3⟩:=hB
 unfold stI at ho ⊢
 split
 · exact Zez (by omega) (by omega) (by omega)
 split
 · exact Zez (by omega) (by omega) (by omega)
 split
 · exact Zez (Int.mul_le_mul p1 q1 (by omega) (by omega)) (Int.mul_le_mul a2 b2 (by omega) (by omega)) (Int.mul_le_mul p2 q2 (by omega) (by omega))
 split
 · by_cases hz:B.1=0
   · have e:(B.1 == 0)=true:=by simp [hz]
     rw [if_pos e]
     split
     · exact ⟨Int.le_refl _,p2⟩
     · rename_i hb0
       have hb0:¬ b.1=0:=by simpa using hb0
       have:=Zhe (a:=a.2) (b:=b.1) (by omega) (by omega)
       have:=Zhe (a:=a.1) (b:=b.2) (by omega) (by omega)
       exact ⟨by dsimp only;omega,by dsimp only;omega⟩
   · have e:¬ (B.1 == 0)=true:=by simp [hz]
     have e2:¬ (b.1 == 0)=true:=by simp;omega
     rw [if_neg e,if_neg e2]
     refine ⟨?_,?_⟩
     · exact Int.le_trans (Zdw A1 (Int.le_refl A.1) (by omega) q2) (ZcJ A1 p1 (by omega))
     · exact Int.le_trans (Zdw (by omega) (Int.le_refl a.2) (by omega) q1) (ZcJ (by omega) p2 (by omega))
 split
 · unfold modS
   have m1:=ZcS (a:=a.2) (b:=b.2 - 1)
   have m2:=Zgn (a:=a.2) (b:=b.2 - 1) (c:=A.2) (d:=B.2 - 1) p2 (by omega)
   have m3:=ZcS (a:=A.2) (b:=B.2 - 1)
   unfold SLe
   clear ho
   repeat' split
   all_goals (try simp only [beq_iff_eq] at *)
   all_goals (refine ⟨?_,?_⟩<;>(try dsimp only)<;>omega)
 split
 · exact ⟨Int.le_refl _,Zgn p2 q2⟩
 split
 · exact ⟨Zfa p1 q1,Zic (Zfa p2 q2) 0 (by decide)⟩
 split
 · exact ⟨Int.le_refl _,Zic (Zfa p2 q2) 0 (by decide)⟩
 rename_i n1 n2 n3 n4 n5 n6 n7 n8
 rw [if_neg n1,if_neg n2,if_neg n3,if_neg n4,if_neg n5,if_neg n6,if_neg n7,if_neg n8] at ho
 unfold shS at ho ⊢
 have sP:=Zia (b:=b.1) b1
 split
 · rename_i h9
   rw [if_pos h9] at ho
   by_cases hz:B.1=B.2
   · have e:b.1=B.1∧b.2=B.1:=by omega
     have e3:(B.1 == B.2)=true:=by simp [hz]
     have e4:(b.1 == b.2)=true:=by rw [e.1,e.2];simp
     rw [if_pos e3,if_pos e4,← e.1]
     exact Zez (Int.mul_le_mul_of_nonneg_right p1 (by omega)) (Int.mul_le_mul_of_nonneg_right a2 (by omega)) (Int.mul_le_mul_of_nonneg_right p2 (by omega))
   · rw [if_neg (show ¬ (B.1 == B.2)=true by simp [hz])]
     exact SLe.all ho
 · rename_i h9
   rw [if_neg h9] at ho
   by_cases hz:B.1=B.2
   · have e:b.1=B.1∧b.2=B.1:=by omega
     have e3:(B.1 == B.2)=true:=by simp [hz]
     have e4:(b.1 == b.2)=true:=by rw [e.1,e.2];simp
     rw [if_pos e3,if_pos e4,← e.1]
     exact ⟨ZcJ A1 p1 (by omega),ZcJ (by omega) p2 (by omega)⟩
   · rw [if_neg (show ¬ (B.1 == B.2)=true by simp [hz])]
     split
     · have t1:=Zhe (a:=a.1) (b:=shP b.1) (by omega) sP.1
       have t2:=Zhe (a:=a.2) (b:=shP b.1) (by omega) sP.1
       exact ⟨by dsimp only;omega,by dsimp only;omega⟩
     · exact ⟨Int.le_refl _,p2⟩
def KLe (a b:Int×Int):Prop:=inK a.1 b∧sub (bI a.2) (bI b.2)
theorem kmem {a:Int×Int} (ha:KOk a):inK a.1 a:=by
 rw [Zau ha ha.v]
 intro i _
 have:=disj ha.dj i
 revert this
 cases (bI a.1).getLsbD i<;>cases (bI a.2).getLsbD i<;>simp
theorem KLe.refl {a:Int×Int} (ha:KOk a):KLe a a:=⟨kmem ha,ZhF _⟩
theorem Zig {x y:Int} (hx:wd x) (h:∀ i,i < 16→(bI x).getLsbD i=true→(bI y).getLsbD i=true):sub (bI x) (bI y):=by
 intro i hi
 by_cases h16:i < 16
 · exact h i h16 hi
 · rw [ZdJ hx (by omega)] at hi;cases hi
theorem KLe.inK {a b:Int×Int} (ha:KOk a) (hb:KOk b) (h:KLe a b) {x:Int} (hx:wd x) (hi:inK x a):inK x b:=by
 have h1:=(Zau hb ha.v).1 h.1
 have h2:=(Zau ha hx).1 hi
 rw [Zau hb hx]
 intro i h16
 have h1:=h1 i h16
 have h2:=h2 i h16
 have h3:=h.2 i
 revert h1 h2 h3
 cases (bI a.1).getLsbD i<;>cases (bI a.2).getLsbD i<;>cases (bI b.1).getLsbD i<;>cases (bI b.2).getLsbD i<;>cases (bI x).getLsbD i<;>simp
theorem KLe.all {a:Int×Int} (ha:KOk a):KLe a (0,65535):=⟨Zej ha.v,Zig ha.m fun i h _=>by rw [Ze8];simp [h]⟩
theorem k_or {a:Int×Int} (ha:KOk a):orI a.1 a.2=a.1+a.2:=by
 have w:=Zbx ha.v ha.m
 have h1:bI (orI a.1 a.2)=bI (a.1+a.2):=by rw [ZaG,Zao,ZgH ha]
 have v1:=ha.v;have m1:=ha.m
 unfold wd at v1 m1 w
 have n1:nn (a.1+a.2):=⟨by omega,by omega⟩
 have n2:nn (orI a.1 a.2):=⟨by omega,by omega⟩
 have e:=congrArg BitVec.toNat h1
 rw [show (bI (orI a.1 a.2)).toNat=(orI a.1 a.2).toNat from ZeQ n2,show (bI (a.1+a.2)).toNat=(a.1+a.2).toNat from ZeQ n1] at e
 omega
theorem kmax {a:Int×Int} (ha:KOk a):wd (a.1+a.2)∧inK (a.1+a.2) a:=by
 have w:=Zbx ha.v ha.m
 rw [k_or ha] at w
 refine ⟨w,?_⟩
 rw [Zau ha w]
 intro i _
 rw [← ZgH ha,BitVec.getLsbD_or]
 have:=disj ha.dj i
 revert this
 cases (bI a.1).getLsbD i<;>cases (bI a.2).getLsbD i<;>simp
theorem ZtO {ma mb lo hi:Int} {R:Int×Int} (hR:KOk R) (wl:wd lo) (wh:wd hi) (wa:wd ma) (wb:wd mb) (h1:inK lo R) (h2:inK hi R) (s1:sub (bI ma) (bI R.2)) (s2:sub (bI mb) (bI R.2)) :
 KLe (knN lo (orI (orI ma mb) (xorI lo hi))) R:=by
 have wm:=Zbx (Zbx wa wb) (Zc1 wl wh)
 have b1:=(Zau hR wl).1 h1
 have b2:=(Zau hR wh).1 h2
 have key:∀ i,i < 16→(bI (orI (orI ma mb) (xorI lo hi))).getLsbD i=true→(bI R.2).getLsbD i=true:=by
  intro i h16 hm
  rw [ZaG,Zao,ZaG,Zao,ZcD,Zao,BitVec.getLsbD_or,BitVec.getLsbD_or,BitVec.getLsbD_xor] at hm
  have c1:=b1 i h16
  have c2:=b2 i h16
  have t1:=s1 i
  have t2:=s2 i
  revert c1 c2 t1 t2 hm
  cases (bI ma).getLsbD i<;>cases (bI mb).getLsbD i<;>cases (bI lo).getLsbD i<;>cases (bI hi).getLsbD i<;>cases (bI R.1).getLsbD i<;>cases (bI R.2).getLsbD i<;>simp
 refine ⟨?_,Zig wm key⟩
 show inK (andNotI lo _) R
 rw [Zau hR (Zb3 wl)]
 intro i h16
 have c1:=b1 i h16
 have c2:=key i h16
 rw [Zat,Zao,BitVec.getLsbD_and,BitVec.getLsbD_not]
 simp only [show i < 64 by omega,decide_true,Bool.true_and]
 revert c1 c2
 cases (bI (orI (orI ma mb) (xorI lo hi))).getLsbD i<;>cases (bI lo).getLsbD i<;>cases (bI R.1).getLsbD i<;>cases (bI R.2).getLsbD i<;>simp
theorem Zcl {x y z:BitVec 64} (h1:sub x y) (h2:sub y z):sub x z:=fun i h=>h2 i (h1 i h)
theorem ZhK {a A:Int×Int} (ha:KOk a) (hA:KOk A) (h:KLe a A) (h0:A.2=0):a=A:=by
 have m0:a.2=0:=by
  refine Zox ha.m wd0 ?_
  apply BitVec.eq_of_getLsbD_eq
  intro i hi
  have:=h.2 i
  rw [h0,Zdy] at this
  rw [Zdy]
  cases hx:(bI a.2).getLsbD i with
  | false=>rfl
  | true=>exact absurd (this hx) (by simp)
 have v0:a.1=A.1:=ZdK ha.v (by have:=h.1;unfold inK at this ⊢;rw [h0] at this;exact this)
 obtain ⟨x,y⟩:=a
 obtain ⟨z,w⟩:=A
 dsimp only at m0 v0 h0
 rw [m0,v0,h0]
theorem ZqJ {op k:Int} {x y:Int} (ho:op=9∨op=10) (hk:wd k) (wx:wd x) (wy:wd y) (h:sub (bI x) (bI y)):sub (bI (doI op x k)) (bI (doI op y k)):=by
 have wd1:=ZdD (op:=op) wx hk
 have wd2:=ZdD (op:=op) wy hk
 refine Zig wd1 fun i hi=>?_
 rw [Zb9 wd1 hi,Zb9 wd2 hi]
 have hb:∀ j,j < 16→x.toNat.testBit j=true→y.toNat.testBit j=true:=fun j hj hx=>by
  rw [← Zb9 wy hj];exact h j (by rw [Zb9 wx hj];exact hx)
 have ht:=tmod16 hk.1
 have hn:min (Int.tmod k 16).toNat IntKind.i64.bits < 16:=by show min _ 64 < 16;omega
 generalize hq:min (Int.tmod k 16).toNat IntKind.i64.bits=n at hn
 rcases ho with rfl|rfl
 · have e:∀ x,doI 9 x k=IntKind.i64.wrap (x * 2 ^ n) % 65536:=fun x=>by rw [← hq];rfl
   rw [e,e,Zel wx hn,Zel wy hn]
   simp only [Int.toNat_natCast,Nat.testBit_mod_two_pow,Nat.testBit_shiftLeft,hi,decide_true,Bool.true_and,Bool.and_eq_true,decide_eq_true_eq]
   exact fun hh=>⟨hh.1,hb _ (by omega) hh.2⟩
 · have e:∀ x,doI 10 x k=Int.fdiv x (2 ^ n):=fun x=>by rw [← hq];rfl
   rw [e,e,Zb6 wx,Zb6 wy]
   simp only [Int.toNat_natCast,Nat.testBit_shiftRight]
   by_cases hki:n+i < 16
   · exact hb _ hki
   · intro hh
     rw [Nat.testBit_lt_two_pow (Nat.lt_of_lt_of_le wx.lt (Nat.pow_le_pow_right (by omega) (by omega)))] at hh
     cases hh
theorem ZjQ {op:Int} {a b A B:Int×Int} (ha:KOk a) (hb:KOk b) (hA:KOk A) (hB:KOk B) (h1:KLe a A) (h2:KLe b B):KLe (kdI op a b) (kdI op A B):=by
 have hr:=Zd8 (op:=op) ha hb
 have hR:=Zd8 (op:=op) hA hB
 have snd:∀ x y,wd x→wd y→inK x a→inK y b→inK (doI op x y) (kdI op A B):=fun x y wx wy hx hy=>ZdE hA hB wx wy (h1.inK ha hA wx hx) (h2.inK hb hB wy hy)
 have bk:∀ j:Int,(op == j)=true→op=j:=fun j h=>by simpa using h
 have bits:op=6∨op=7∨op=8→KLe (kbI op a b) (kbI op A B):=by
  intro ho
  have kr:=ZgM (op:=op) ha hb
  have kR:=ZgM (op:=op) hA hB
  have c1:=(Zau hA ha.v).1 h1.1
  have c2:=(Zau hB hb.v).1 h2.1
  have all:∀ i,i < 16→(((bI (kbI op a b).1).getLsbD i&&!(bI (kbI op A B).2).getLsbD i)=(bI (kbI op A B).1).getLsbD i)∧((bI (kbI op a b).2).getLsbD i=true→(bI (kbI op A B).2).getLsbD i=true):=by
   intro i h16
   have c1:=c1 i h16
   have c2:=c2 i h16
   have t1:=h1.2 i
   have t2:=h2.2 i
   have d1:=disj ha.dj i
   have d2:=disj hb.dj i
   have d3:=disj hA.dj i
   have d4:=disj hB.dj i
   have h64:i < 64:=by omega
   rcases ho with rfl|rfl|rfl
   · show (((bI (andI a.1 b.1)).getLsbD i&&!(bI (andNotI (andI (orI A.1 A.2) (orI B.1 B.2)) (andI A.1 B.1))).getLsbD i)=(bI (andI A.1 B.1)).getLsbD i)∧((bI (andNotI (andI (orI a.1 a.2) (orI b.1 b.2)) (andI a.1 b.1))).getLsbD i=true→(bI (andNotI (andI (orI A.1 A.2) (orI B.1 B.2)) (andI A.1 B.1))).getLsbD i=true)
     simp only [Zat,ZaG,Zbb,Zao,BitVec.getLsbD_and,BitVec.getLsbD_not,BitVec.getLsbD_or,h64,decide_true,Bool.true_and]
     revert c1 c2 t1 t2 d1 d2 d3 d4
     generalize (bI a.1).getLsbD i=q1
     generalize (bI a.2).getLsbD i=q2
     generalize (bI b.1).getLsbD i=q3
     generalize (bI b.2).getLsbD i=q4
     generalize (bI A.1).getLsbD i=q5
     generalize (bI A.2).getLsbD i=q6
     generalize (bI B.1).getLsbD i=q7
     generalize (bI B.2).getLsbD i=q8
     revert q1 q2 q3 q4 q5 q6 q7 q8
     decide
   · show (((bI (orI a.1 b.1)).getLsbD i&&!(bI (andNotI (orI A.2 B.2) (orI A.1 B.1))).getLsbD i)=(bI (orI A.1 B.1)).getLsbD i)∧((bI (andNotI (orI a.2 b.2) (orI a.1 b.1))).getLsbD i=true→(bI (andNotI (orI A.2 B.2) (orI A.1 B.1))).getLsbD i=true)
     simp only [Zat,ZaG,Zbb,Zao,BitVec.getLsbD_and,BitVec.getLsbD_not,BitVec.getLsbD_or,h64,decide_true,Bool.true_and]
     revert c1 c2 t1 t2 d1 d2 d3 d4
     generalize (bI a.1).getLsbD i=q1
     generalize (bI a.2).getLsbD i=q2
     generalize (bI b.1).getLsbD i=q3
     generalize (bI b.2).getLsbD i=q4
     generalize (bI A.1).getLsbD i=q5
     generalize (bI A.2).getLsbD i=q6
     generalize (bI B.1).getLsbD i=q7
     generalize (bI B.2).getLsbD i=q8
     revert q1 q2 q3 q4 q5 q6 q7 q8
     decide
   · show (((bI (andNotI (xorI a.1 b.1) (orI a.2 b.2))).getLsbD i&&!(bI (orI A.2 B.2)).getLsbD i)=(bI (andNotI (xorI A.1 B.1) (orI A.2 B.2))).getLsbD i)∧((bI (orI a.2 b.2)).getLsbD i=true→(bI (orI A.2 B.2)).getLsbD i=true)
     simp only [Zat,ZaG,Zbb,ZcD,Zao,BitVec.getLsbD_and,BitVec.getLsbD_not,BitVec.getLsbD_or,BitVec.getLsbD_xor,h64,decide_true,Bool.true_and]
     revert c1 c2 t1 t2 d1 d2 d3 d4
     generalize (bI a.1).getLsbD i=q1
     generalize (bI a.2).getLsbD i=q2
     generalize (bI b.1).getLsbD i=q3
     generalize (bI b.2).getLsbD i=q4
     generalize (bI A.1).getLsbD i=q5
     generalize (bI A.2).getLsbD i=q6
     generalize (bI B.1).getLsbD i=q7
     generalize (bI B.2).getLsbD i=q8
     revert q1 q2 q3 q4 q5 q6 q7 q8
     decide
  exact ⟨(Zau kR kr.v).2 fun i h=>(all i h).1,Zig kr.m fun i h=>(all i h).2⟩
 have xa:=kmax ha
 have xb:=kmax hb
 have wa:=xa.1
 have wb:=xb.1
 have v1:=ha.v;have v2:=hb.v;have m1:=ha.m;have m2:=hb.m
 unfold kdI at hr hR snd ⊢
 split
 · rename_i h;exact bits (.inl (bk _ h))
 rename_i n6
 split
 · rename_i h;exact bits (.inr (.inl (bk _ h)))
 rename_i n7
 split
 · rename_i h;exact bits (.inr (.inr (bk _ h)))
 rename_i n8
 rw [if_neg n6,if_neg n7,if_neg n8] at hr hR
 simp only [if_neg n6,if_neg n7,if_neg n8] at snd
 split
 · rename_i h
   obtain rfl:=bk _ h
   rw [if_pos h] at hR
   simp only [if_pos h] at snd
   have s1:=snd a.1 b.1 ha.v hb.v (kmem ha) (kmem hb)
   have s2:=snd (a.1+a.2) (b.1+b.2) wa wb xa.2 xb.2
   unfold wd at v1 v2 m1 m2 wa wb
   have e1:doI 1 a.1 b.1=IntKind.i64.wrap (a.1+b.1) % 65536:=rfl
   have e2:doI 1 (a.1+a.2) (b.1+b.2)=IntKind.i64.wrap (IntKind.i64.wrap (IntKind.i64.wrap (a.1+a.2)+b.1)+b.2) % 65536:=by
    show IntKind.i64.wrap (a.1+a.2+(b.1+b.2)) % 65536=_
    rw [Zaj (x:=a.1+a.2) (by omega) (by omega),Zaj (x:=a.1+a.2+b.1) (by omega) (by omega)]
    congr 2
    omega
   rw [e1] at s1
   rw [e2] at s2
   refine ZtO hR (ZaP _) (ZaP _) ha.m hb.m s1 s2 ?_ ?_
   · refine Zcl h1.2 ?_
     show sub _ (bI (orI (orI A.2 B.2) _))
     rw [ZaG,Zao,ZaG,Zao]
     exact Zcl (Zfi _ _) (Zfi _ _)
   · refine Zcl h2.2 ?_
     show sub _ (bI (orI (orI A.2 B.2) _))
     rw [ZaG,Zao,ZaG,Zao]
     exact fun i hi=>by rw [BitVec.getLsbD_or,BitVec.getLsbD_or,hi];simp
 rename_i n1
 rw [if_neg n1] at hr hR
 simp only [if_neg n1] at snd
 split
 · rename_i h
   obtain rfl:=bk _ h
   rw [if_pos h] at hr hR
   simp only [if_pos h] at snd
   have s1:=snd a.1 b.1 ha.v hb.v (kmem ha) (kmem hb)
   have s2:=snd (a.1+a.2) b.1 wa hb.v xa.2 (kmem hb)
   have s3:=snd a.1 (b.1+b.2) ha.v wb (kmem ha) xb.2
   unfold wd at v1 v2 m1 m2 wa wb
   have e1:doI 2 a.1 b.1=IntKind.i64.wrap (a.1 - b.1) % 65536:=rfl
   have e2:doI 2 (a.1+a.2) b.1=IntKind.i64.wrap (IntKind.i64.wrap (a.1 - b.1) % 65536+a.2) % 65536:=by
    show IntKind.i64.wrap (a.1+a.2 - b.1) % 65536=_
    rw [Zaj (x:=a.1 - b.1) (by omega) (by omega),Zaj (x:=a.1+a.2 - b.1) (by omega) (by omega),Zaj (by omega) (by omega)]
    omega
   have e3:doI 2 a.1 (b.1+b.2)=IntKind.i64.wrap (IntKind.i64.wrap (a.1 - b.1) % 65536 - b.2) % 65536:=by
    show IntKind.i64.wrap (a.1 - (b.1+b.2)) % 65536=_
    rw [Zaj (x:=a.1 - b.1) (by omega) (by omega),Zaj (x:=a.1 - (b.1+b.2)) (by omega) (by omega),Zaj (by omega) (by omega)]
    omega
   rw [e1] at s1
   rw [e2] at s2
   rw [e3] at s3
   have b1:=(Zau hR (ZaP _)).1 s1
   have b2:=(Zau hR (ZaP _)).1 s2
   have b3:=(Zau hR (ZaP _)).1 s3
   have q1:sub (bI a.2) (bI (orI (orI A.2 B.2) (xorI (IntKind.i64.wrap (IntKind.i64.wrap (A.1 - B.1) % 65536+A.2) % 65536) (IntKind.i64.wrap (IntKind.i64.wrap (A.1 - B.1) % 65536 - B.2) % 65536)))):=by
    refine Zcl h1.2 ?_
    rw [ZaG,Zao,ZaG,Zao]
    exact Zcl (Zfi _ _) (Zfi _ _)
   have q2:sub (bI b.2) (bI (orI (orI A.2 B.2) (xorI (IntKind.i64.wrap (IntKind.i64.wrap (A.1 - B.1) % 65536+A.2) % 65536) (IntKind.i64.wrap (IntKind.i64.wrap (A.1 - B.1) % 65536 - B.2) % 65536)))):=by
    refine Zcl h2.2 ?_
    rw [ZaG,Zao,ZaG,Zao]
    exact fun i hi=>by rw [BitVec.getLsbD_or,BitVec.getLsbD_or,hi];simp
   generalize IntKind.i64.wrap (IntKind.i64.wrap (a.1 - b.1) % 65536+a.2) % 65536=u at *
   generalize IntKind.i64.wrap (IntKind.i64.wrap (a.1 - b.1) % 65536 - b.2) % 65536=w at *
   have hd:wd (IntKind.i64.wrap (a.1 - b.1) % 65536):=ZaP _
   generalize IntKind.i64.wrap (a.1 - b.1) % 65536=d at *
   generalize (orI (orI A.2 B.2) (xorI (IntKind.i64.wrap (IntKind.i64.wrap (A.1 - B.1) % 65536+A.2) % 65536) (IntKind.i64.wrap (IntKind.i64.wrap (A.1 - B.1) % 65536 - B.2) % 65536)))=RM at *
   have key:∀ i,i < 16→(bI (orI (orI a.2 b.2) (xorI u w))).getLsbD i=true→(bI (knN (IntKind.i64.wrap (A.1 - B.1) % 65536) RM).2).getLsbD i=true:=by
    intro i h16 hm
    show (bI RM).getLsbD i=true
    rw [ZaG,Zao,ZaG,Zao,ZcD,Zao,BitVec.getLsbD_or,BitVec.getLsbD_or,BitVec.getLsbD_xor] at hm
    have c2:=b2 i h16
    have c3:=b3 i h16
    have t1:=q1 i
    have t2:=q2 i
    have er:(knN (IntKind.i64.wrap (A.1 - B.1) % 65536) RM).2=RM:=rfl
    rw [er] at c2 c3
    generalize (bI (knN (IntKind.i64.wrap (A.1 - B.1) % 65536) RM).1).getLsbD i=r1 at c2 c3
    revert c2 c3 t1 t2 hm
    cases (bI a.2).getLsbD i<;>cases (bI b.2).getLsbD i<;>cases (bI u).getLsbD i<;>cases (bI w).getLsbD i<;>cases r1<;>cases (bI RM).getLsbD i<;>simp
   refine ⟨?_,Zig hr.m key⟩
   show inK (andNotI d _) _
   rw [Zau hR (Zb3 hd)]
   intro i h16
   have c1:=b1 i h16
   have c2:=key i h16
   rw [Zat,Zao,BitVec.getLsbD_and,BitVec.getLsbD_not]
   simp only [show i < 64 by omega,decide_true,Bool.true_and]
   revert c1 c2
   generalize (bI (knN (IntKind.i64.wrap (A.1 - B.1) % 65536) RM).1).getLsbD i=r1
   generalize (bI (knN (IntKind.i64.wrap (A.1 - B.1) % 65536) RM).2).getLsbD i=r2
   cases (bI (orI (orI a.2 b.2) (xorI u w))).getLsbD i<;>cases (bI d).getLsbD i<;>cases r1<;>cases r2<;>simp
 rename_i n2
 rw [if_neg n2] at hr hR
 simp only [if_neg n2] at snd
 have shift:∀ (ho:op=9∨op=10),KOk (if b.2 == 0 then (doI op a.1 b.1,doI op a.2 b.1) else (0,65535))→(∀ x y,wd x→wd y→inK x a→inK y b→inK (doI op x y) (if B.2 == 0 then (doI op A.1 B.1,doI op A.2 B.1) else (0,65535))) →
  KLe (if b.2 == 0 then (doI op a.1 b.1,doI op a.2 b.1) else (0,65535)) (if B.2 == 0 then (doI op A.1 B.1,doI op A.2 B.1) else (0,65535)):=by
  intro ho hr snd
  by_cases hz:B.2=0
  · have e:=ZhK hb hB h2 hz
    subst e
    have hz':(b.2 == 0)=true:=by simp [hz]
    simp only [if_pos hz'] at snd ⊢
    exact ⟨snd a.1 b.1 ha.v hb.v (kmem ha) (kmem hb),ZqJ ho hb.v ha.m hA.m h1.2⟩
  · rw [if_neg (show ¬ (B.2 == 0)=true by simp [hz])]
    exact KLe.all hr
 split
 · rename_i h
   rw [if_pos h] at hr
   simp only [if_pos h] at snd
   exact shift (.inl (bk _ h)) hr snd
 rename_i n9
 rw [if_neg n9] at hr
 simp only [if_neg n9] at snd
 split
 · rename_i h
   rw [if_pos h] at hr
   simp only [if_pos h] at snd
   exact shift (.inr (bk _ h)) hr snd
 rename_i n10
 rw [if_neg n10] at hr
 by_cases hz:A.2=0
 · have e:=ZhK ha hA h1 hz
   subst e
   have hz':(a.2 == 0)=true:=by simp [hz]
   rw [if_pos hz'] at hr ⊢
   rw [if_pos hz']
   by_cases hy:B.2=0
   · have e:=ZhK hb hB h2 hy
     subst e
     exact KLe.refl hr
   · rw [if_neg (show ¬ (B.2 == 0)=true by simp [hy])]
     exact KLe.all hr
 · rw [if_neg (show ¬ (A.2 == 0)=true by simp [hz])]
   exact KLe.all hr
theorem SLe.inS {a b:Int×Int} (h:SLe a b) {x:Int} (hx:inS x a):inS x b:=⟨by have:=h.1;have:=hx.1;omega,by have:=h.2;have:=hx.2;omega⟩
theorem Zlq {x:Int} {b:Int×Int} (hx:wd x) (h:inK x b):KLe (x,0) b:=⟨h,fun i hi=>by rw [Zdy] at hi;cases hi⟩
theorem ZfS {s k S K:Int×Int} (hs:SOk s) (hk:KOk k) (hS:SOk S) (hK:KOk K) (h1:SLe s S) (h2:KLe k K) {x:Int} (x1:inS x s) (x2:inK x k) :
 SLe (putV s k).1 (putV S K).1∧KLe (putV s k).2 (putV S K).2:=by
 have hx:=hs.wd_of x1
 have y2:=h2.inK hk hK hx x2
 have k1:=hk.v;have k2:=hk.m;have K1:=hK.v;have K2:=hK.m
 have bx:=Zd0 hk hx x2
 have b1:=Zd0 hK hk.v h2.1
 have b2:=Zd0 hK (kmax hk).1 (h2.inK hk hK (kmax hk).1 (kmax hk).2)
 have kx:=Zlq hx y2
 have ky:(andNotI x k.2 == k.1)=true:=by rw [beq_iff_eq];exact x2
 have kz:(andNotI x K.2 == K.1)=true:=by rw [beq_iff_eq];exact y2
 have ke:KLe (x,0) (x,0):=KLe.refl (Zjw hx)
 unfold wd at k1 k2 K1 K2
 have hw:IntKind.i64.wrap (k.1+k.2)=k.1+k.2:=Zaj (by omega) (by omega)
 have hW:IntKind.i64.wrap (K.1+K.2)=K.1+K.2:=Zaj (by omega) (by omega)
 obtain ⟨p1,p2⟩:=h1
 obtain ⟨x3,x4⟩:=x1
 unfold putV reduS
 dsimp only
 rw [hw,hW]
 generalize hlo:(if k.1 > s.1 then k.1 else s.1)=lo
 generalize hhi:(if k.1+k.2 < s.2 then k.1+k.2 else s.2)=hi
 generalize hLO:(if K.1 > S.1 then K.1 else S.1)=LO
 generalize hHI:(if K.1+K.2 < S.2 then K.1+K.2 else S.2)=HI
 have l1:lo≤x:=by subst hlo;split<;>omega
 have l2:x≤hi:=by subst hhi;split<;>omega
 have l3:LO≤lo:=by subst hlo hLO;split<;>split<;>omega
 have l4:hi≤HI:=by subst hhi hHI;split<;>split<;>omega
 clear hlo hhi hLO hHI
 rw [if_neg (show ¬ lo > hi by omega),if_neg (show ¬ LO > HI by omega)]
 by_cases c1:LO < HI
 · rw [if_pos c1]
   by_cases c2:lo < hi
   · rw [if_pos c2]
     exact ⟨⟨l3,l4⟩,h2⟩
   · rw [if_neg c2]
     obtain rfl:x=lo:=by omega
     rw [if_pos ky]
     exact ⟨⟨l3,l4⟩,kx⟩
 · rw [if_neg c1,if_neg (show ¬ lo < hi by omega)]
   obtain rfl:x=lo:=by omega
   obtain rfl:x=LO:=by omega
   rw [if_pos ky,if_pos kz]
   exact ⟨⟨l3,l4⟩,ke⟩
structure MLe (m M:MayD):Prop where
 rs:∀ i,i < 6→SLe (m.reg.getD i (0,0)) (M.reg.getD i (0,0))
 rk:∀ i,i < 6→KLe (m.bits.getD i (0,0)) (M.bits.getD i (0,0))
 cs:∀ i,i < 16→SLe (m.cell.getD i (0,0)) (M.cell.getD i (0,0))
 st:∀ i,i < 16→M.isset.getD i false=true→m.isset.getD i false=true
theorem MayOk.rg {m:MayD} (h:MayOk m) {i:Nat} (hi:i < 6):SOk (m.reg.getD i (0,0)):=by
 have:=Zbp h (i:=(i:Int)) (by omega) (by omega)
 unfold regS at this
 rwa [Int.toNat_natCast] at this
theorem MayOk.bt {m:MayD} (h:MayOk m) {i:Nat} (hi:i < 6):KOk (m.bits.getD i (0,0)):=by
 have:=Zbv h (i:=(i:Int)) (by omega) (by omega)
 unfold bitS at this
 rwa [Int.toNat_natCast] at this
theorem MayOk.cl {m:MayD} (h:MayOk m) {i:Nat} (hi:i < 16):SOk (m.cell.getD i (0,0)):=by
 have:=Zhb h (i:=(i:Int)) (by omega) (by omega)
 rwa [Int.toNat_natCast] at this
theorem MLe.refl {m:MayD} (h:MayOk m):MLe m m:=⟨fun i _=>SLe.refl _,fun i hi=>KLe.refl (h.bt hi),fun i _=>SLe.refl _,fun _ _ h=>h⟩
theorem InM.up {m M:MayD} {x:MachD} (hm:MayOk m) (hM:MayOk M) (hx:MachOk x) (h:MLe m M) (hin:InM m x):InM M x where
 rs:=fun i hi=>(h.rs i hi).inS (hin.rs i hi)
 rk:=fun i hi=>(h.rk i hi).inK (hm.bt hi) (hM.bt hi) ((hm.rg hi).wd_of (hin.rs i hi)) (hin.rk i hi)
 cs:=fun i hi hs=>(h.cs i hi).inS (hin.cs i hi hs)
 st:=fun i hi hs=>hin.st i hi (h.st i hi hs)
theorem SLe.trans {a b c:Int×Int} (h1:SLe a b) (h2:SLe b c):SLe a c:=⟨by have:=h1.1;have:=h2.1;omega,by have:=h1.2;have:=h2.2;omega⟩
theorem KLe.trans {a b c:Int×Int} (ha:KOk a) (hb:KOk b) (hc:KOk c) (h1:KLe a b) (h2:KLe b c):KLe a c:=⟨h2.inK hb hc ha.v h1.1,Zcl h1.2 h2.2⟩
theorem MLe.trans {a b c:MayD} (ha:MayOk a) (hb:MayOk b) (hc:MayOk c) (h1:MLe a b) (h2:MLe b c):MLe a c :=
 ⟨fun i hi=>(h1.rs i hi).trans (h2.rs i hi),fun i hi=>KLe.trans (ha.bt hi) (hb.bt hi) (hc.bt hi) (h1.rk i hi) (h2.rk i hi),fun i hi=>(h1.cs i hi).trans (h2.cs i hi),fun i hi h=>h1.st i hi (h2.st i hi h)⟩
theorem MLe.put {m M:MayD} (h:MLe m M) (hm:MLen m) (hM:MLen M) {i:Int} (hi:i.toNat < 6) {r R:(Int×Int)×(Int×Int)} (h1:SLe r.1 R.1) (h2:KLe r.2 R.2):MLe (putM m i r) (putM M i R):=by
 have l1:=hm.reg;have l2:=hm.bits;have l3:=hM.reg;have l4:=hM.bits
 refine ⟨fun j hj=>?_,fun j hj=>?_,h.cs,h.st⟩
 · show SLe ((m.reg.set i.toNat r.1).getD j (0,0)) ((M.reg.set i.toNat R.1).getD j (0,0))
   rw [Zas (by omega),Zas (by omega)]
   split
   · exact h1
   · exact h.rs j hj
 · show KLe ((m.bits.set i.toNat r.2).getD j (0,0)) ((M.bits.set i.toNat R.2).getD j (0,0))
   rw [Zas (by omega),Zas (by omega)]
   split
   · exact h2
   · exact h.rk j hj
theorem Zmw {s:StepD} {m M:MayD} {x:MachD} (hm:MayOk m) (hM:MayOk M) (hx:MachOk x) (hv:stepB s=true) (h:MLe m M) (hin:InM m x) (h0:(mayV s M).2=0) :
 (mayV s m).2=0∧MLe (mayV s m).1 (mayV s M).1:=by
 have ok:=ZaF hv
 have kd:=Za1 (.inr hv)
 obtain ⟨_,od,os,oi,oo,ot,_,_⟩:=ok
 have di:s.dst.toNat < 6:=by omega
 have si:s.src.toNat < 6:=by omega
 have rd:=Zbp hm od.1 od.2
 have rs:=Zbp hm os.1 os.2
 have bd:=Zbv hm od.1 od.2
 have bs:=Zbv hm os.1 os.2
 have Rd:=Zbp hM od.1 od.2
 have Rs:=Zbp hM os.1 os.2
 have Bd:=Zbv hM od.1 od.2
 have Bs:=Zbv hM os.1 os.2
 have wi:wd s.imm:=oi
 have sc:=Zdu oi
 have kc:=ZcI oi
 have xd1:inS (regI x s.dst) (regS m s.dst):=hin.rs _ di
 have xs1:inS (regI x s.src) (regS m s.src):=hin.rs _ si
 have xd2:inK (regI x s.dst) (bitS m s.dst):=hin.rk _ di
 have xs2:inK (regI x s.src) (bitS m s.src):=hin.rk _ si
 have wxd:=rd.wd_of xd1
 have wxs:=rs.wd_of xs1
 have ci:inS s.imm (s.imm,s.imm):=⟨Int.le_refl _,Int.le_refl _⟩
 have ki:inK s.imm (s.imm,0):=Zfx wi
 have rld:SLe (regS m s.dst) (regS M s.dst):=h.rs _ di
 have rls:SLe (regS m s.src) (regS M s.src):=h.rs _ si
 have bld:KLe (bitS m s.dst) (bitS M s.dst):=h.rk _ di
 have bls:KLe (bitS m s.src) (bitS M s.src):=h.rk _ si
 obtain ⟨k,op,dst,src,imm,to⟩:=s
 dsimp only at *
 rcases kd with rfl|rfl|rfl|rfl|rfl|rfl|rfl|rfl|rfl|rfl|rfl
 · refine ⟨rfl,?_⟩
   have:=ZfS (ZeG (op:=op) rd rs) (Zd8 (op:=op) bd bs) (ZeG (op:=op) Rd Rs) (Zd8 (op:=op) Bd Bs) (Zkw rd rs Rd Rs rld rls) (ZjQ bd bs Bd Bs bld bls) (ZeC rd rs xd1 xs1) (ZdE bd bs wxd wxs xd2 xs2)
   exact h.put hm.len hM.len di this.1 this.2
 · refine ⟨rfl,?_⟩
   have:=ZfS (ZeG (op:=op) rd sc) (Zd8 (op:=op) bd kc) (ZeG (op:=op) Rd sc) (Zd8 (op:=op) Bd kc) (Zkw rd sc Rd sc rld (SLe.refl _)) (ZjQ bd kc Bd kc bld (KLe.refl kc)) (ZeC rd sc xd1 ci) (ZdE bd kc wxd wi xd2 ki)
   exact h.put hm.len hM.len di this.1 this.2
 · exact ⟨rfl,h.put hm.len hM.len di (SLe.refl _) (KLe.refl kc)⟩
 · exact ⟨rfl,h.put hm.len hM.len di (SLe.refl _) (KLe.refl kc)⟩
 · have e:∀ m:MayD,mayV ⟨5,op,dst,src,imm,to⟩ m=if (regS m src).2+imm ≥ 8 then (m,(1:Int)) else (putM m dst ((0,255),(0,255)),0):=fun m=>rfl
   rw [e] at h0 ⊢
   rw [e]
   by_cases hf:(regS M src).2+imm ≥ 8
   · rw [if_pos hf] at h0;simp at h0
   · have hg:¬ (regS m src).2+imm ≥ 8:=by have:=rls.2;omega
     rw [if_neg hf,if_neg hg]
     exact ⟨rfl,h.put hm.len hM.len di (SLe.refl _) (KLe.refl (⟨wd0,⟨by decide,by decide⟩,by decide⟩:KOk (0,255)))⟩
 · have e:∀ m:MayD,mayV ⟨6,op,dst,src,imm,to⟩ m=if imm ≥ 16 then (m,(2:Int)) else if m.isset.getD imm.toNat false then (putM m dst (putV (m.cell.getD imm.toNat (0,0)) (0,65535)),0) else (m,3):=fun m=>rfl
   rw [e] at h0 ⊢
   rw [e]
   by_cases hf:imm ≥ 16
   · rw [if_pos hf] at h0;simp at h0
   · rw [if_neg hf] at h0 ⊢
     rw [if_neg hf]
     have ii:imm.toNat < 16:=by omega
     by_cases hq:M.isset.getD imm.toNat false=true
     · have hq2:=h.st _ ii hq
       have hq3:=hin.st _ ii hq2
       rw [if_pos hq,if_pos hq2]
       have c1:=hm.cl ii
       have cw:=hin.cs _ ii hq3
       have:=ZfS c1 Zed (hM.cl ii) Zed (h.cs _ ii) (KLe.refl Zed) cw (Zej (c1.wd_of cw))
       exact ⟨rfl,h.put hm.len hM.len di this.1 this.2⟩
     · rw [if_neg hq] at h0;simp at h0
 · have e:∀ m:MayD,mayV ⟨7,op,dst,src,imm,to⟩ m=if imm ≥ 16 then (m,(2:Int)) else ({ m with cell:=m.cell.set imm.toNat (regS m dst),isset:=m.isset.set imm.toNat true },0):=fun m=>rfl
   rw [e] at h0 ⊢
   rw [e]
   by_cases hf:imm ≥ 16
   · rw [if_pos hf] at h0;simp at h0
   · rw [if_neg hf]
     rw [if_neg hf]
     have ii:imm.toNat < 16:=by omega
     have l1:=hm.cell;have l2:=hm.isset;have l3:=hM.cell;have l4:=hM.isset
     refine ⟨rfl,h.rs,h.rk,fun j hj=>?_,fun j hj hs=>?_⟩
     · show SLe ((m.cell.set imm.toNat (regS m dst)).getD j (0,0)) ((M.cell.set imm.toNat (regS M dst)).getD j (0,0))
       rw [Zas (by omega),Zas (by omega)]
       split
       · exact rld
       · exact h.cs j hj
     · have hs:(M.isset.set imm.toNat true).getD j false=true:=hs
       show (m.isset.set imm.toNat true).getD j false=true
       rw [Zas (by omega)] at hs ⊢
       split
       · rfl
       · rename_i e
         rw [if_neg e] at hs
         exact h.st j hj hs
 · exact ⟨rfl,h⟩
 · exact ⟨rfl,h⟩
 · exact ⟨rfl,h⟩
 · exact ⟨rfl,h⟩
theorem MLe.setR2 {m M:MayD} (h:MLe m M) (hm:MLen m) (hM:MLen M) {i j:Int} (hi:i.toNat < 6) (hj:j.toNat < 6) {a b A B:Int×Int} (h1:SLe a A) (h2:SLe b B):MLe (setR2 m i j a b) (setR2 M i j A B):=by
 have l1:=hm.reg;have l3:=hM.reg
 refine ⟨fun k hk=>?_,h.rk,h.cs,h.st⟩
 show SLe (((m.reg.set i.toNat a).set j.toNat b).getD k (0,0)) (((M.reg.set i.toNat A).set j.toNat B).getD k (0,0))
 have s1:j.toNat < (m.reg.set i.toNat a).length:=by rw [List.length_set];omega
 have s2:j.toNat < (M.reg.set i.toNat A).length:=by rw [List.length_set];omega
 rw [Zas s1,Zas s2,Zas (show i.toNat < m.reg.length by omega),Zas (show i.toNat < M.reg.length by omega)]
 split
 · exact h2
 · split
   · exact h1
   · exact h.rs k hk
theorem MLe.setB2 {m M:MayD} (h:MLe m M) (hm:MLen m) (hM:MLen M) {i j:Int} (hi:i.toNat < 6) (hj:j.toNat < 6) {a A:Int×Int} (h1:KLe a A):MLe (setB2 m i j a) (setB2 M i j A):=by
 have l1:=hm.bits;have l3:=hM.bits
 refine ⟨h.rs,fun k hk=>?_,h.cs,h.st⟩
 show KLe (((m.bits.set i.toNat a).set j.toNat a).getD k (0,0)) (((M.bits.set i.toNat A).set j.toNat A).getD k (0,0))
 have s1:j.toNat < (m.bits.set i.toNat a).length:=by rw [List.length_set];omega
 have s2:j.toNat < (M.bits.set i.toNat A).length:=by rw [List.length_set];omega
 rw [Zas s1,Zas s2,Zas (show i.toNat < m.bits.length by omega),Zas (show i.toNat < M.bits.length by omega)]
 split
 · exact h1
 · split
   · exact h1
   · exact h.rk k hk
set_option synthInstance.maxHeartbeats 1000000 in
set_option synthInstance.maxSize 4000 in
theorem ZkG {a b A B:Int×Int} (ha:KOk a) (hb:KOk b) (hA:KOk A) (hB:KOk B) (h1:KLe a A) (h2:KLe b B) (c1:meetKb a b=false) (c2:meetKb A B=false):KLe (meetK a b) (meetK A B):=by
 have kr:=ZfA ha hb
 have kR:=ZfA hA hB
 unfold meetK at kr kR ⊢
 rw [c1] at kr ⊢
 rw [c2] at kR ⊢
 simp only [Bool.false_eq_true,if_false] at kr kR ⊢
 have nc:∀ i,((bI a.1).getLsbD i ^^ (bI b.1).getLsbD i)=true→((bI a.2).getLsbD i||(bI b.2).getLsbD i)=true:=by
  intro i hx
  have hz:andNotI (xorI a.1 b.1) (orI a.2 b.2)=0:=by
   unfold meetKb at c1
   simpa using c1
  have hz2:bI (andNotI (xorI a.1 b.1) (orI a.2 b.2))=bI 0:=by rw [hz]
  have hz3:=congrArg (fun v=>BitVec.getLsbD v i) hz2
  simp only [Zat,ZcD,ZaG,Zao,BitVec.getLsbD_and,BitVec.getLsbD_not,BitVec.getLsbD_or,BitVec.getLsbD_xor,Zdy] at hz3
  by_cases h64:i < 64
  · simp only [h64,decide_true,Bool.true_and] at hz3
    revert hx hz3
    cases (bI a.1).getLsbD i<;>cases (bI b.1).getLsbD i<;>cases (bI a.2).getLsbD i<;>cases (bI b.2).getLsbD i<;>simp
  · rw [BitVec.getLsbD_of_ge _ _ (by omega),BitVec.getLsbD_of_ge _ _ (by omega)] at hx
    cases hx
 have b1:=(Zau hA ha.v).1 h1.1
 have b2:=(Zau hB hb.v).1 h2.1
 refine ⟨?_,?_⟩
 · show inK (orI a.1 b.1) _
   rw [Zau kR (Zbx ha.v hb.v)]
   intro i h16
   have c1:=b1 i h16
   have c2:=b2 i h16
   have t1:=h1.2 i
   have t2:=h2.2 i
   have d1:=disj ha.dj i
   have d2:=disj hb.dj i
   have d3:=disj hA.dj i
   have d4:=disj hB.dj i
   have n1:=nc i
   show ((bI (orI a.1 b.1)).getLsbD i&&!(bI (andI A.2 B.2)).getLsbD i)=(bI (orI A.1 B.1)).getLsbD i
   simp only [ZaG,Zbb,Zao,BitVec.getLsbD_and,BitVec.getLsbD_or]
   revert c1 c2 t1 t2 d1 d2 d3 d4 n1
   generalize (bI a.1).getLsbD i=q1
   generalize (bI a.2).getLsbD i=q2
   generalize (bI b.1).getLsbD i=q3
   generalize (bI b.2).getLsbD i=q4
   generalize (bI A.1).getLsbD i=q5
   generalize (bI A.2).getLsbD i=q6
   generalize (bI B.1).getLsbD i=q7
   generalize (bI B.2).getLsbD i=q8
   revert q1 q2 q3 q4 q5 q6 q7 q8
   decide
 · show sub (bI (andI a.2 b.2)) (bI (andI A.2 B.2))
   intro i hi
   rw [Zbb,Zao,BitVec.getLsbD_and,Bool.and_eq_true] at hi ⊢
   exact ⟨h1.2 i hi.1,h2.2 i hi.2⟩
theorem ZkF {s:StepD} {m M:MayD} {x:MachD} {t:Bool} (hm:MayOk m) (hM:MayOk M) (hx:MachOk x) (hv:stepB s=true) (hk:s.kind=9∨s.kind=10) (h:MLe m M) (hin:InM m x) (ht:takesB s x=t) :
 MLe (heedV s m t).1 (heedV s M t).1:=by
 have ok:=ZaF hv
 obtain ⟨_,od,os,oi,oo,ot,_,_⟩:=ok
 have di:s.dst.toNat < 6:=by omega
 have si:s.src.toNat < 6:=by omega
 have rd:=Zbp hm od.1 od.2
 have rs:=Zbp hm os.1 os.2
 have bd:=Zbv hm od.1 od.2
 have bs:=Zbv hm os.1 os.2
 have Rd:=Zbp hM od.1 od.2
 have Rs:=Zbp hM os.1 os.2
 have Bd:=Zbv hM od.1 od.2
 have Bs:=Zbv hM os.1 os.2
 have xd1:inS (regI x s.dst) (regS m s.dst):=hin.rs _ di
 have xs1:inS (regI x s.src) (regS m s.src):=hin.rs _ si
 have xd2:inK (regI x s.dst) (bitS m s.dst):=hin.rk _ di
 have xs2:inK (regI x s.src) (bitS m s.src):=hin.rk _ si
 have wxd:=rd.wd_of xd1
 have wxs:=rs.wd_of xs1
 have rld:SLe (regS m s.dst) (regS M s.dst):=h.rs _ di
 have rls:SLe (regS m s.src) (regS M s.src):=h.rs _ si
 have bld:KLe (bitS m s.dst) (bitS M s.dst):=h.rk _ di
 have bls:KLe (bitS m s.src) (bitS M s.src):=h.rk _ si
 have Xd1:=rld.inS xd1
 have Xs1:=rls.inS xs1
 have Xd2:=bld.inK bd Bd wxd xd2
 have Xs2:=bls.inK bs Bs wxs xs2
 have l6:=hm.len
 have L6:=hM.len
 obtain ⟨k,op,dst,src,imm,to⟩:=s
 dsimp only at *
 unfold takesB at ht
 dsimp only at ht
 rcases hk with rfl|rfl
 · simp only [beq_self_eq_true,if_true] at ht
   cases t with
   | false=>exact h
   | true =>
    have e:regI x dst=regI x src:=by simpa using ht
    have m1:=Zek xd1 (e▸xs1)
    have m2:=Zep bd bs wxd xd2 (e▸xs2)
    have M1:=Zek Xd1 (e▸Xs1)
    have M2:=Zep Bd Bs wxd Xd2 (e▸Xs2)
    have ef:∀ m:MayD,meetSb (regS m dst) (regS m src)=false→meetKb (bitS m dst) (bitS m src)=false→heedV ⟨9,op,dst,src,imm,to⟩ m true=(setB2 (setR2 m dst src (meetS (regS m dst) (regS m src)) (meetS (regS m dst) (regS m src))) dst src (meetK (bitS m dst) (bitS m src)),true):=by
     intro m q1 q2
     show (if meetSb (regS m dst) (regS m src) then _ else if meetKb (bitS m dst) (bitS m src) then _ else _)=_
     rw [q1,q2];rfl
    rw [ef m m1.1 m2.1,ef M M1.1 M2.1]
    have hs:SLe (meetS (regS m dst) (regS m src)) (meetS (regS M dst) (regS M src)):=by
     unfold meetS
     rw [m1.1,M1.1]
     exact ⟨Zfa rld.1 rls.1,Zgn rld.2 rls.2⟩
    exact (h.setR2 l6 L6 di si hs hs).setB2 (ZeS l6) (ZeS L6) di si (ZkG bd bs Bd Bs bld bls m2.1 M2.1)
 · have ht:decide (regI x dst < regI x src)=t:=ht
   cases t with
   | true =>
    have e:regI x dst < regI x src:=by simpa using ht
    have m1:=Zei xd1 xs1 e
    have M1:=Zei Xd1 Xs1 e
    have hne:(dst == src)=false:=by rw [beq_eq_false_iff_ne];intro c;subst c;omega
    have ef:∀ m:MayD,(lessS (regS m dst) (regS m src)).2.2=true→heedV ⟨10,op,dst,src,imm,to⟩ m true=(setR2 m dst src (lessS (regS m dst) (regS m src)).1 (lessS (regS m dst) (regS m src)).2.1,true):=by
     intro m q
     show (if (lessS (regS m dst) (regS m src)).2.2 then (if dst == src then _ else _) else _)=_
     rw [q,hne];rfl
    rw [ef m m1.1,ef M M1.1]
    have q1:¬ (regS m dst).1 ≥ (regS m src).2:=fun c=>by have:=m1.1;unfold lessS at this;rw [if_pos c] at this;cases this
    have q2:¬ (regS M dst).1 ≥ (regS M src).2:=fun c=>by have:=M1.1;unfold lessS at this;rw [if_pos c] at this;cases this
    have hs:SLe (lessS (regS m dst) (regS m src)).1 (lessS (regS M dst) (regS M src)).1∧SLe (lessS (regS m dst) (regS m src)).2.1 (lessS (regS M dst) (regS M src)).2.1:=by
     unfold lessS
     rw [if_neg q1,if_neg q2]
     obtain ⟨a1,a2⟩:=rld
     obtain ⟨b1,b2⟩:=rls
     exact ⟨⟨a1,Zgn a2 (by omega)⟩,⟨Zfa b1 (by omega),b2⟩⟩
    exact h.setR2 l6 L6 di si hs.1 hs.2
   | false =>
    have e:¬ regI x dst < regI x src:=by simpa using ht
    cases hne:(dst == src) with
    | true =>
     have ef:∀ m:MayD,heedV ⟨10,op,dst,src,imm,to⟩ m false=(m,true):=by
      intro m
      show (if dst == src then (m,true) else _)=_
      rw [hne];rfl
     rw [ef,ef];exact h
    | false =>
     have hge:(regS m dst).2 ≥ (regS m src).1:=by have:=xd1.2;have:=xs1.1;omega
     have hgE:(regS M dst).2 ≥ (regS M src).1:=by have:=Xd1.2;have:=Xs1.1;omega
     have ef:∀ m:MayD,(regS m dst).2 ≥ (regS m src).1→heedV ⟨10,op,dst,src,imm,to⟩ m false=(setR2 m dst src (mxI (regS m dst).1 (regS m src).1,(regS m dst).2) ((regS m src).1,mnI (regS m src).2 (regS m dst).2),true):=by
      intro m q
      show (if dst == src then (m,true) else if (regS m dst).2 ≥ (regS m src).1 then _ else _)=_
      rw [hne,if_pos q];rfl
     rw [ef m hge,ef M hgE]
     exact h.setR2 l6 L6 di si ⟨Zfa rld.1 rls.1,rld.2⟩ ⟨rls.1,Zgn rls.2 rld.2⟩
theorem Zkr {a b:MayD} (ha:MayOk a) (hb:MayOk b):MLe a (joinM a b)∧MLe b (joinM a b):=by
 have g1:∀ i,i < 6→(joinM a b).reg.getD i (0,0)=joinS (a.reg.getD i (0,0)) (b.reg.getD i (0,0)):=fun i hi=>by
  show (List.zipWith joinS a.reg b.reg).getD i (0,0)=_
  have l1:=ha.reg;have l2:=hb.reg
  simp only [List.getD_eq_getElem?_getD,List.getElem?_zipWith]
  rw [List.getElem?_eq_getElem (show i < a.reg.length by omega),List.getElem?_eq_getElem (show i < b.reg.length by omega)];rfl
 have g2:∀ i,i < 6→(joinM a b).bits.getD i (0,0)=joinK (a.bits.getD i (0,0)) (b.bits.getD i (0,0)):=fun i hi=>by
  show (List.zipWith joinK a.bits b.bits).getD i (0,0)=_
  have l1:=ha.bits;have l2:=hb.bits
  simp only [List.getD_eq_getElem?_getD,List.getElem?_zipWith]
  rw [List.getElem?_eq_getElem (show i < a.bits.length by omega),List.getElem?_eq_getElem (show i < b.bits.length by omega)];rfl
 have g3:∀ i,i < 16→(joinM a b).cell.getD i (0,0)=joinS (a.cell.getD i (0,0)) (b.cell.getD i (0,0)):=fun i hi=>by
  show (List.zipWith joinS a.cell b.cell).getD i (0,0)=_
  have l1:=ha.cell;have l2:=hb.cell
  simp only [List.getD_eq_getElem?_getD,List.getElem?_zipWith]
  rw [List.getElem?_eq_getElem (show i < a.cell.length by omega),List.getElem?_eq_getElem (show i < b.cell.length by omega)];rfl
 have g4:∀ i,i < 16→(joinM a b).isset.getD i false=(a.isset.getD i false&&b.isset.getD i false):=fun i hi=>by
  show (List.zipWith (·&&·) a.isset b.isset).getD i false=_
  have l1:=ha.isset;have l2:=hb.isset
  simp only [List.getD_eq_getElem?_getD,List.getElem?_zipWith]
  rw [List.getElem?_eq_getElem (show i < a.isset.length by omega),List.getElem?_eq_getElem (show i < b.isset.length by omega)];rfl
 have s1:∀ a b:Int×Int,SLe a (joinS a b)∧SLe b (joinS a b):=fun a b=>by
  have q1:=ZcS (a:=a.1) (b:=b.1)
  have q2:=Zdp (a:=a.2) (b:=b.2)
  exact ⟨⟨q1.1,q2.1⟩,⟨q1.2.1,q2.2.1⟩⟩
 have k1:∀ a b:Int×Int,KOk a→KOk b→KLe a (joinK a b)∧KLe b (joinK a b):=fun a b ha hb=>by
  refine ⟨⟨ZfX ha hb ha.v (.inl (kmem ha)),?_⟩,⟨ZfX ha hb hb.v (.inr (kmem hb)),?_⟩⟩
  · show sub _ (bI (orI (orI a.2 b.2) _))
    rw [ZaG,Zao,ZaG,Zao]
    exact Zcl (Zfi _ _) (Zfi _ _)
  · show sub _ (bI (orI (orI a.2 b.2) _))
    rw [ZaG,Zao,ZaG,Zao]
    exact fun i hi=>by rw [BitVec.getLsbD_or,BitVec.getLsbD_or,hi];simp
 constructor
 · refine ⟨fun i hi=>?_,fun i hi=>?_,fun i hi=>?_,fun i hi hs=>?_⟩
   · rw [g1 i hi];exact (s1 _ _).1
   · rw [g2 i hi];exact (k1 _ _ (ha.bt hi) (hb.bt hi)).1
   · rw [g3 i hi];exact (s1 _ _).1
   · rw [g4 i hi,Bool.and_eq_true] at hs;exact hs.1
 · refine ⟨fun i hi=>?_,fun i hi=>?_,fun i hi=>?_,fun i hi hs=>?_⟩
   · rw [g1 i hi];exact (s1 _ _).2
   · rw [g2 i hi];exact (k1 _ _ (ha.bt hi) (hb.bt hi)).2
   · rw [g3 i hi];exact (s1 _ _).2
   · rw [g4 i hi,Bool.and_eq_true] at hs;exact hs.2
set_option maxHeartbeats 16000000
def nextsL (s:StepD) (i:Int):List Int :=
 if s.kind == 11 then [] else if s.kind == 8 then [i+s.to+1] else if s.kind == 9 then [i+1,i+s.to+1] else if s.kind == 10 then [i+1,i+s.to+1] else [i+1]
theorem impl_nexts.fc (p:List StepD) (i:Int) (s:StepD) (h0:0≤i) (h1:i < p.length) (hl:p.length≤20) (hs:p[i.toNat]? = some s) (hv:stepB s=true):FCt prog ZcT [.ro,.ro] [steps p,Ii i] (ints (nextsL s i)) []:=by
 refine Zak impl_nexts.ok rfl ?_
 have ot:=(ZaF hv).to
 have w1:IntKind.i64.wrap (i+1)=i+1:=Zaj (by omega) (by omega)
 have w2:IntKind.i64.wrap (i+s.to)=i+s.to:=Zaj (by omega) (by omega)
 have w3:IntKind.i64.wrap (i+s.to+1)=i+s.to+1:=Zaj (by omega) (by omega)
 unfold nextsL
 repeat' (first|with_reducible rfl|with_reducible refine Zah (fun _=>?_) (fun _=>?_)|refine Zaf (fun _=>?_) (fun _=>?_)|refine Zad (fun _=>?_) (fun _=>?_)|with_reducible refine Zab (fun _=>?_) (fun _=>?_)|with_reducible refine Zac (fun _=>?_) (fun _=>?_)|refine Zae (fun _=>?_) (fun _=>?_)|refine Zag (fun _=>?_) (fun _=>?_)|simp only [go_sem,bne,iQ,iB,iX,Int.reduceLE,iN,iA,iS,iM, *]|rfl)
theorem spec_l2Nexts.fc (p:List StepD) (i:Int) (s:StepD) (h0:0≤i) (h1:i < p.length) (hl:p.length≤20) (hs:p[i.toNat]? = some s) (hv:stepB s=true):FCt prog Zci [.ro,.ro] [steps p,Ii i] (ints (nextsL s i)) []:=by
 refine Zak spec_l2Nexts.ok rfl ?_
 have ot:=(ZaF hv).to
 have w1:IntKind.i64.wrap (i+1)=i+1:=Zaj (by omega) (by omega)
 have w2:IntKind.i64.wrap (i+s.to)=i+s.to:=Zaj (by omega) (by omega)
 have w3:IntKind.i64.wrap (i+s.to+1)=i+s.to+1:=Zaj (by omega) (by omega)
 unfold nextsL
 repeat' (first|with_reducible rfl|with_reducible refine Zah (fun _=>?_) (fun _=>?_)|refine Zaf (fun _=>?_) (fun _=>?_)|refine Zad (fun _=>?_) (fun _=>?_)|with_reducible refine Zab (fun _=>?_) (fun _=>?_)|with_reducible refine Zac (fun _=>?_) (fun _=>?_)|refine Zae (fun _=>?_) (fun _=>?_)|refine Zag (fun _=>?_) (fun _=>?_)|simp only [go_sem,bne,iQ,iB,iX,Int.reduceLE,iN,iA,iS,iM, *]|rfl)
theorem impl_NewMachine.fc:FCt prog ZbZ [] [] newM.d []:=by
 refine Zak impl_NewMachine.ok rfl ?_
 have c1:(6:Int) * (8:Nat)≤70368744177664:=by omega
 have c2:(16:Int) * (8:Nat)≤70368744177664:=by omega
 have c3:(16:Int) * (1:Nat)≤70368744177664:=by omega
 simp only [go_sem,c1,c2,c3,Int.le_refl,List.length_replicate,Nat.le_refl]
 rfl
theorem spec_NewMachine.fc:FCt prog ZbY [] [] newM.d []:=by
 refine Zak spec_NewMachine.ok rfl ?_
 have c1:(6:Int) * (8:Nat)≤70368744177664:=by omega
 have c2:(16:Int) * (8:Nat)≤70368744177664:=by omega
 have c3:(16:Int) * (1:Nat)≤70368744177664:=by omega
 simp only [go_sem,c1,c2,c3,Int.le_refl,List.length_replicate,Nat.le_refl]
 rfl
theorem Zl5 {p:List StepD} {ctx:List Int} {m:MachD} (hp:ProgOk p) (hc:CtxOk ctx) (hm:MachOk m) (hpc:m.pc < p.length) :
 FCt prog Za6 [.io,.ro,.ro] [.ptr m.d,steps p,ints ctx] (.tup [Ii (stepAt p ctx m).2.1,Bb (stepAt p ctx m).2.2]) [.ptr (stepAt p ctx m).1.d]:=by
 have p0:=hm.pc.1
 have hi:m.pc.toNat < p.length:=by omega
 have gs:p[m.pc.toNat]? = some p[m.pc.toNat]:=List.getElem?_eq_getElem hi
 have:=impl_pMachine_step.fc p ctx m _ hp.len.2 hc hm hpc gs (hp.all _ hi).1
 unfold stepAt
 rw [gs]
 exact this
theorem ZlY {p:List StepD} {ctx:List Int} {m:MachD} (hp:ProgOk p) (hc:CtxOk ctx) (hm:MachOk m) (hpc:m.pc < p.length) :
 FCt prog Zdo [.ro,.ro,.co] [steps p,ints ctx,m.d] (.tup [(stepAt p ctx m).1.d,Ii (stepAt p ctx m).2.1,Bb (stepAt p ctx m).2.2]) []:=by
 have p0:=hm.pc.1
 have hi:m.pc.toNat < p.length:=by omega
 have gs:p[m.pc.toNat]? = some p[m.pc.toNat]:=List.getElem?_eq_getElem hi
 have:=spec_l3Do.fc p ctx m _ hp.len.2 hc hm hpc gs (hp.all _ hi).1
 unfold stepAt
 rw [gs]
 exact this
set_option maxHeartbeats 4000000
theorem getD_set_ne {α:Type} {l:List α} {i k:Nat} {x d:α} (h:k≠i):(l.set i x).getD k d=l.getD k d:=by
 simp only [List.getD_eq_getElem?_getD,List.getElem?_set_ne (Ne.symm h)]
structure StLaw (s:StepD) (m:MachD) (r:MachD×Int×Bool):Prop where
 en:r.2.2=(s.kind == 11)
 nx:r.2.2=false→(nextsL s m.pc).any (· == r.1.pc)=true
 rg:∀ k:Nat,(k:Int)≠s.dst→r.1.regs.getD k 0=m.regs.getD k 0
 cl:∀ k:Nat,s.kind≠7∨(k:Int)≠s.imm→r.1.cells.getD k 0=m.cells.getD k 0∧r.1.isset.getD k false=m.isset.getD k false
theorem ZjG {s:StepD} {ctx:List Int} {m:MachD} (ok:StepOk s) (kd:s.kind=1∨s.kind=2∨s.kind=3∨s.kind=4∨s.kind=5∨s.kind=6∨s.kind=7∨s.kind=8∨s.kind=9∨s.kind=10∨s.kind=11) (h:(stepM s ctx m).2.1=0):StLaw s m (stepM s ctx m):=by
 have hd:=ok.dst
 have hi:=ok.imm
 have h0:=hi.1
 have key:∀ (c:Prop) [Decidable c] (a b:MachD×Int×Bool),(c→a.2.1=0→StLaw s m a)→(¬ c→b.2.1=0→StLaw s m b)→(if c then a else b).2.1=0→StLaw s m (if c then a else b):=by
  intro c _ a b ha hb;split
  · rename_i h;exact ha h
  · rename_i h;exact hb h
 have kR:∀ n:Int,s.kind≠11→s.kind≠8→s.kind≠9→s.kind≠10→StLaw s m (setR m s.dst n,(0:Int),false):=fun n k1 k2 k3 k4=>by
  refine ⟨?_,fun _=>?_,fun k hk=>?_,fun k _=>⟨rfl,rfl⟩⟩
  · show false=(s.kind == 11);simp [k1]
  · simp [nextsL,k1,k2,k3,k4,setR]
  · exact getD_set_ne (by omega)
 have kC:∀ n:Int,s.kind=7→StLaw s m (setC m s.imm n,(0:Int),false):=fun n k1=>by
  refine ⟨?_,fun _=>?_,fun k hk=>rfl,fun k hk=>?_⟩
  · show false=(s.kind == 11);simp [k1]
  · simp [nextsL,k1,setC]
  · rcases hk with hk|hk
    · exact absurd k1 hk
    · exact ⟨getD_set_ne (by omega),getD_set_ne (by omega)⟩
 have kP:∀ n:Int,s.kind≠11→(nextsL s m.pc).any (· == n)=true→StLaw s m (setP m n,(0:Int),false):=fun n k1 k2=>by
  refine ⟨?_,fun _=>k2,fun k hk=>rfl,fun k _=>⟨rfl,rfl⟩⟩
  show false=(s.kind == 11);simp [k1]
 have kF:∀ (f:Int) (e:Bool),f≠0→f=0→StLaw s m (m,f,e):=fun f e hf h=>absurd h hf
 have kE:s.kind=11→StLaw s m (m,(0:Int),true):=fun k1=>by
  refine ⟨?_,fun h=>by (cases h),fun k hk=>rfl,fun k _=>⟨rfl,rfl⟩⟩
  show true=(s.kind == 11);simp [k1]
 revert h
 unfold stepM
 rcases kd with e|e|e|e|e|e|e|e|e|e|e<;>simp only [e,iB,if_true,if_false,Bool.false_eq_true,↓reduceIte]<;>(try rw [e] at kR kC kP kE)<;>(try simp only [e] at kR kC kP kE)
 · exact fun _=>kR _ (by omega) (by omega) (by omega) (by omega)
 · exact fun _=>kR _ (by omega) (by omega) (by omega) (by omega)
 · exact fun _=>kR _ (by omega) (by omega) (by omega) (by omega)
 · exact fun _=>kR _ (by omega) (by omega) (by omega) (by omega)
 · exact key _ _ _ (fun _=>kF 1 _ (by decide)) fun _ _=>kR _ (by omega) (by omega) (by omega) (by omega)
 · exact key _ _ _ (fun _=>kF 2 _ (by decide)) fun _=>key _ _ _ (fun _ _=>kR _ (by omega) (by omega) (by omega) (by omega)) fun _=>kF 3 _ (by decide)
 · exact key _ _ _ (fun _=>kF 2 _ (by decide)) fun _ _=>kC _ trivial
 · exact fun _=>kP _ (by omega) (by simp [nextsL,e])
 · exact key _ _ _ (fun _ _=>kP _ (by omega) (by simp [nextsL,e])) fun _ _=>kP _ (by omega) (by simp [nextsL,e])
 · exact key _ _ _ (fun _ _=>kP _ (by omega) (by simp [nextsL,e])) fun _ _=>kP _ (by omega) (by simp [nextsL,e])
 · exact fun _=>kE trivial
theorem slices_Equal__sbool_bool.fc (a b:List Bool) (ha:a.length≤4294967296) (hb:b.length≤4294967296):FCt prog Za0 [.ro,.ro] [bools a,bools b] (Bb (decide (a=b))) []:=by
 refine Zak slices_Equal__sbool_bool.ok rfl ?_
 simp only [go_sem]
 by_cases hl:a.length=b.length
 case neg =>
  have e:((a.length:Int) != (b.length:Int))=true:=by simp;omega
  have hne:¬ a=b:=fun h=>hl (by rw [h])
  simp only [go_sem,e,decide_eq_false hne]
 have e:((a.length:Int) != (b.length:Int))=false:=by simp;omega
 simp only [go_sem,e]
 refine ZaI (α:=Nat) (fun k s' M'=>k≤a.length∧s' 13=aI k∧a.take k=b.take k) (fun k=>a.length - k) 0 ⟨by omega,by simp only [go_sem];rfl,by simp⟩ ?_
 rintro k s' M' ⟨hk,h13,hr⟩ ho
 unfold slices_Equal__sbool_bool.b0
 have j0:s' 0=.dat none (bools a):=by rw [ho 0 rfl];simp only [go_sem]
 have j1:s' 1=.dat none (bools b):=by rw [ho 1 rfl];simp only [go_sem]
 have j12:s' 12=aI a.length:=by rw [ho 12 rfl];simp only [go_sem]
 clear ho
 by_cases hlt:k < a.length
 · have hi':(k:Int) < a.length:=by omega
   have ga:a[k]? = some a[k]:=List.getElem?_eq_getElem hlt
   have hw:IntKind.i64.wrap (k+1)=((k+1:Nat):Int):=Zbc hlt (by omega)
   have gb:b[k]? = some b[k]:=List.getElem?_eq_getElem (by omega)
   have ib:(k:Int) < b.length:=by omega
   cases hq:(a[k] == b[k]) with
   | false =>
    have hne:¬ a=b:=fun h=>by subst h;simp at hq
    have hq1:(a[k] != b[k])=true:=by rw [bne,hq];rfl
    have hq2:((a[k] == b[k]) != true)=true:=by rw [hq];rfl
    simp only [go_sem,hi',ga,gb,ib,hq1,hq2,decide_eq_false hne,j0,j1,j12,h13]
   | true =>
    have hq1:(a[k] != b[k])=false:=by rw [bne,hq];rfl
    have hq2:((a[k] == b[k]) != true)=false:=by rw [hq];rfl
    simp only [go_sem,hi',ga,gb,ib,hq1,hq2,hw,j0,j1,j12,h13]
    exact ⟨k+1,by dsimp only;omega,by omega,by simp only [go_sem,j0,j1,j12,h13],by rw [Zbg hlt,Zbg (show k < b.length by omega),hr,eq_of_beq hq]⟩
 · have hi':¬ (k:Int) < a.length:=by omega
   obtain rfl:k=a.length:=by omega
   rw [List.take_length,hl,List.take_length] at hr
   simp only [go_sem,Int.lt_irrefl,decide_eq_true hr,j0,j1,j12,h13]
set_option maxHeartbeats 16000000
theorem Zh0 {p:List StepD} {ctx:List Int} {m:MachD}:(stepAt p ctx m).2.1=0∨(stepAt p ctx m).2.1 > 0:=by
 unfold stepAt
 split
 · exact ZgJ
 · exact .inl rfl
structure WayD where
 steps:List Int
 turns:List Bool
 deriving DecidableEq
abbrev WayD.d (x:WayD):D:=.agg [ints x.steps,bools x.turns]
theorem Zhi {x:WayD}:noRs (WayD.d x)=true:=Zfr fun d hd=>by
 rcases List.mem_cons.1 hd with rfl|hd
 · exact ZaY
 rcases List.mem_cons.1 hd with rfl|hd
 · exact ZcC
 cases hd
def wWay (x:WayD):Nat:=x.steps.length+x.turns.length
def brB (s:StepD):Bool:=s.kind == 9||s.kind == 10
theorem impl_Step_branches.fc (s:StepD):FCt prog ZaQ [.ro] [s.d] (Bb (brB s)) []:=by
 refine Zak impl_Step_branches.ok rfl ?_
 unfold brB
 repeat' (first|with_reducible rfl|with_reducible refine Zah (fun _=>?_) (fun _=>?_)|refine Zaf (fun _=>?_) (fun _=>?_)|refine Zad (fun _=>?_) (fun _=>?_)|with_reducible refine Zab (fun _=>?_) (fun _=>?_)|with_reducible refine Zac (fun _=>?_) (fun _=>?_)|refine Zae (fun _=>?_) (fun _=>?_)|refine Zag (fun _=>?_) (fun _=>?_)|simp only [go_sem,bne,iQ,iB,iX,Int.reduceLE,iN,iA,iS,iM, *]|rfl)
theorem spec_l14Branch.fc (s:StepD):FCt prog Zbf [.ro] [s.d] (Bb (brB s)) []:=by
 refine Zak spec_l14Branch.ok rfl ?_
 unfold brB
 repeat' (first|with_reducible rfl|with_reducible refine Zah (fun _=>?_) (fun _=>?_)|refine Zaf (fun _=>?_) (fun _=>?_)|refine Zad (fun _=>?_) (fun _=>?_)|with_reducible refine Zab (fun _=>?_) (fun _=>?_)|with_reducible refine Zac (fun _=>?_) (fun _=>?_)|refine Zae (fun _=>?_) (fun _=>?_)|refine Zag (fun _=>?_) (fun _=>?_)|simp only [go_sem,bne,iQ,iB,iX,Int.reduceLE,iN,iA,iS,iM, *]|rfl)
def turnAt (p:List StepD) (l:List Int) (i:Nat):List Bool:=match l[i]?,l[i+1]? with
 | some a,some b=>(match p[a.toNat]? with|some s=>if brB s then [b == a+s.to+1] else []|none=>[])
 | _,_=>[]
def turnsN (p:List StepD) (l:List Int) (n:Nat):List Bool:=(List.range n).flatMap (turnAt p l)
def turnsV (p:List StepD) (l:List Int):List Bool:=turnsN p l l.length
theorem ZfP (p:List StepD) (l:List Int) (n:Nat):turnsN p l (n+1)=turnsN p l n++turnAt p l n:=by
 unfold turnsN;rw [List.range_succ,List.flatMap_append];simp
theorem Zk0 (p:List StepD) (l:List Int) (i:Nat):(turnAt p l i).length≤1:=by
 unfold turnAt;repeat' split
 all_goals simp
theorem Ze9 (p:List StepD) (l:List Int):∀ n,(turnsN p l n).length≤n
 | 0=>by simp [turnsN]
 | n+1=>by rw [ZfP,List.length_append];have:=Ze9 p l n;have:=Zk0 p l n;omega
def InP (p:List StepD) (l:List Int):Prop:=∀ a∈l,0≤a∧a < p.length
theorem impl_turnsOf.fc (p:List StepD) (l:List Int) (hp:ProgOk p) (hl:InP p l) (hll:l.length≤4194304):FCt prog ZcU [.ro,.ro] [steps p,ints l] (bools (turnsV p l)) []:=by
 refine Zak impl_turnsOf.ok rfl ?_
 simp only [go_sem]
 refine ZaI (α:=Nat) (fun k s' M'=>k≤l.length∧s' 10=aI k∧∃ v,s' 5=.sl 2560 v 0 (turnsN p l k).length 1∧M'.m 2560=some (.arr v true 1 ((turnsN p l k).map Bb))) (fun k=>l.length - k) 0
  ⟨by omega,by simp only [go_sem];rfl,_,by simp only [go_sem];rfl,by simp only [go_sem];rfl⟩ ?_
 rintro k s' M' ⟨hk,h10,v,h5,hm⟩ ho
 unfold impl_turnsOf.b0
 have j0:s' 0=.dat none (steps p):=by rw [ho 0 rfl];simp only [go_sem]
 have j1:s' 1=.dat none (ints l):=by rw [ho 1 rfl];simp only [go_sem]
 have j8:s' 8=.dat none (ints l):=by rw [ho 8 rfl];simp only [go_sem]
 have j9:s' 9=aI l.length:=by rw [ho 9 rfl];simp only [go_sem]
 clear ho
 have tl:=Ze9 p l k
 have sc:=ZfP p l k
 generalize hT:turnsN p l k=T at h5 hm tl sc
 by_cases hlt:k < l.length
 · have hi':(k:Int) < l.length:=by omega
   have ga:l[k]? = some l[k]:=List.getElem?_eq_getElem hlt
   have hw:IntKind.i64.wrap (k+1)=((k+1:Nat):Int):=Zbc hlt (by omega)
   obtain ⟨q0,q1⟩:=hl _ (List.getElem_mem hlt)
   obtain ⟨st,gs,hv⟩:∃ st,p[l[k].toNat]? = some st∧stepB st=true:=⟨_,List.getElem?_eq_getElem (by omega),(hp.all l[k].toNat (by omega)).1⟩
   have ok:=ZaF hv
   have hl20:=hp.len.2
   have hto:=ok.to
   have ta:turnAt p l k=match l[k+1]? with|some b=>if brB st then [b == l[k]+st.to+1] else []|none=>[]:=by
    unfold turnAt;rw [ga];cases l[k+1]? with
    | none=>rfl
    | some b=>dsimp only;rw [gs]
   have w1:IntKind.i64.wrap (l[k]+st.to)=l[k]+st.to:=Zaj (by omega) (by omega)
   have w2:IntKind.i64.wrap (l[k]+st.to+1)=l[k]+st.to+1:=Zaj (by omega) (by omega)
   simp only [go_sem,j0,j1,j8,j9,h10,h5,hm,hi',ga,q0,q1,gs,w1,w2]
   refine Zap (impl_Step_branches.fc st) ?_
   cases hb:brB st with
   | false =>
    have e:turnsN p l (k+1)=T:=by
     rw [sc,ta,hb]
     cases l[k+1]?<;>simp
    simp only [go_sem,hw,j0,j1,j8,j9,h10,h5,hm,hi',ga,q0,q1,gs,w1,w2]
    exact ⟨k+1,by dsimp only;omega,by omega,by simp only [go_sem,j0,j1,j8,j9,h10,h5,hm,hi',ga,q0,q1,gs,w1,w2],v,by rw [e];simp only [go_sem,j0,j1,j8,j9,h10,h5,hm,hi',ga,q0,q1,gs,w1,w2],by rw [e];simp only [go_sem,j0,j1,j8,j9,h10,h5,hm,hi',ga,q0,q1,gs,w1,w2]⟩
   | true =>
    by_cases hl2:k+1 < l.length
    · have i2:((k+1:Nat):Int) < l.length:=by omega
      have g2:l[k+1]? = some l[k+1]:=List.getElem?_eq_getElem hl2
      rw [g2,hb] at ta
      dsimp only at ta
      rw [if_pos rfl] at ta
      have e:turnsN p l (k+1)=T++[l[k+1] == l[k]+st.to+1]:=by rw [sc,ta]
      have el:(T++[l[k+1] == l[k]+st.to+1]).length=T.length+1:=by simp
      have hb1:(T.length+1) * 1≤70368744177664:=by omega
      have ap:T.map Bb++[D.bool (l[k+1] == l[k]+st.to+1)]=(T++[l[k+1] == l[k]+st.to+1]).map Bb:=ZnE
      have tk:(T.map Bb).take T.length=T.map Bb:=List.take_of_length_le (by simp)
      simp only [go_sem,hw,i2,g2,hb1,ap,tk,j0,j1,j8,j9,h10,h5,hm,hi',ga,q0,q1,gs,w1,w2]
      exact ⟨k+1,by dsimp only;omega,by omega,by simp only [go_sem,j0,j1,j8,j9,h10,h5,hm,hi',ga,q0,q1,gs,w1,w2],_,by rw [e,el];simp only [go_sem,j0,j1,j8,j9,h10,h5,hm,hi',ga,q0,q1,gs,w1,w2];rfl,by rw [e];simp only [go_sem,j0,j1,j8,j9,h10,h5,hm,hi',ga,q0,q1,gs,w1,w2]⟩
    · have i2:¬ ((k+1:Nat):Int) < l.length:=by omega
      have e:turnsN p l (k+1)=T:=by
       rw [sc,ta,List.getElem?_eq_none (by omega)];simp
      simp only [go_sem,hw,i2,j0,j1,j8,j9,h10,h5,hm,hi',ga,q0,q1,gs,w1,w2]
      exact ⟨k+1,by dsimp only;omega,by omega,by simp only [go_sem,j0,j1,j8,j9,h10,h5,hm,hi',ga,q0,q1,gs,w1,w2],v,by rw [e];simp only [go_sem,j0,j1,j8,j9,h10,h5,hm,hi',ga,q0,q1,gs,w1,w2],by rw [e];simp only [go_sem,j0,j1,j8,j9,h10,h5,hm,hi',ga,q0,q1,gs,w1,w2]⟩
 · have hi':¬ (k:Int) < l.length:=by omega
   obtain rfl:k=l.length:=by omega
   have tk:(T.map Bb).take T.length=T.map Bb:=List.take_of_length_le (by simp)
   have e:turnsV p l=T:=hT
   rw [e]
   simp only [go_sem,Int.lt_irrefl,tk,j0,j1,j8,j9,h10,h5,hm]
theorem Zgw {a b:Int} (h:¬ a=b):(a == b)=false:=by rw [beq_eq_false_iff_ne];exact h
def stepK (p:List StepD) (a:Int):Option StepD:=if 0≤a then p[a.toNat]? else none
def goW (p:List StepD):List Int→List Bool→Bool
 | [],ts=>ts.isEmpty
 | [a],ts=>match stepK p a with
  | some s=>(s.kind == 11)&&ts.isEmpty
  | none=>false
 | a::b::l,ts=>match stepK p a with
  | none=>false
  | some s=>if s.kind == 11 then false else
   if brB s then (match ts with
    | []=>false
    | t::ts'=>(b == (if t then a+s.to+1 else a+1))&&goW p (b::l) ts') else
   (b == (if s.kind == 8 then a+s.to+1 else a+1))&&goW p (b::l) ts
def headZ:List Int→Bool
 | []=>false
 | a::_=>a == 0
def goodW (p:List StepD) (w:WayD):Bool:=goodP p&&headZ w.steps&&goW p w.steps w.turns
theorem Zgx {p:List StepD} {a:Int} (h0:0≤a) (h1:a < p.length) (hp:ProgOk p):∃ s,stepK p a=some s∧p[a.toNat]? = some s∧stepB s=true:=by
 have hi:a.toNat < p.length:=by omega
 exact ⟨p[a.toNat],by unfold stepK;rw [if_pos h0];exact List.getElem?_eq_getElem hi,List.getElem?_eq_getElem hi,(hp.all _ hi).1⟩
theorem Zg3 {p:List StepD} {a:Int} (h:a < 0∨a ≥ p.length):stepK p a=none:=by
 unfold stepK
 split
 · exact List.getElem?_eq_none (by omega)
 · rfl
theorem Zgi {p:List StepD} {a:Int} {l:List Int} {ts:List Bool} (h:stepK p a=none):goW p (a::l) ts=false:=by
 cases l with
 | nil=>unfold goW;rw [h]
 | cons b l=>unfold goW;rw [h]
theorem Zjf {p:List StepD} {a:Int} {ts:List Bool} {s:StepD} (ks:stepK p a=some s):goW p [a] ts=((s.kind == 11)&&ts.isEmpty):=by unfold goW;rw [ks]
theorem Zf0 {p : List StepD} {a b : Int} {l : List Int} {ts : List Bool} {s : StepD} (ks : stepK p a = some s) : goW p (a :: b :: l) ts = if s.kind == 11 then false else
      if brB s then (match ts with
       | []=>false
       | t::ts'=>(b == (if t then a+s.to+1 else a+1))&&goW p (b::l) ts') else
      (b == (if s.kind == 8 then a+s.to+1 else a+1))&&goW p (b::l) ts:=by rw [goW,ks]
theorem Zpu {p:List StepD} {ts:List Bool}:goW p [] ts=ts.isEmpty:=by unfold goW;rfl
theorem Zfh {α:Type} {l:List α} {j:Nat} (h:j≤l.length):(l.drop j).isEmpty=((j:Int) == (l.length:Int)):=by
 rw [Bool.eq_iff_iff,List.isEmpty_iff,List.drop_eq_nil_iff,beq_iff_eq]
 omega
theorem spec_GoodWay.fc (p:List StepD) (w:WayD) (hp:p.length≤4194304) (hw:wWay w≤4194304):FCt prog Za3 [.ro,.ro] [steps p,w.d] (Bb (goodW p w)) []:=by
 refine Zak spec_GoodWay.ok rfl ?_
 obtain ⟨l,ts⟩:=w
 have hl:l.length+ts.length≤4194304:=hw
 unfold goodW
 dsimp only
 simp only [go_sem]
 refine Zap (spec_GoodProgram.fc p hp) ?_
 cases hg:goodP p with
 | false=>simp only [go_sem]
 | true =>
  have op:=Zdj hg
  cases hlq:l with
  | nil =>
   have z0:(((0:Nat):Int) == 0)=true:=rfl
   simp only [go_sem,List.length_nil,z0]
   rfl
  | cons a0 l0 =>
   rw [← hlq]
   have n0:((l.length:Int) == 0)=false:=by rw [hlq];exact Zgw (by simp only [List.length_cons];omega)
   have i0:(0:Int) < l.length:=by rw [hlq];simp only [List.length_cons];omega
   have hz:headZ l=(a0 == 0):=by rw [hlq];rfl
   have g0:l[0]? = some a0:=by rw [hlq];rfl
   have gt0:(0:Int).toNat=0:=rfl
   simp only [go_sem,n0,i0,g0,gt0,hz]
   cases ha:(a0 == 0) with
   | false =>
    have ha2:(a0 != 0)=true:=by rw [bne,ha];rfl
    simp only [go_sem,ha2,hz,ha]
   | true =>
    have ha2:(a0 != 0)=false:=by rw [bne,ha];rfl
    have hz2:headZ l=true:=by rw [hz,ha]
    have t1:((true == false) != true)=true:=rfl
    have t2:((false == true) != true)=true:=rfl
    simp only [go_sem,ha2,hz2]
    refine ZaI (α:=Nat×Nat) (fun a s' M'=>a.1≤l.length∧a.2≤ts.length∧s' 30=aI a.1∧s' 5=aI a.2∧M'.m 64=some (.box 0 (.dat none (WayD.d ⟨l,ts⟩)))∧goW p l ts=goW p (l.drop a.1) (ts.drop a.2)) (fun a=>l.length - a.1) (0,0)
     ⟨by dsimp only;omega,by dsimp only;omega,by simp only [go_sem];rfl,by simp only [go_sem];rfl,by simp only [go_sem],by simp⟩ ?_
    rintro ⟨i,j⟩ s' M' ⟨hi,hj,h30,h5,hm,hr⟩ ho
    dsimp only at hi hj h30 h5 hr
    unfold spec_GoodWay.b0
    have k0:s' 0=.dat none (steps p):=by rw [ho 0 rfl];simp only [go_sem]
    have k3:s' 3=.ptr 64 0 0 none:=by rw [ho 3 rfl];simp only [go_sem]
    have k28:s' 28=.dat none (ints l):=by rw [ho 28 rfl];simp only [go_sem]
    have k29:s' 29=aI l.length:=by rw [ho 29 rfl];simp only [go_sem]
    clear ho
    have o1:(0:Int) < ((1:Nat):Int):=by decide
    have o2:(0:Int) < ((2:Nat):Int):=by decide
    have o3:(1:Int) < ((2:Nat):Int):=by decide
    by_cases hlt:i < l.length
    · have hi':(i:Int) < l.length:=by omega
      have ga:l[i]? = some l[i]:=List.getElem?_eq_getElem hlt
      have hw:IntKind.i64.wrap (i+1)=((i+1:Nat):Int):=Zbc hlt (by omega)
      have hd:l.drop i=l[i]::l.drop (i+1):=List.drop_eq_getElem_cons hlt
      rw [hd] at hr
      by_cases q0:l[i] < 0
      · have e:=Zgi (l:=l.drop (i+1)) (ts:=ts.drop j) (Zg3 (p:=p) (.inl q0))
        have e:=hr.trans e
        simp only [go_sem,q0,e,k0,k3,k28,k29,h30,h5,hm,hz2,t1,t2,o1,o2,o3,hi',ga]
      by_cases q1:l[i] ≥ p.length
      · have e:=Zgi (l:=l.drop (i+1)) (ts:=ts.drop j) (Zg3 (p:=p) (.inr q1))
        have e:=hr.trans e
        simp only [go_sem,q0,q1,e,k0,k3,k28,k29,h30,h5,hm,hz2,t1,t2,o1,o2,o3,hi',ga]
      have q00:0≤l[i]:=by omega
      have q11:l[i] < p.length:=by omega
      obtain ⟨st,ks,gs,hv⟩:=Zgx q00 q11 op
      have sok:=ZaF hv
      have wl:IntKind.i64.wrap ((l.length:Int) - 1)=(l.length:Int) - 1:=Zaj (by omega) (by omega)
      by_cases hlast:i+1=l.length
      · have e1:((i:Int) == (l.length:Int) - 1)=true:=by rw [beq_iff_eq];omega
        have hd2:l.drop (i+1)=[]:=List.drop_eq_nil_iff.2 (by omega)
        rw [hd2,Zjf ks] at hr
        cases hk:(st.kind == 11) with
        | false =>
         rw [hk,Bool.false_and] at hr
         simp only [go_sem,e1,hk,hr,k0,k3,k28,k29,h30,h5,hm,hz2,t1,t2,o1,o2,o3,hi',ga,q0,q1,q00,q11,gs,wl]
        | true =>
         rw [hk,Bool.true_and,Zfh hj] at hr
         simp only [go_sem,e1,hk,hr,k0,k3,k28,k29,h30,h5,hm,hz2,t1,t2,o1,o2,o3,hi',ga,q0,q1,q00,q11,gs,wl]
      · have e1:((i:Int) == (l.length:Int) - 1)=false:=Zgw (by omega)
        have hlt2:i+1 < l.length:=by omega
        have hd2:l.drop (i+1)=l[i+1]::l.drop (i+1+1):=List.drop_eq_getElem_cons hlt2
        rw [hd2,Zf0 ks] at hr
        have g2:l[i+1]? = some l[i+1]:=List.getElem?_eq_getElem hlt2
        have i2:((i+1:Nat):Int) < l.length:=by omega
        cases hk:(st.kind == 11) with
        | true =>
         rw [hk] at hr
         simp only [if_true] at hr
         simp only [go_sem,e1,hk,hr,k0,k3,k28,k29,h30,h5,hm,hz2,t1,t2,o1,o2,o3,hi',ga,q0,q1,q00,q11,gs,wl]
        | false =>
         rw [hk] at hr
         have cn:=spec_l2Nexts.fc p l[i] st q00 q11 op.len.2 gs hv
         simp only [Bool.false_eq_true,if_false] at hr
         simp only [go_sem,e1,hk,k0,k3,k28,k29,h30,h5,hm,hz2,t1,t2,o1,o2,o3,hi',ga,q0,q1,q00,q11,gs,wl]
         refine Zal cn ZaY ?_
         have nxt:∀ (v:Int) (j2:Nat),j2≤ts.length→(goW p l ts=((l[i+1] == v)&&goW p (l[i+1]::l.drop (i+1+1)) (ts.drop j2)))→l[i+1]=v→goW p l ts=goW p (l.drop (i+1)) (ts.drop j2):=by
          intro v j2 _ h1 h2
          rw [h1,h2,beq_self_eq_true,Bool.true_and,hd2,h2]
         have wi:IntKind.i64.wrap ((i:Int)+1)=((i+1:Nat):Int):=hw
         have w11:((i+1:Nat):Int) < l.length:=i2
         cases hb:brB st with
         | false =>
          rw [hb] at hr
          simp only [Bool.false_eq_true,if_false] at hr
          have hnx:nextsL st l[i]=[if st.kind == 8 then l[i]+st.to+1 else l[i]+1]:=by
           unfold nextsL
           rw [hk]
           unfold brB at hb
           rw [Bool.or_eq_false_iff] at hb
           rw [hb.1,hb.2]
           cases (st.kind == 8)<;>rfl
          generalize (if st.kind == 8 then l[i]+st.to+1 else l[i]+1)=v at hr hnx
          simp only [go_sem,hnx,k0,k3,k28,k29,h30,h5,hm,hz2,t1,t2,o1,o2,o3,hi',ga,q0,q1,q00,q11,gs,wl]
          refine Zap (spec_l14Branch.fc st) ?_
          rw [hb]
          cases hq:(l[i+1] == v) with
          | false =>
           have hq2:(l[i+1] != v)=true:=by rw [bne,hq];rfl
           rw [hq,Bool.false_and] at hr
           simp only [go_sem,wi,w11,g2,hq2,hr,k0,k3,k28,k29,h30,h5,hm,hz2,t1,t2,o1,o2,o3,hi',ga,q0,q1,q00,q11,gs,wl]
          | true =>
           have hq2:(l[i+1] != v)=false:=by rw [bne,hq];rfl
           have hr2:=nxt v j hj hr (by simpa using hq)
           simp only [go_sem,wi,w11,g2,hq2,k0,k3,k28,k29,h30,h5,hm,hz2,t1,t2,o1,o2,o3,hi',ga,q0,q1,q00,q11,gs,wl]
           exact ⟨(i+1,j),by dsimp only;omega,by dsimp only;omega,hj,by simp only [go_sem,k0,k3,k28,k29,h30,h5,hm,hz2,t1,t2,o1,o2,o3,hi',ga,q0,q1,q00,q11,gs,wl],by simp only [go_sem,k0,k3,k28,k29,h30,h5,hm,hz2,t1,t2,o1,o2,o3,hi',ga,q0,q1,q00,q11,gs,wl],by simp only [go_sem,k0,k3,k28,k29,h30,h5,hm,hz2,t1,t2,o1,o2,o3,hi',ga,q0,q1,q00,q11,gs,wl],hr2⟩
         | true =>
          rw [hb] at hr
          simp only [if_true] at hr
          have hnx:nextsL st l[i]=[l[i]+1,l[i]+st.to+1]:=by
           unfold nextsL
           rw [hk]
           unfold brB at hb
           have h8:(st.kind == 8)=false:=by rw [beq_eq_false_iff_ne];simp at hb;omega
           rw [h8]
           cases h9:(st.kind == 9) with
           | true=>rfl
           | false=>rw [h9,Bool.false_or] at hb;rw [hb];rfl
          simp only [go_sem,hnx,k0,k3,k28,k29,h30,h5,hm,hz2,t1,t2,o1,o2,o3,hi',ga,q0,q1,q00,q11,gs,wl]
          refine Zap (spec_l14Branch.fc st) ?_
          rw [hb]
          by_cases hjl:j=ts.length
          · have ej:((j:Int) == (ts.length:Int))=true:=by rw [hjl];exact beq_self_eq_true _
            have hd3:ts.drop j=[]:=List.drop_eq_nil_iff.2 (by omega)
            rw [hd3] at hr
            simp only [go_sem,ej,hr,k0,k3,k28,k29,h30,h5,hm,hz2,t1,t2,o1,o2,o3,hi',ga,q0,q1,q00,q11,gs,wl]
          · have ej:((j:Int) == (ts.length:Int))=false:=Zgw (by omega)
            have hjlt:j < ts.length:=by omega
            have gj:ts[j]? = some ts[j]:=List.getElem?_eq_getElem hjlt
            have ij:(j:Int) < ts.length:=by omega
            have hd3:ts.drop j=ts[j]::ts.drop (j+1):=List.drop_eq_getElem_cons hjlt
            have wj:IntKind.i64.wrap ((j:Int)+1)=((j+1:Nat):Int):=by rw [Zaj (by omega) (by omega)];omega
            rw [hd3] at hr
            dsimp only at hr
            cases ht:ts[j] with
            | false =>
             rw [ht] at hr
             simp only [Bool.false_eq_true,if_false] at hr
             cases hq:(l[i+1] == l[i]+1) with
             | false =>
              have hq2:(l[i+1] != l[i]+1)=true:=by rw [bne,hq];rfl
              rw [hq,Bool.false_and] at hr
              simp only [go_sem,ej,gj,ij,ht,wi,w11,g2,hq2,hr,wj,k0,k3,k28,k29,h30,h5,hm,hz2,t1,t2,o1,o2,o3,hi',ga,q0,q1,q00,q11,gs,wl]
             | true =>
              have hq2:(l[i+1] != l[i]+1)=false:=by rw [bne,hq];rfl
              have hr2:=nxt _ (j+1) hjlt hr (by simpa using hq)
              simp only [go_sem,ej,gj,ij,ht,wi,w11,g2,hq2,wj,k0,k3,k28,k29,h30,h5,hm,hz2,t1,t2,o1,o2,o3,hi',ga,q0,q1,q00,q11,gs,wl]
              exact ⟨(i+1,j+1),by dsimp only;omega,by dsimp only;omega,hjlt,by simp only [go_sem,k0,k3,k28,k29,h30,h5,hm,hz2,t1,t2,o1,o2,o3,hi',ga,q0,q1,q00,q11,gs,wl],by simp only [go_sem,k0,k3,k28,k29,h30,h5,hm,hz2,t1,t2,o1,o2,o3,hi',ga,q0,q1,q00,q11,gs,wl],by simp only [go_sem,k0,k3,k28,k29,h30,h5,hm,hz2,t1,t2,o1,o2,o3,hi',ga,q0,q1,q00,q11,gs,wl],hr2⟩
            | true =>
             rw [ht] at hr
             simp only [if_true] at hr
             cases hq:(l[i+1] == l[i]+st.to+1) with
             | false =>
              have hq2:(l[i+1] != l[i]+st.to+1)=true:=by rw [bne,hq];rfl
              rw [hq,Bool.false_and] at hr
              simp only [go_sem,ej,gj,ij,ht,wi,w11,g2,hq2,hr,wj,k0,k3,k28,k29,h30,h5,hm,hz2,t1,t2,o1,o2,o3,hi',ga,q0,q1,q00,q11,gs,wl]
             | true =>
              have hq2:(l[i+1] != l[i]+st.to+1)=false:=by rw [bne,hq];rfl
              have hr2:=nxt _ (j+1) hjlt hr (by simpa using hq)
              simp only [go_sem,ej,gj,ij,ht,wi,w11,g2,hq2,wj,k0,k3,k28,k29,h30,h5,hm,hz2,t1,t2,o1,o2,o3,hi',ga,q0,q1,q00,q11,gs,wl]
              exact ⟨(i+1,j+1),by dsimp only;omega,by dsimp only;omega,hjlt,by simp only [go_sem,k0,k3,k28,k29,h30,h5,hm,hz2,t1,t2,o1,o2,o3,hi',ga,q0,q1,q00,q11,gs,wl],by simp only [go_sem,k0,k3,k28,k29,h30,h5,hm,hz2,t1,t2,o1,o2,o3,hi',ga,q0,q1,q00,q11,gs,wl],by simp only [go_sem,k0,k3,k28,k29,h30,h5,hm,hz2,t1,t2,o1,o2,o3,hi',ga,q0,q1,q00,q11,gs,wl],hr2⟩
    · have hi':¬ (i:Int) < l.length:=by omega
      obtain rfl:i=l.length:=by omega
      rw [List.drop_length] at hr
      rw [Zpu,Zfh hj] at hr
      simp only [go_sem,Int.lt_irrefl,hr,k0,k3,k28,k29,h30,h5,hm,hz2,t1,t2,o1,o2,o3]
section
variable {P:Program} {s:Nat→AV} {M:Mem} {nb ib:Nat} {lg:Lg} {es:List Ent}
@[go_sem ↓] theorem RE_EPgf {j d t:Nat} {b:Bool} {k:KO} {kd:Nat} {K:(Nat→AV)→Mem→Prop} :
 @RE P nb ib (EP j (some d) (some (t,b)) k kd false::es) s M lg ⟨K⟩ = @gdW (gB (s t)) b ⟨@KS P s M (nb+64 * j) (ib+64 * j) k ⟨fun a N T=>@okP kd nb j k M N T ⟨@RE P nb ib es (upd s d a) N lg ⟨K⟩⟩⟩⟩ ⟨@RE P nb ib es (upd s d (.tup [])) M lg ⟨K⟩⟩ :=
 ZaB (e:=EP j (some d) (some (t,b)) k kd false) rfl fun a N T=>and_assoc.symm
@[go_sem ↓] theorem RE_EPgt {j d t:Nat} {b:Bool} {k:KO} {kd:Nat} {K:(Nat→AV)→Mem→Prop} :
 @RE P nb ib (EP j (some d) (some (t,b)) k kd true::es) s M lg ⟨K⟩ = @gdW (gB (s t)) b ⟨@KS P s M (nb+64 * j) (ib+64 * j) k ⟨fun a N T=>@okP kd nb j k M N T ⟨@RE P nb ib es (upd s d a) N (upd lg j (wrt T M N)) ⟨K⟩⟩⟩⟩ ⟨@RE P nb ib es (upd s d (.tup [])) M lg ⟨K⟩⟩ :=
 ZaB (e:=EP j (some d) (some (t,b)) k kd true) rfl fun a N T=>and_assoc.symm
end
def nxL (p:List StepD):List Int→Bool
 | a::b::l=>(match stepK p a with|some s=>(nextsL s a).any (· == b)|none=>false)&&nxL p (b::l)
 | _=>true
def turnsR (p:List StepD):List Int→List Bool
 | a::b::l=>(match stepK p a with|some s=>if brB s then [b == a+s.to+1] else []|none=>[])++turnsR p (b::l)
 | _=>[]
def lastX (p:List StepD) (l:List Int):Bool:=match l.getLast? with
 | some a=>(match stepK p a with|some s=>s.kind == 11|none=>false)
 | none=>false
theorem Zol {p:List StepD} {a:Int} {s:StepD} (hp:ProgOk p) (h:stepK p a=some s):stepB s=true:=by
 unfold stepK at h
 split at h
 · obtain ⟨hi,rfl⟩:=List.getElem?_eq_some_iff.1 h
   exact (hp.all _ hi).1
 · cases h
theorem ZlH {p:List StepD} (hp:ProgOk p):∀ (l:List Int) (ts:List Bool),l≠[]→goW p l ts=(nxL p l&&lastX p l&&decide (turnsR p l=ts))
 | [],_,h=>absurd rfl h
 | [a],ts,_=>by
  cases hk:stepK p a with
  | none =>
   rw [Zgi hk]
   simp [lastX,hk]
  | some s =>
   rw [Zjf hk]
   cases ts<;>simp [nxL,lastX,turnsR,hk]
 | a::b::l,ts,_=>by
  have hlx:lastX p (a::b::l)=lastX p (b::l):=by unfold lastX;rw [List.getLast?_cons_cons]
  cases hk:stepK p a with
  | none =>
   rw [Zgi hk]
   simp [nxL,hk]
  | some s =>
   have ok:=ZaF (Zol hp hk)
   rw [Zf0 hk]
   have hnl:nxL p (a::b::l)=((nextsL s a).any (· == b)&&nxL p (b::l)):=by rw [nxL,hk]
   have htr:turnsR p (a::b::l)=(if brB s then [b == a+s.to+1] else [])++turnsR p (b::l):=by rw [turnsR,hk]
   rw [hnl,htr,hlx]
   cases h11:(s.kind == 11) with
   | true =>
    have:nextsL s a=[]:=by unfold nextsL;rw [h11];rfl
    simp [this]
   | false =>
    simp only [Bool.false_eq_true,if_false]
    cases hb:brB s with
    | false =>
     have hnx:nextsL s a=[if s.kind == 8 then a+s.to+1 else a+1]:=by
      unfold nextsL
      rw [h11]
      unfold brB at hb
      rw [Bool.or_eq_false_iff] at hb
      rw [hb.1,hb.2]
      cases (s.kind == 8)<;>rfl
     rw [hnx]
     generalize (if s.kind == 8 then a+s.to+1 else a+1)=v
     simp only [Bool.false_eq_true,if_false,List.nil_append,List.any_cons,List.any_nil,Bool.or_false]
     rw [ZlH hp (b::l) ts (by simp),Bool.beq_comm (a:=v)]
     cases (b == v)<;>simp
    | true =>
     have hgt:s.to > 0:=ok.jmp.2 (by unfold brB at hb;simp at hb;omega)
     have hnx:nextsL s a=[a+1,a+s.to+1]:=by
      unfold nextsL
      rw [h11]
      unfold brB at hb
      have h8:(s.kind == 8)=false:=by rw [beq_eq_false_iff_ne];simp at hb;omega
      rw [h8]
      cases h9:(s.kind == 9) with
      | true=>rfl
      | false=>rw [h9,Bool.false_or] at hb;rw [hb];rfl
     rw [hnx]
     simp only [if_true,List.any_cons,List.any_nil,Bool.or_false,List.cons_append,List.nil_append]
     cases ts with
     | nil=>simp
     | cons t ts =>
      dsimp only
      rw [ZlH hp (b::l) ts (by simp)]
      by_cases e1:b=a+1
      · have e2:¬ b=a+s.to+1:=by omega
        have n1:(a+1 == b)=true:=by rw [e1];exact beq_self_eq_true _
        have n2:(b == a+s.to+1)=false:=Zgw e2
        have n3:(b == a+1)=true:=by rw [e1];exact beq_self_eq_true _
        cases t<;>simp [n1,n2,n3]
      · by_cases e2:b=a+s.to+1
        · have n1:(a+s.to+1 == b)=true:=by rw [e2];exact beq_self_eq_true _
          have n2:(b == a+s.to+1)=true:=by rw [e2];exact beq_self_eq_true _
          have n3:(b == a+1)=false:=Zgw e1
          cases t<;>simp [n1,n2,n3]
        · have n1:(a+s.to+1 == b)=false:=Zgw (fun h=>e2 h.symm)
          have n2:(b == a+s.to+1)=false:=Zgw e2
          have n3:(b == a+1)=false:=Zgw e1
          have n4:(a+1 == b)=false:=Zgw (fun h=>e1 h.symm)
          cases t<;>simp [n1,n2,n3,n4]
theorem Ziy {p:List StepD}:∀ {l:List Int},InP p l→turnsV p l=turnsR p l
 | [],_=>rfl
 | [a],_=>by unfold turnsV turnsN;simp [turnAt,turnsR]
 | a::b::l,h=>by
  have ih:=Ziy (p:=p) (l:=b::l) fun x hx=>h x (List.mem_cons_of_mem _ hx)
  have ha:=h a List.mem_cons_self
  have hk:stepK p a=p[a.toNat]?:=by unfold stepK;rw [if_pos ha.1]
  unfold turnsV turnsN at ih ⊢
  rw [List.length_cons,List.range_succ_eq_map,List.flatMap_cons,List.flatMap_map]
  have e:(fun i=>turnAt p (a::b::l) (i+1))=turnAt p (b::l):=by funext i;rfl
  rw [show (List.range (b::l).length).flatMap (fun i=>turnAt p (a::b::l) i.succ)=(List.range (b::l).length).flatMap (turnAt p (b::l)) from rfl,ih]
  rw [turnsR,hk]
  rfl
theorem Zno {p:List StepD} {l:List Int} {ts:List Bool} (hp:ProgOk p) (h:l≠[]):goW p l ts=(nxL p l&&lastX p l&&decide (turnsR p l=ts)):=ZlH hp l ts h
theorem ZiS {p:List StepD} {a b:Int} {s:StepD} (hp:ProgOk p) (ha:0≤a) (gs:p[a.toNat]? = some s) (h:(nextsL s a).any (· == b)=true):0≤b∧b < p.length:=by
 obtain ⟨hi,rfl⟩:=List.getElem?_eq_some_iff.1 gs
 obtain ⟨hv,ht⟩:=hp.all _ hi
 have ok:=ZaF hv
 have hto:=ok.to
 have hj:=ok.jmp
 have hl:p[a.toNat].kind=11∨a+1 < p.length:=by
  by_cases h:a+1 < p.length
  · exact .inr h
  · left
    have e:p.length - 1=a.toNat:=by omega
    have:=hp.last
    unfold lastK at this
    rw [e,gs] at this
    exact this
 generalize p[a.toNat]=s at h ht hto hj hl
 unfold nextsL at h
 split at h
 · simp at h
 · rename_i h11
   have n11:¬ s.kind=11:=by simpa using h11
   split at h
   · rename_i h8
     have k8:s.kind=8:=by simpa using h8
     simp only [List.any_cons,List.any_nil,Bool.or_false,beq_iff_eq] at h
     have:=ht (hj.2 (.inl k8))
     omega
   · split at h
     · rename_i h9
       have k9:s.kind=9:=by simpa using h9
       simp only [List.any_cons,List.any_nil,Bool.or_false,Bool.or_eq_true,beq_iff_eq] at h
       have:=ht (hj.2 (.inr (.inl k9)))
       omega
     · split at h
       · rename_i h10
         have k10:s.kind=10:=by simpa using h10
         simp only [List.any_cons,List.any_nil,Bool.or_false,Bool.or_eq_true,beq_iff_eq] at h
         have:=ht (hj.2 (.inr (.inr k10)))
         omega
       · simp only [List.any_cons,List.any_nil,Bool.or_false,beq_iff_eq] at h
         omega
theorem Zmn {s:StepD} {i:Int}:(nextsL s i).length≤2:=by
 unfold nextsL
 repeat' split
 all_goals simp
theorem impl_GoodWay.fc (p:List StepD) (w:WayD) (hp:p.length≤4194304) (hw:wWay w≤4194304):FCt prog Za4 [.ro,.ro] [steps p,w.d] (Bb (goodW p w)) []:=by
 refine Zak impl_GoodWay.ok rfl ?_
 obtain ⟨l,ts⟩:=w
 have hl:l.length+ts.length≤4194304:=hw
 unfold goodW
 dsimp only
 simp only [go_sem]
 refine Zap (impl_GoodProgram.fc p hp) ?_
 cases hg:goodP p with
 | false=>simp only [go_sem]
 | true =>
  have op:=Zdj hg
  cases hlq:l with
  | nil =>
   have z0:(((0:Nat):Int) == 0)=true:=rfl
   simp only [go_sem,List.length_nil,z0]
   rfl
  | cons a0 l0 =>
   rw [← hlq]
   have hne:l≠[]:=by rw [hlq];simp
   have n0:((l.length:Int) == 0)=false:=by rw [hlq];exact Zgw (by simp only [List.length_cons];omega)
   have i0:(0:Int) < l.length:=by rw [hlq];simp only [List.length_cons];omega
   have hz:headZ l=(a0 == 0):=by rw [hlq];rfl
   have g0:l[0]? = some a0:=by rw [hlq];rfl
   have gt0:(0:Int).toNat=0:=rfl
   have hgw:=Zno (ts:=ts) op hne
   simp only [go_sem,n0,i0,g0,gt0,hz]
   cases ha:(a0 == 0) with
   | false =>
    have ha2:(a0 != 0)=true:=by rw [bne,ha];rfl
    simp only [go_sem,ha2,hz,ha]
   | true =>
    have ha2:(a0 != 0)=false:=by rw [bne,ha];rfl
    have hz2:headZ l=true:=by rw [hz,ha]
    have a00:a0=0:=by simpa using ha
    have hpl:=op.len.1
    simp only [go_sem,ha2,hz2]
    refine ZaI (α:=Nat) (fun k s' M'=>k+1≤l.length∧s' 5=aI ((k+1:Nat):Int)∧M'.m 64=some (.box 0 (.dat none (WayD.d ⟨l,ts⟩)))∧InP p (l.take (k+1))∧nxL p l=nxL p (l.drop k)) (fun k=>l.length - k) 0
     ⟨by omega,by simp only [go_sem];rfl,by simp only [go_sem],by rw [hlq];intro x hx;simp at hx;rw [hx,a00];omega,by simp⟩ ?_
    rintro k s' M' ⟨hk,h5,hm,hin,hr⟩ ho
    unfold impl_GoodWay.b0
    have j0:s' 0=.dat none (steps p):=by rw [ho 0 rfl];simp only [go_sem]
    have j3:s' 3=.ptr 64 0 0 none:=by rw [ho 3 rfl];simp only [go_sem]
    clear ho
    have gk:l[k]? = some l[k]:=List.getElem?_eq_getElem (by omega)
    have ik:(k:Int) < l.length:=by omega
    have hmem:l[k]∈l.take (k+1):=by rw [Zbg (show k < l.length by omega)];exact List.mem_append_right _ (List.mem_singleton.2 rfl)
    obtain ⟨q0,q1⟩:=hin _ hmem
    obtain ⟨st,ks,gs,hv⟩:=Zgx q0 q1 op
    by_cases hlt:k+1 < l.length
    · have hi':((k+1:Nat):Int) < l.length:=by omega
      have w0:IntKind.i64.wrap (((k+1:Nat):Int) - 1)=(k:Int):=by rw [Zaj (by omega) (by omega)];omega
      have wk:IntKind.i64.wrap (((k+1:Nat):Int)+1)=((k+1+1:Nat):Int):=by rw [Zaj (by omega) (by omega)];omega
      have g2:l[k+1]? = some l[k+1]:=List.getElem?_eq_getElem hlt
      have hd:l.drop k=l[k]::l[k+1]::l.drop (k+1+1):=by rw [List.drop_eq_getElem_cons (show k < l.length by omega),List.drop_eq_getElem_cons hlt]
      have hd2:l.drop (k+1)=l[k+1]::l.drop (k+1+1):=List.drop_eq_getElem_cons hlt
      rw [hd,nxL,ks] at hr
      dsimp only at hr
      rw [← hd2] at hr
      have nl:(nextsL st l[k]).length≤2:=Zmn
      simp only [go_sem,hi',w0,gk,ik,j0,j3,h5,hm,hz2]
      refine Zal (impl_nexts.fc p l[k] st q0 q1 op.len.2 gs hv) ZaY ?_
      simp only [go_sem,hi',gk,ik,g2,Zaa,j0,j3,h5,hm,hz2]
      refine Zap (slices_Contains__sint_int.fc (nextsL st l[k]) l[k+1] (by omega)) ?_
      cases hc:(nextsL st l[k]).any (· == l[k+1]) with
      | false =>
       rw [hc,Bool.false_and] at hr
       rw [hr,Bool.false_and,Bool.false_and] at hgw
       simp only [go_sem,hgw,j0,j3,h5,hm,hz2]
      | true =>
       rw [hc,Bool.true_and] at hr
       simp only [go_sem,wk,j0,j3,h5,hm,hz2]
       exact ⟨k+1,by dsimp only;omega,hlt,by simp only [go_sem,j0,j3,h5,hm,hz2],by simp only [go_sem,j0,j3,h5,hm,hz2],fun x hx=>by
        rw [Zbg hlt] at hx
        rcases List.mem_append.1 hx with hx|hx
        · exact hin x hx
        · rw [List.mem_singleton] at hx;subst hx;exact ZiS op q0 gs hc,hr⟩
    · have hi':¬ ((k+1:Nat):Int) < l.length:=by omega
      have hkl:k+1=l.length:=by omega
      have hnx:nxL p l=true:=by
       rw [hr,List.drop_eq_getElem_cons (show k < l.length by omega),List.drop_eq_nil_iff.2 (by omega)];rfl
      have hlx:lastX p l=(st.kind == 11):=by
       unfold lastX
       rw [List.getLast?_eq_getElem?,show l.length - 1=k by omega,gk]
       dsimp only
       rw [ks]
      have hinp:InP p l:=by
       have:l.take (k+1)=l:=List.take_of_length_le (by omega)
       rw [this] at hin;exact hin
      have w0:IntKind.i64.wrap ((l.length:Int) - 1)=(k:Int):=by rw [Zaj (by omega) (by omega)];omega
      rw [hnx,hlx,← Ziy hinp,Bool.true_and] at hgw
      simp only [go_sem,hi',w0,gk,ik,q0,q1,gs,j0,j3,h5,hm,hz2]
      cases h11:(st.kind == 11) with
      | false =>
       rw [h11,Bool.false_and] at hgw
       simp only [go_sem,h11,hgw,j0,j3,h5,hm,hz2]
      | true =>
       rw [h11,Bool.true_and] at hgw
       simp only [go_sem,h11,j0,j3,h5,hm,hz2]
       refine Zal (impl_turnsOf.fc p l op hinp (by omega)) ZcC ?_
       simp only [go_sem,Zaa,j0,j3,h5,hm,hz2]
       have htl:(turnsV p l).length≤l.length:=Ze9 p l l.length
       refine Zap (slices_Equal__sbool_bool.fc (turnsV p l) ts (by omega) (by omega)) ?_
       simp only [go_sem,hgw,j0,j3,h5,hm,hz2]
end Go.Vm.YtmbhjcgikblpiaaGreat
