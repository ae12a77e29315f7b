/- What the functions that the law reaches return: part 2 (the conditions stand at each). -/
import Derived.Test.YtmicgdfekpoajaaWka
open Int renaming reduceEq → iQ, reduceBEq → iB, reduceBNe → iX, reduceNeg → iN, reduceAdd → iA, reduceSub → iS, reduceMul → iM
namespace Go.Vm.Ytmicgdfekpoajaa
open Go Go.Vm
set_option maxRecDepth 10000
set_option maxHeartbeats 16000000
set_option linter.unusedSimpArgs false
set_option linter.unusedVariables false
def ctxX (c:CurD):Nat→List Int×CurD
 | 0=>([],c)
 | k+1=>((ctxX c k).1++[amongV (pickC (ctxX c k).2 256) [0,1,7,8,255,pickV (ctxX c k).2 256]],pickC (pickC (ctxX c k).2 256) 6)
theorem ctxX_succ (c:CurD) (k:Nat):ctxX c (k+1)=((ctxX c k).1++[amongV (pickC (ctxX c k).2 256) [0,1,7,8,255,pickV (ctxX c k).2 256]],pickC (pickC (ctxX c k).2 256) 6):=rfl
theorem ctxX_len (c:CurD):∀ k,(ctxX c k).1.length=k
 | 0=>rfl
 | k+1=>by rw [ctxX_succ];simp [ctxX_len c k]
theorem ctxX_ok {c:CurD} {m:Nat} (h:CurOk c (m+32)):∀ k,k≤8→CurOk (ctxX c k).2 (m+4 * (8 - k))
 | 0,_=>h
 | k+1,hk=>by
  have ih:=ctxX_ok h k (by omega)
  rw [ctxX_succ]
  show CurOk (pickC (pickC (ctxX c k).2 256) 6) _
  exact pickC_ok (m:=m+4 * (8 - (k+1))) (pickC_ok (m:=m+4 * (8 - (k+1))+2) (ih.mono (by omega)))
theorem ctx_in {c:CurD} {p:List Int} {v:CurD} (fc:FCt prog F_spec_pl1Cur_ctx [.io] [.ptr c.d] (ints p) [.ptr (CurD.d v)]) (hl:p.length=8) (ok:∀ m,CurOk c (m+40)→CurOk v m) :
 ∃ p c',p.length=8∧(∀ m,CurOk c (m+40)→CurOk c' m)∧FCt prog F_spec_pl1Cur_ctx [.io] [.ptr c.d] (ints p) [.ptr (CurD.d c')]:=⟨_,_,hl,ok,fc⟩
theorem ctx_ex (c:CurD) (h:CurOk c 40):∃ p c',p.length=8∧(∀ m,CurOk c (m+40)→CurOk c' m)∧FCt prog F_spec_pl1Cur_ctx [.io] [.ptr c.d] (ints p) [.ptr (CurD.d c')]:=by
 have h3:∀ m,CurOk c (m+40)→∀ k,k≤8→CurOk (ctxX c k).2 (m+8+4 * (8 - k)):=fun m hm k hk=>ctxX_ok (hm.mono (by omega)) k hk
 have hsl:=ctxX_len c
 have f4:=spec_pl1Cur_one.fc (ctxX c 8).2 30 (m:=6) ((h3 0 h 8 (Nat.le_refl _)).mono (by omega))
 have h4:∀ m,CurOk c (m+40)→CurOk (pickC (ctxX c 8).2 30) (m+6):=fun m hm=>pickC_ok ((h3 m hm 8 (Nat.le_refl _)).mono (by omega))
 have l6:∀ x:Int,(([0,1,7,8,255,x]:List Int).length:Int)=6:=fun _=>rfl
 have l2:(([-1,256]:List Int).length:Int)=2:=rfl
 have e5:=spec_pl1Cur_among.fc (pickC (ctxX c 8).2 30) [-1,256] (by simp) (by simp) (m:=4) (h4 0 h)
 rw [l2] at e5
 have h5:∀ m,CurOk c (m+40)→CurOk (pickC (pickC (ctxX c 8).2 30) 2) (m+4):=fun m hm=>pickC_ok (h4 m hm)
 generalize amongV (pickC (ctxX c 8).2 30) [-1,256]=z at e5
 generalize pickC (pickC (ctxX c 8).2 30) 2=v2 at e5 h5
 generalize pickC (ctxX c 8).2 30=v1 at f4 h4 e5
 have h81:(ctxX c 8).1.length=8:=hsl 8
 cases hb:(pickV (ctxX c 8).2 30 == 0)<;>rw [hb] at f4
 case false =>
  refine ctx_in (p:=(ctxX c 8).1) (v:=v1) ?_ h81 (fun m hm=>(h4 m hm).mono (by omega))
  refine fct_run spec_pl1Cur_ctx.ok rfl ?_
  simp only [go_sem]
  refine R_loop (α:=Nat) (fun k s' M'=>k≤8∧s' 4=aI k∧M'.m 0=some (.box 0 (curA (ctxX c k).2))∧∃ v,s' 3=.sl 832 v 0 k 1∧M'.m 832=some (.arr v true 1 ((ctxX c k).1.map Ii))) (fun k=>8 - k) 0
   ⟨Nat.zero_le _,by simp only [go_sem];try rfl,by simp only [go_sem];try rfl,_,by simp only [go_sem];try rfl,by simp only [go_sem];try rfl⟩ ?_
  rintro k s' M' ⟨hk,g5,gm,v,g3,gr⟩ ho
  unfold spec_pl1Cur_ctx.b0
  have j0:s' 0=.ptr 0 0 0 none:=by rw [ho 0 rfl];simp only [go_sem]
  clear ho
  by_cases hlt:k < 8
  · have hi':(k:Int) < 8:=by omega
    have hw:IntKind.i64.wrap (k+1)=((k+1:Nat):Int):=wrap_k hlt (by omega)
    have ok:=(h3 0 h k hk).mono (m:=4) (by omega)
    have e1:=spec_pl1Cur_pick.fc (ctxX c k).2 256 (m:=2) ok
    have hsu:=ctxX_succ c k
    have o1:CurOk (pickC (ctxX c k).2 256) 2:=pickC_ok ok
    generalize pickV (ctxX c k).2 256=x at e1 hsu
    generalize pickC (ctxX c k).2 256=c1 at e1 hsu o1
    have e2:=spec_pl1Cur_among.fc c1 [0,1,7,8,255,x] (by simp) (by simp) (m:=0) o1
    rw [l6] at e2
    generalize amongV c1 [0,1,7,8,255,x]=y at e2 hsu
    generalize pickC c1 6=c2 at e2 hsu
    have lk:=hsl k
    have hbb:(k+1) * 8≤70368744177664:=by omega
    have tk:((ctxX c k).1.map Ii).take k=(ctxX c k).1.map Ii:=List.take_of_length_le (by simp [lk])
    have sn:(ctxX c k).1.map Ii++[Ii y]=(ctxX c (k+1)).1.map Ii:=by rw [hsu];simp
    have s2:c2=(ctxX c (k+1)).2:=by rw [hsu]
    simp only [go_sem,hi',j0,g5,gm,g3,gr]
    refine coW_c e1 ?_
    simp only [go_sem,j0,g5,gm,g3,gr]
    refine coW_c e2 ?_
    simp only [go_sem,hw,hbb,tk,lk,j0,g5,gm,g3,gr]
    exact ⟨k+1,by dsimp only;omega,by omega,by simp only [go_sem,j0,g5,gm,g3,gr],by simp only [go_sem,j0,g5,gm,g3,gr];rw [← s2],_,by simp only [go_sem,j0,g5,gm,g3,gr];try rfl,by simp only [go_sem,j0,g5,gm,g3,gr];rw [← sn]⟩
  · obtain rfl:k=8:=by omega
    have c8:((8:Nat):Int)=8:=rfl
    have tk:((ctxX c 8).1.map Ii).take 8=(ctxX c 8).1.map Ii:=List.take_of_length_le (by simp [h81])
    simp only [go_sem,Int.lt_irrefl,c8,j0,g5,gm,g3,gr]
    refine coW_c f4 ?_
    simp only [go_sem,h81,tk,Nat.le_refl,j0,g5,gm,g3,gr];try rfl
 case true =>
  refine ctx_in (p:=(ctxX c 8).1.set 0 z) (v:=v2) ?_ (by simp [h81]) (fun m hm=>(h5 m hm).mono (by omega))
  refine fct_run spec_pl1Cur_ctx.ok rfl ?_
  simp only [go_sem]
  refine R_loop (α:=Nat) (fun k s' M'=>k≤8∧s' 4=aI k∧M'.m 0=some (.box 0 (curA (ctxX c k).2))∧∃ v,s' 3=.sl 832 v 0 k 1∧M'.m 832=some (.arr v true 1 ((ctxX c k).1.map Ii))) (fun k=>8 - k) 0
   ⟨Nat.zero_le _,by simp only [go_sem];try rfl,by simp only [go_sem];try rfl,_,by simp only [go_sem];try rfl,by simp only [go_sem];try rfl⟩ ?_
  rintro k s' M' ⟨hk,g5,gm,v,g3,gr⟩ ho
  unfold spec_pl1Cur_ctx.b0
  have j0:s' 0=.ptr 0 0 0 none:=by rw [ho 0 rfl];simp only [go_sem]
  clear ho
  by_cases hlt:k < 8
  · have hi':(k:Int) < 8:=by omega
    have hw:IntKind.i64.wrap (k+1)=((k+1:Nat):Int):=wrap_k hlt (by omega)
    have ok:=(h3 0 h k hk).mono (m:=4) (by omega)
    have e1:=spec_pl1Cur_pick.fc (ctxX c k).2 256 (m:=2) ok
    have hsu:=ctxX_succ c k
    have o1:CurOk (pickC (ctxX c k).2 256) 2:=pickC_ok ok
    generalize pickV (ctxX c k).2 256=x at e1 hsu
    generalize pickC (ctxX c k).2 256=c1 at e1 hsu o1
    have e2:=spec_pl1Cur_among.fc c1 [0,1,7,8,255,x] (by simp) (by simp) (m:=0) o1
    rw [l6] at e2
    generalize amongV c1 [0,1,7,8,255,x]=y at e2 hsu
    generalize pickC c1 6=c2 at e2 hsu
    have lk:=hsl k
    have hbb:(k+1) * 8≤70368744177664:=by omega
    have tk:((ctxX c k).1.map Ii).take k=(ctxX c k).1.map Ii:=List.take_of_length_le (by simp [lk])
    have sn:(ctxX c k).1.map Ii++[Ii y]=(ctxX c (k+1)).1.map Ii:=by rw [hsu];simp
    have s2:c2=(ctxX c (k+1)).2:=by rw [hsu]
    simp only [go_sem,hi',j0,g5,gm,g3,gr]
    refine coW_c e1 ?_
    simp only [go_sem,j0,g5,gm,g3,gr]
    refine coW_c e2 ?_
    simp only [go_sem,hw,hbb,tk,lk,j0,g5,gm,g3,gr]
    exact ⟨k+1,by dsimp only;omega,by omega,by simp only [go_sem,j0,g5,gm,g3,gr],by simp only [go_sem,j0,g5,gm,g3,gr];rw [← s2],_,by simp only [go_sem,j0,g5,gm,g3,gr];try rfl,by simp only [go_sem,j0,g5,gm,g3,gr];rw [← sn]⟩
  · obtain rfl:k=8:=by omega
    have c8:((8:Nat):Int)=8:=rfl
    have tk:((ctxX c 8).1.map Ii).take 8=(ctxX c 8).1.map Ii:=List.take_of_length_le (by simp [h81])
    simp only [go_sem,Int.lt_irrefl,c8,j0,g5,gm,g3,gr]
    refine coW_c f4 ?_
    simp only [go_sem,j0,g5,gm,g3,gr]
    refine coW_c e5 ?_
    have g0:(ctxX c 8).1[0]? = some ((ctxX c 8).1.getD 0 0):=getD_some (by omega)
    have ss:((ctxX c 8).1.map Ii).set 0 (.int .i64 z)=((ctxX c 8).1.set 0 z).map Ii:=by rw [List.map_set]
    have tk2:(((ctxX c 8).1.set 0 z).map Ii).take 8=((ctxX c 8).1.set 0 z).map Ii:=List.take_of_length_le (by simp [h81])
    have l3:((ctxX c 8).1.set 0 z).length=8:=by simp [h81]
    simp only [go_sem,c8,h81,g0,ss,tk2,l3,Nat.le_refl,j0,g5,gm,g3,gr];try rfl
def runQV (p:List StepD) (ctx:List Int) (fuel:Int):Int×Int×Int×Bool :=
 if goodP p&&ctxB ctx&&inB fuel 0 100 then ((runP p ctx fuel.toNat).1,(runP p ctx fuel.toNat).2.1,(runP p ctx fuel.toNat).2.2.1,true) else (0,0,0,false)
def runQD (r:Int×Int×Int×Bool):D:=.tup [Ii r.1,Ii r.2.1,Ii r.2.2.1,Bb r.2.2.2]
theorem impl_RunProgram.fcq (p:List StepD) (ctx:List Int) (fuel:Int) (hp:p.length≤4194304) (hc:ctx.length≤4194304):FCt prog F_impl_RunProgram [.ro,.ro,.ro] [steps p,ints ctx,Ii fuel] (runQD (runQV p ctx fuel)) []:=by
 refine fct_run impl_RunProgram.ok rfl ?_
 have c1:=impl_GoodProgram.fc p hp
 have c2:=impl_isContext.fc ctx (by omega)
 have c3:=impl_in.fc fuel 0 100
 unfold runQD runQV
 cases h1:goodP p with
 | false=>rw [h1] at c1;repeat' (first|with_reducible rfl|refine fcW_bool (c1) ?_|with_reducible refine cdW_dec (fun _=>?_) (fun _=>?_)|refine cdW_not (fun _=>?_) (fun _=>?_)|refine cdW_any (fun _=>?_) (fun _=>?_)|with_reducible refine gdW_decT (fun _=>?_) (fun _=>?_)|with_reducible refine gdW_decF (fun _=>?_) (fun _=>?_)|refine gdW_not (fun _=>?_) (fun _=>?_)|refine gdW_any (fun _=>?_) (fun _=>?_)|simp only [go_sem,bne,iQ,iB,iX,Int.reduceLE,iN,iA,iS,iM, *]|rfl)
 | true =>
  rw [h1] at c1
  cases h2:ctxB ctx with
  | false=>rw [h2] at c2;repeat' (first|with_reducible rfl|refine fcW_bool (c1) ?_|refine fcW_bool (c2) ?_|with_reducible refine cdW_dec (fun _=>?_) (fun _=>?_)|refine cdW_not (fun _=>?_) (fun _=>?_)|refine cdW_any (fun _=>?_) (fun _=>?_)|with_reducible refine gdW_decT (fun _=>?_) (fun _=>?_)|with_reducible refine gdW_decF (fun _=>?_) (fun _=>?_)|refine gdW_not (fun _=>?_) (fun _=>?_)|refine gdW_any (fun _=>?_) (fun _=>?_)|simp only [go_sem,bne,iQ,iB,iX,Int.reduceLE,iN,iA,iS,iM, *]|rfl)
  | true =>
   rw [h2] at c2
   cases h3:inB fuel 0 100 with
   | false=>rw [h3] at c3;repeat' (first|with_reducible rfl|refine fcW_bool (c1) ?_|refine fcW_bool (c2) ?_|refine fcW_bool (c3) ?_|with_reducible refine cdW_dec (fun _=>?_) (fun _=>?_)|refine cdW_not (fun _=>?_) (fun _=>?_)|refine cdW_any (fun _=>?_) (fun _=>?_)|with_reducible refine gdW_decT (fun _=>?_) (fun _=>?_)|with_reducible refine gdW_decF (fun _=>?_) (fun _=>?_)|refine gdW_not (fun _=>?_) (fun _=>?_)|refine gdW_any (fun _=>?_) (fun _=>?_)|simp only [go_sem,bne,iQ,iB,iX,Int.reduceLE,iN,iA,iS,iM, *]|rfl)
   | true =>
    rw [h3] at c3
    simp only [inB,Bool.and_eq_true,decide_eq_true_eq] at h3
    obtain ⟨N,rfl⟩:∃ N:Nat,fuel=N:=⟨fuel.toNat,by omega⟩
    have c4:=impl_run.fc p ctx N (by omega) (prog_ok h1) (ctx_ok h2)
    rw [show (N:Int).toNat=N from rfl]
    generalize runP p ctx N=R at c4 ⊢
    obtain ⟨R0,R1,R2,R3⟩:=R
    unfold runD at c4
    repeat' (first|with_reducible rfl|refine fcW_bool (c1) ?_|refine fcW_bool (c2) ?_|refine fcW_bool (c3) ?_|refine fcW_bd (c4) (noRs_run) ?_|with_reducible refine cdW_dec (fun _=>?_) (fun _=>?_)|refine cdW_not (fun _=>?_) (fun _=>?_)|refine cdW_any (fun _=>?_) (fun _=>?_)|with_reducible refine gdW_decT (fun _=>?_) (fun _=>?_)|with_reducible refine gdW_decF (fun _=>?_) (fun _=>?_)|refine gdW_not (fun _=>?_) (fun _=>?_)|refine gdW_any (fun _=>?_) (fun _=>?_)|simp only [go_sem,bne,iQ,iB,iX,Int.reduceLE,iN,iA,iS,iM, *]|rfl)
theorem spec_RunProgram.fcq (p:List StepD) (ctx:List Int) (fuel:Int) (hp:p.length≤4194304) (hc:ctx.length≤4194304):FCt prog F_spec_RunProgram [.ro,.ro,.ro] [steps p,ints ctx,Ii fuel] (runQD (runQV p ctx fuel)) []:=by
 refine fct_run spec_RunProgram.ok rfl ?_
 have c1:=spec_GoodProgram.fc p hp
 have c2:=spec_l3Ctx.fc ctx (by omega)
 have c3:=spec_l1In.fc fuel 0 100
 unfold runQD runQV
 cases h1:goodP p with
 | false=>rw [h1] at c1;repeat' (first|with_reducible rfl|refine fcW_bool (c1) ?_|with_reducible refine cdW_dec (fun _=>?_) (fun _=>?_)|refine cdW_not (fun _=>?_) (fun _=>?_)|refine cdW_any (fun _=>?_) (fun _=>?_)|with_reducible refine gdW_decT (fun _=>?_) (fun _=>?_)|with_reducible refine gdW_decF (fun _=>?_) (fun _=>?_)|refine gdW_not (fun _=>?_) (fun _=>?_)|refine gdW_any (fun _=>?_) (fun _=>?_)|simp only [go_sem,bne,iQ,iB,iX,Int.reduceLE,iN,iA,iS,iM, *]|rfl)
 | true =>
  rw [h1] at c1
  cases h2:ctxB ctx with
  | false=>rw [h2] at c2;repeat' (first|with_reducible rfl|refine fcW_bool (c1) ?_|refine fcW_bool (c2) ?_|with_reducible refine cdW_dec (fun _=>?_) (fun _=>?_)|refine cdW_not (fun _=>?_) (fun _=>?_)|refine cdW_any (fun _=>?_) (fun _=>?_)|with_reducible refine gdW_decT (fun _=>?_) (fun _=>?_)|with_reducible refine gdW_decF (fun _=>?_) (fun _=>?_)|refine gdW_not (fun _=>?_) (fun _=>?_)|refine gdW_any (fun _=>?_) (fun _=>?_)|simp only [go_sem,bne,iQ,iB,iX,Int.reduceLE,iN,iA,iS,iM, *]|rfl)
  | true =>
   rw [h2] at c2
   cases h3:inB fuel 0 100 with
   | false=>rw [h3] at c3;repeat' (first|with_reducible rfl|refine fcW_bool (c1) ?_|refine fcW_bool (c2) ?_|refine fcW_bool (c3) ?_|with_reducible refine cdW_dec (fun _=>?_) (fun _=>?_)|refine cdW_not (fun _=>?_) (fun _=>?_)|refine cdW_any (fun _=>?_) (fun _=>?_)|with_reducible refine gdW_decT (fun _=>?_) (fun _=>?_)|with_reducible refine gdW_decF (fun _=>?_) (fun _=>?_)|refine gdW_not (fun _=>?_) (fun _=>?_)|refine gdW_any (fun _=>?_) (fun _=>?_)|simp only [go_sem,bne,iQ,iB,iX,Int.reduceLE,iN,iA,iS,iM, *]|rfl)
   | true =>
    rw [h3] at c3
    simp only [inB,Bool.and_eq_true,decide_eq_true_eq] at h3
    obtain ⟨N,rfl⟩:∃ N:Nat,fuel=N:=⟨fuel.toNat,by omega⟩
    have c4:=spec_l3Run.fc p ctx N (by omega) (prog_ok h1) (ctx_ok h2)
    rw [show (N:Int).toNat=N from rfl]
    generalize runP p ctx N=R at c4 ⊢
    obtain ⟨R0,R1,R2,R3⟩:=R
    unfold runD at c4
    repeat' (first|with_reducible rfl|refine fcW_bool (c1) ?_|refine fcW_bool (c2) ?_|refine fcW_bool (c3) ?_|refine fcW_bd (c4) (noRs_run) ?_|with_reducible refine cdW_dec (fun _=>?_) (fun _=>?_)|refine cdW_not (fun _=>?_) (fun _=>?_)|refine cdW_any (fun _=>?_) (fun _=>?_)|with_reducible refine gdW_decT (fun _=>?_) (fun _=>?_)|with_reducible refine gdW_decF (fun _=>?_) (fun _=>?_)|refine gdW_not (fun _=>?_) (fun _=>?_)|refine gdW_any (fun _=>?_) (fun _=>?_)|simp only [go_sem,bne,iQ,iB,iX,Int.reduceLE,iN,iA,iS,iM, *]|rfl)
theorem impl_FaultFree.fc (p:List StepD) (ctx:List Int) (hp:p.length≤4194304) (hc:ctx.length≤4194304):FCt prog F_impl_FaultFree [.ro,.ro] [steps p,ints ctx] (.tup [Bb ((traceV p ctx).2.2&&((traceV p ctx).2.1 == 0)),Bb (traceV p ctx).2.2]) []:=by
 refine fct_run impl_FaultFree.ok rfl ?_
 have c1:=impl_TraceOf.fc p ctx hp hc
 generalize traceV p ctx=T at c1 ⊢
 obtain ⟨t,f,ok⟩:=T
 unfold traceD at c1
 simp only [go_sem]
 refine fcW_bd c1 (noRs_t3 noRs_ints rfl rfl) ?_
 cases ok
 · simp only [go_sem];try rfl
 · simp only [go_sem];try rfl
theorem tr_ex (code:List Int) (hl:code.length≤9223372036854775807) (h8:∀ b∈code,0≤b∧b≤255) :
 ∃ (p:List StepD) (ctx:List Int),p.length≤20∧ctx.length=8∧FCt prog F_spec_DrawTraceOf [.ro] [.sl 1 (code.map Ub)] (.tup [steps p,ints ctx]) []:=by
 obtain ⟨p,c1,pl,ok1,f1⟩:=prog_ex (curS code) (curS_ok hl h8 (by omega))
 have o1:CurOk c1 40:=ok1 40 (curS_ok hl h8 (by omega))
 obtain ⟨l,c2,ll,ok2,f2⟩:=ctx_ex c1 o1
 refine ⟨p,l,pl,ll,?_⟩
 refine fct_run spec_DrawTraceOf.ok rfl ?_
 simp only [go_sem]
 refine coW_c f1 ?_
 simp only [go_sem,take_map_len]
 refine coW_c f2 ?_
 simp only [go_sem,take_map_len]
theorem word_ex (c:CurD) {m:Nat} (h:CurOk c (m+12)):∃ (x:Int) (c':CurD),(0≤x∧x≤65535)∧CurOk c' m∧FCt prog F_spec_pl1Cur_word [.io] [.ptr c.d] (Ii x) [.ptr c'.d]:=by
 have f1:=spec_pl1Cur_pick.fc c 256 (m:=m+10) h
 have o1:CurOk (pickC c 256) (m+10):=pickC_ok h
 have p1:=pickV_in (c:=c) (n:=256) (by omega)
 generalize pickV c 256=x1 at f1 p1
 generalize pickC c 256=c1 at f1 o1
 have f2:=spec_pl1Cur_pick.fc c1 256 (m:=m+8) o1
 have o2:CurOk (pickC c1 256) (m+8):=pickC_ok o1
 have p2:=pickV_in (c:=c1) (n:=256) (by omega)
 generalize pickV c1 256=x2 at f2 p2
 generalize pickC c1 256=c2 at f2 o2
 have f3:=spec_pl1Cur_pick.fc c2 256 (m:=m+6) o2
 have o3:CurOk (pickC c2 256) (m+6):=pickC_ok o2
 have p3:=pickV_in (c:=c2) (n:=256) (by omega)
 generalize pickV c2 256=x3 at f3 p3
 generalize pickC c2 256=c3 at f3 o3
 have f4:=spec_pl1Cur_pick.fc c3 256 (m:=m+4) o3
 have o4:CurOk (pickC c3 256) (m+4):=pickC_ok o3
 have p4:=pickV_in (c:=c3) (n:=256) (by omega)
 generalize pickV c3 256=x4 at f4 p4
 generalize pickC c3 256=c4 at f4 o4
 have f5:=spec_pl1Cur_pick.fc c4 20 (m:=m+2) o4
 have o5:CurOk (pickC c4 20) (m+2):=pickC_ok o4
 have p5:=pickV_in (c:=c4) (n:=20) (by omega)
 generalize pickV c4 20=x5 at f5 p5
 generalize pickC c4 20=c5 at f5 o5
 have f6:=spec_pl1Cur_among.fc c5 [0,1,2,255,256,32767,32768,65535,x1 * 256+x2,x3 * 256+x4,x5] (by simp) (by simp) (m:=m) o5
 have e6:=amongV_mem c5 [0,1,2,255,256,32767,32768,65535,x1 * 256+x2,x3 * 256+x4,x5] (by simp)
 have o6:CurOk (pickC c5 11) m:=pickC_ok o5
 have hx:0≤amongV c5 [0,1,2,255,256,32767,32768,65535,x1 * 256+x2,x3 * 256+x4,x5]∧amongV c5 [0,1,2,255,256,32767,32768,65535,x1 * 256+x2,x3 * 256+x4,x5]≤65535:=by
  simp only [List.mem_cons,List.not_mem_nil,or_false] at e6
  omega
 clear e6
 generalize amongV c5 [0,1,2,255,256,32767,32768,65535,x1 * 256+x2,x3 * 256+x4,x5]=x at f6 hx
 refine ⟨x,pickC c5 11,hx,o6,?_⟩
 have w1:IntKind.i64.wrap (x1 * 256)=x1 * 256:=wrap_in (by omega) (by omega)
 have w2:IntKind.i64.wrap (x1 * 256+x2)=x1 * 256+x2:=wrap_in (by omega) (by omega)
 have w3:IntKind.i64.wrap (x3 * 256)=x3 * 256:=wrap_in (by omega) (by omega)
 have w4:IntKind.i64.wrap (x3 * 256+x4)=x3 * 256+x4:=wrap_in (by omega) (by omega)
 refine fct_run spec_pl1Cur_word.ok rfl ?_
 simp only [go_sem]
 refine coW_c f1 ?_
 simp only [go_sem,w1]
 refine coW_c f2 ?_
 simp only [go_sem,w1,w2]
 refine coW_c f3 ?_
 simp only [go_sem,w3]
 refine coW_c f4 ?_
 simp only [go_sem,w3,w4]
 refine coW_c f5 ?_
 simp only [go_sem]
 refine coW_c f6 ?_
 simp only [go_sem]
 rfl
def MachQ (n:Int) (m:Nat) (r:D) (outs:List D):Prop:=∃ (k:MachD) (c':CurD),r=k.d∧outs=[.ptr c'.d]∧k.regs.length=6∧k.cells.length=16∧k.isset.length=16∧CurOk c' m
theorem mach_ex (c:CurD) (n:Int) {m:Nat} (h:CurOk c (m+400)):∃ (k:MachD) (c':CurD),k.regs.length=6∧k.cells.length=16∧k.isset.length=16∧CurOk c' m∧FCt prog F_spec_pl1Cur_machine [.io,.ro] [.ptr c.d,Ii n] k.d [.ptr c'.d]:=by
 suffices H:∃ r outs,MachQ n m r outs∧FCt prog F_spec_pl1Cur_machine [.io,.ro] [.ptr c.d,Ii n] r outs by
  obtain ⟨_,_,⟨k,c',rfl,rfl,h1,h2,h3,h4⟩,hf⟩:=H
  exact ⟨k,c',h1,h2,h3,h4,hf⟩
 refine fct_ex _ spec_pl1Cur_machine.ok rfl rfl ?_
 have f1:=spec_pl1Cur_pick.fc c n (m:=m+398) h
 have o1:CurOk (pickC c n) (m+398):=pickC_ok h
 generalize pickV c n=x1 at f1
 generalize pickC c n=c1 at f1 o1
 simp only [go_sem]
 refine fcW_bd spec_NewMachine.fc noRs_Machine ?_
 simp only [go_sem]
 refine coW_c f1 ?_
 simp only [go_sem]
 have n1:newM.regs.length=6:=rfl
 have n2:newM.cells.length=16:=rfl
 have n3:newM.isset.length=16:=rfl
 refine R_loop (α:=Nat×List Int×CurD) (fun a s' M'=>a.1≤6∧a.2.1.length=6∧CurOk a.2.2 (m+250+14 * (6 - a.1))∧s' 15=aI 6∧s' 16=aI a.1∧M'.m 0=some (.box 0 (curA a.2.2)) ∧
  M'.m 128=some (.arr 65 true 1 (a.2.1.map Ii))∧M'.m 129=some (.arr 66 true 1 (newM.cells.map Ii))∧M'.m 130=some (.arr 67 true 1 (newM.isset.map Bb)) ∧
  M'.m 192=some (.box 129 (.agg [aI x1,.sl 128 65 0 6 1,.sl 129 66 0 16 1,.sl 130 67 0 16 1]))∧M'.m 64=some (.box 1 (.agg [aI 0,.nil 1,.nil 1,.nil 1]))) (fun a=>6 - a.1) (0,newM.regs,c1)
  ⟨by omega,rfl,o1.mono (by omega),by simp only [go_sem];try rfl,by simp only [go_sem];try rfl,by simp only [go_sem];try rfl,by simp only [go_sem];try rfl,by simp only [go_sem];try rfl,by simp only [go_sem];try rfl,by simp only [go_sem];try rfl,by simp only [go_sem];try rfl⟩ ?_
 rintro ⟨i,l,u⟩ s2 M2 ⟨hi,hl,hu,g15,g16,gm,ga,gb,gc,gx,gz⟩ ho
 dsimp only at hi hl hu g15 g16 gm ga gb gc gx gz
 unfold spec_pl1Cur_machine.b0
 have j0:s2 0=.ptr 0 0 0 none:=by rw [ho 0 rfl];simp only [go_sem]
 have j4:s2 4=.ptr 64 1 0 none:=by rw [ho 4 rfl];simp only [go_sem]
 have j5:s2 5=.ptr 192 129 0 none:=by rw [ho 5 rfl];simp only [go_sem]
 clear ho
 by_cases hlt:(i:Int) < 6
 · have hw:IntKind.i64.wrap ((i:Int)+1)=((i+1:Nat):Int):=by rw [wrap_in (by omega) (by omega)];omega
   obtain ⟨x,u1,hx,ou,fw⟩:=word_ex u (m:=m+252+14 * (6 - (i+1))) (hu.mono (by omega))
   have fa:=spec_pl1Cur_among.fc u1 [0,1,5,x] (by simp) (by simp) (m:=m+250+14 * (6 - (i+1))) (ou.mono (by omega))
   have oa:CurOk (pickC u1 4) (m+250+14 * (6 - (i+1))):=pickC_ok (ou.mono (by omega))
   generalize amongV u1 [0,1,5,x]=y at fa
   have k1:([0]:List Nat).contains 192=false:=rfl
   have k2:([0]:List Nat).contains 128=false:=rfl
   simp only [go_sem,hlt,j0,j4,j5,g15,g16,gm,ga,gb,gc,gx,gz]
   refine coW_c fw ?_
   simp only [go_sem,j0,j4,j5,g15,g16,gm,ga,gb,gc,gx,gz]
   refine coW_c fa ?_
   obtain ⟨z,hgi⟩:∃ z,l[i]? = some z:=⟨_,List.getElem?_eq_getElem (by omega)⟩
   have h6:(i:Int) < ((6:Nat):Int):=by omega
   simp only [go_sem,hw,k1,k2,h6,hgi,j0,j4,j5,g15,g16,gm,ga,gb,gc,gx,gz]
   exact ⟨(i+1,l.set i y,pickC u1 4),by dsimp only;omega,by dsimp only;omega,by simp [hl],oa,by simp only [go_sem,j0,j4,j5,g15,g16,gm,ga,gb,gc,gx,gz],by simp only [go_sem,j0,j4,j5,g15,g16,gm,ga,gb,gc,gx,gz],by simp only [go_sem,j0,j4,j5,g15,g16,gm,ga,gb,gc,gx,gz];try rfl,by simp only [go_sem,List.map_set,j0,j4,j5,g15,g16,gm,ga,gb,gc,gx,gz],by simp only [go_sem,j0,j4,j5,g15,g16,gm,ga,gb,gc,gx,gz],by simp only [go_sem,j0,j4,j5,g15,g16,gm,ga,gb,gc,gx,gz],by simp only [go_sem,j0,j4,j5,g15,g16,gm,ga,gb,gc,gx,gz],by simp only [go_sem,j0,j4,j5,g15,g16,gm,ga,gb,gc,gx,gz]⟩
 · simp only [go_sem,hlt,j0,j4,j5,g15,g16,gm,ga,gb,gc,gx,gz]
   clear hlt
   refine R_loop (α:=Nat×List Int×List Bool×CurD) (fun a s' M'=>a.1≤16∧a.2.1.length=16∧a.2.2.1.length=16∧CurOk a.2.2.2 (m+20+14 * (16 - a.1))∧s' 31=aI 16∧s' 32=aI a.1∧M'.m 0=some (.box 0 (curA a.2.2.2)) ∧
    M'.m 128=some (.arr 65 true 1 (l.map Ii))∧M'.m 129=some (.arr 66 true 1 (a.2.1.map Ii))∧M'.m 130=some (.arr 67 true 1 (a.2.2.1.map Bb)) ∧
    M'.m 192=some (.box 129 (.agg [aI x1,.sl 128 65 0 6 1,.sl 129 66 0 16 1,.sl 130 67 0 16 1]))∧M'.m 64=some (.box 1 (.agg [aI 0,.nil 1,.nil 1,.nil 1]))) (fun a=>16 - a.1) (0,newM.cells,newM.isset,u)
    ⟨by omega,rfl,rfl,hu.mono (by omega),by simp only [go_sem,j0,j4,j5,g15,g16,gm,ga,gb,gc,gx,gz];try rfl,by simp only [go_sem,j0,j4,j5,g15,g16,gm,ga,gb,gc,gx,gz];try rfl,by simp only [go_sem,j0,j4,j5,g15,g16,gm,ga,gb,gc,gx,gz];try rfl,by simp only [go_sem,j0,j4,j5,g15,g16,gm,ga,gb,gc,gx,gz];try rfl,by simp only [go_sem,j0,j4,j5,g15,g16,gm,ga,gb,gc,gx,gz];try rfl,by simp only [go_sem,j0,j4,j5,g15,g16,gm,ga,gb,gc,gx,gz];try rfl,by simp only [go_sem,j0,j4,j5,g15,g16,gm,ga,gb,gc,gx,gz];try rfl,by simp only [go_sem,j0,j4,j5,g15,g16,gm,ga,gb,gc,gx,gz];try rfl⟩ ?_
   rintro ⟨i,e,b,u⟩ s3 M3 ⟨hi,he,hb,hu,g31,g32,gm,ga,gb,gc,gx,gz⟩ ho
   dsimp only at hi he hb hu g31 g32 gm ga gb gc gx gz
   unfold spec_pl1Cur_machine.b1
   have j0:s3 0=.ptr 0 0 0 none:=by rw [ho 0 rfl];simp only [go_sem,j0,j4,j5,g15,g16,gm,ga,gb,gc,gx,gz]
   have j4:s3 4=.ptr 64 1 0 none:=by rw [ho 4 rfl];simp only [go_sem,j0,j4,j5,g15,g16,gm,ga,gb,gc,gx,gz]
   have j5:s3 5=.ptr 192 129 0 none:=by rw [ho 5 rfl];simp only [go_sem,j0,j4,j5,g15,g16,gm,ga,gb,gc,gx,gz]
   clear ho
   by_cases hlt:(i:Int) < 16
   · have hw:IntKind.i64.wrap ((i:Int)+1)=((i+1:Nat):Int):=by rw [wrap_in (by omega) (by omega)];omega
     have fo:=spec_pl1Cur_one.fc u 2 (m:=m+32+14 * (16 - (i+1))) (hu.mono (by omega))
     have oo:CurOk (pickC u 2) (m+32+14 * (16 - (i+1))):=pickC_ok (hu.mono (by omega))
     generalize pickC u 2=u0 at fo oo
     obtain ⟨x,u2,hx,ou,fw⟩:=word_ex u0 (m:=m+20+14 * (16 - (i+1))) (oo.mono (by omega))
     have k1:([0]:List Nat).contains 192=false:=rfl
     have k2:([0]:List Nat).contains 129=false:=rfl
     obtain ⟨z,hgi⟩:∃ z,e[i]? = some z:=⟨_,List.getElem?_eq_getElem (by omega)⟩
     obtain ⟨z2,hg2⟩:∃ z,b[i]? = some z:=⟨_,List.getElem?_eq_getElem (by omega)⟩
     have h6:(i:Int) < ((16:Nat):Int):=by omega
     simp only [go_sem,hlt,j0,j4,j5,g15,g16,gm,ga,gb,gc,gx,gz,j0,j4,j5,g31,g32,gm,ga,gb,gc,gx,gz]
     refine coW_c fo ?_
     cases (pickV u 2 == 0) with
     | false =>
      simp only [go_sem,hw,j0,j4,j5,g15,g16,gm,ga,gb,gc,gx,gz,j0,j4,j5,g31,g32,gm,ga,gb,gc,gx,gz]
      exact ⟨(i+1,e,b,u0),by dsimp only;omega,by dsimp only;omega,he,hb,oo.mono (by omega),by simp only [go_sem,j0,j4,j5,g15,g16,gm,ga,gb,gc,gx,gz,j0,j4,j5,g31,g32,gm,ga,gb,gc,gx,gz],by simp only [go_sem,j0,j4,j5,g15,g16,gm,ga,gb,gc,gx,gz,j0,j4,j5,g31,g32,gm,ga,gb,gc,gx,gz],by simp only [go_sem,j0,j4,j5,g15,g16,gm,ga,gb,gc,gx,gz,j0,j4,j5,g31,g32,gm,ga,gb,gc,gx,gz];try rfl,by simp only [go_sem,j0,j4,j5,g15,g16,gm,ga,gb,gc,gx,gz,j0,j4,j5,g31,g32,gm,ga,gb,gc,gx,gz],by simp only [go_sem,j0,j4,j5,g15,g16,gm,ga,gb,gc,gx,gz,j0,j4,j5,g31,g32,gm,ga,gb,gc,gx,gz],by simp only [go_sem,j0,j4,j5,g15,g16,gm,ga,gb,gc,gx,gz,j0,j4,j5,g31,g32,gm,ga,gb,gc,gx,gz],by simp only [go_sem,j0,j4,j5,g15,g16,gm,ga,gb,gc,gx,gz,j0,j4,j5,g31,g32,gm,ga,gb,gc,gx,gz],by simp only [go_sem,j0,j4,j5,g15,g16,gm,ga,gb,gc,gx,gz,j0,j4,j5,g31,g32,gm,ga,gb,gc,gx,gz]⟩
     | true =>
      simp only [go_sem,j0,j4,j5,g15,g16,gm,ga,gb,gc,gx,gz,j0,j4,j5,g31,g32,gm,ga,gb,gc,gx,gz]
      refine coW_c fw ?_
      simp only [go_sem,hw,k1,k2,h6,hgi,hg2,j0,j4,j5,g15,g16,gm,ga,gb,gc,gx,gz,j0,j4,j5,g31,g32,gm,ga,gb,gc,gx,gz]
      exact ⟨(i+1,e.set i x,b.set i true,u2),by dsimp only;omega,by dsimp only;omega,by simp [he],by simp [hb],ou,by simp only [go_sem,j0,j4,j5,g15,g16,gm,ga,gb,gc,gx,gz,j0,j4,j5,g31,g32,gm,ga,gb,gc,gx,gz],by simp only [go_sem,j0,j4,j5,g15,g16,gm,ga,gb,gc,gx,gz,j0,j4,j5,g31,g32,gm,ga,gb,gc,gx,gz],by simp only [go_sem,j0,j4,j5,g15,g16,gm,ga,gb,gc,gx,gz,j0,j4,j5,g31,g32,gm,ga,gb,gc,gx,gz];try rfl,by simp only [go_sem,j0,j4,j5,g15,g16,gm,ga,gb,gc,gx,gz,j0,j4,j5,g31,g32,gm,ga,gb,gc,gx,gz],by simp only [go_sem,List.map_set,j0,j4,j5,g15,g16,gm,ga,gb,gc,gx,gz,j0,j4,j5,g31,g32,gm,ga,gb,gc,gx,gz],by simp only [go_sem,List.map_set,j0,j4,j5,g15,g16,gm,ga,gb,gc,gx,gz,j0,j4,j5,g31,g32,gm,ga,gb,gc,gx,gz],by simp only [go_sem,j0,j4,j5,g15,g16,gm,ga,gb,gc,gx,gz,j0,j4,j5,g31,g32,gm,ga,gb,gc,gx,gz],by simp only [go_sem,j0,j4,j5,g15,g16,gm,ga,gb,gc,gx,gz,j0,j4,j5,g31,g32,gm,ga,gb,gc,gx,gz]⟩
   · have fo:=spec_pl1Cur_one.fc u 30 (m:=m+18) (hu.mono (by omega))
     have oo:CurOk (pickC u 30) (m+18):=pickC_ok (hu.mono (by omega))
     generalize pickC u 30=u0 at fo oo
     have fa:=spec_pl1Cur_among.fc u0 [-1,65536] (by simp) (by simp) (m:=m+16) oo
     have oa:CurOk (pickC u0 2) (m+16):=pickC_ok oo
     generalize amongV u0 [-1,65536]=y at fa
     have k1:([0]:List Nat).contains 192=false:=rfl
     have k2:([0]:List Nat).contains 128=false:=rfl
     obtain ⟨z,hgi⟩:∃ z,l[0]? = some z:=⟨_,List.getElem?_eq_getElem (by omega)⟩
     have h6:(0:Int) < ((6:Nat):Int):=by omega
     have q6:6≤l.length:=by omega
     have qe:16≤e.length:=by omega
     have qb:16≤b.length:=by omega
     have tl:List.take 6 (List.map Ii l)=List.map Ii l:=List.take_of_length_le (by simp [hl])
     have te:List.take 16 (List.map Ii e)=List.map Ii e:=List.take_of_length_le (by simp [he])
     have tb:List.take 16 (List.map Bb b)=List.map Bb b:=List.take_of_length_le (by simp [hb])
     have ts:List.take 6 ((List.map Ii l).set 0 (Ii y))=List.map Ii (l.set 0 y):=by rw [← List.map_set];exact List.take_of_length_le (by simp [hl])
     have qs:6≤((List.map Ii l).set 0 (Ii y)).length:=by simp [hl]
     simp only [go_sem,hlt,j0,j4,j5,g15,g16,gm,ga,gb,gc,gx,gz,j0,j4,j5,g31,g32,gm,ga,gb,gc,gx,gz]
     refine coW_c fo ?_
     cases (pickV u 30 == 0) with
     | false =>
      simp only [go_sem,q6,qe,qb,tl,te,tb,j0,j4,j5,g15,g16,gm,ga,gb,gc,gx,gz,j0,j4,j5,g31,g32,gm,ga,gb,gc,gx,gz]
      exact ⟨⟨x1,l,e,b⟩,u0,rfl,rfl,hl,he,hb,oo.mono (by omega)⟩
     | true =>
      simp only [go_sem,j0,j4,j5,g15,g16,gm,ga,gb,gc,gx,gz,j0,j4,j5,g31,g32,gm,ga,gb,gc,gx,gz]
      refine coW_c fa ?_
      simp only [go_sem,k1,k2,h6,hgi,qs,qe,qb,ts,te,tb,j0,j4,j5,g15,g16,gm,ga,gb,gc,gx,gz,j0,j4,j5,g31,g32,gm,ga,gb,gc,gx,gz]
      exact ⟨⟨x1,l.set 0 y,e,b⟩,pickC u0 2,rfl,rfl,by simp [hl],he,hb,oa.mono (by omega)⟩
theorem dd_ex (code:List Int) (hl:code.length≤9223372036854775807) (h8:∀ b∈code,0≤b∧b≤255) :
 ∃ (p:List StepD) (ctx:List Int) (k:MachD),p.length≤20∧ctx.length=8∧k.regs.length=6∧k.cells.length=16∧k.isset.length=16 ∧
  FCt prog F_spec_DrawDoStep [.ro] [.sl 1 (code.map Ub)] (.tup [steps p,ints ctx,k.d]) []:=by
 obtain ⟨p,c1,pl,ok1,f1⟩:=prog_ex (curS code) (curS_ok hl h8 (by omega))
 have o1:CurOk c1 440:=ok1 440 (curS_ok hl h8 (by omega))
 obtain ⟨l,c2,ll,ok2,f2⟩:=ctx_ex c1 (o1.mono (by omega))
 have o2:CurOk c2 400:=ok2 400 o1
 obtain ⟨k,c3,k1,k2,k3,o3,f3⟩:=mach_ex c2 p.length (m:=0) o2
 refine ⟨p,l,k,pl,ll,k1,k2,k3,?_⟩
 refine fct_run spec_DrawDoStep.ok rfl ?_
 simp only [go_sem]
 refine coW_c f1 ?_
 simp only [go_sem,take_map_len]
 refine coW_c f2 ?_
 simp only [go_sem,take_map_len]
 refine coW_c f3 ?_
 simp only [go_sem,take_map_len]
theorem ff_ex (code:List Int) (hl:code.length≤9223372036854775807) (h8:∀ b∈code,0≤b∧b≤255) :
 ∃ (p:List StepD) (ctx:List Int),p.length≤20∧ctx.length=8∧FCt prog F_spec_DrawFaultFree [.ro] [.sl 1 (code.map Ub)] (.tup [steps p,ints ctx]) []:=by
 obtain ⟨p,l,h1,h2,f⟩:=tr_ex code hl h8
 refine ⟨p,l,h1,h2,?_⟩
 refine fct_run spec_DrawFaultFree.ok rfl ?_
 simp only [go_sem]
 refine fcW_bd f (noRs_t2 noRs_steps noRs_ints) ?_
 simp only [go_sem,take_map_len]
theorem spec_FaultFree.fcq (p:List StepD) (ctx:List Int) (hp:p.length≤4194304) (hc:ctx.length≤4194304):FCt prog F_spec_FaultFree [.ro,.ro] [steps p,ints ctx] (.tup [Bb ((runQV p ctx 100).2.2.2&&((runQV p ctx 100).2.1 == 0)),Bb (runQV p ctx 100).2.2.2]) []:=by
 refine fct_run spec_FaultFree.ok rfl ?_
 have c1:=spec_RunProgram.fcq p ctx 100 hp hc
 generalize runQV p ctx 100=T at c1 ⊢
 obtain ⟨t,f,g,ok⟩:=T
 unfold runQD at c1
 simp only [go_sem]
 refine fcW_bd c1 rfl ?_
 cases ok
 · simp only [go_sem];try rfl
 · simp only [go_sem];try rfl
set_option maxHeartbeats 4000000
theorem getD_set_ne {α:Type} {l:List α} {i k:Nat} {x d:α} (h:k≠i):(l.set i x).getD k d=l.getD k d:=by
 simp only [List.getD_eq_getElem?_getD,List.getElem?_set_ne (Ne.symm h)]
structure StLaw (s:StepD) (m:MachD) (r:MachD×Int×Bool):Prop where
 en:r.2.2=(s.kind == 11)
 nx:r.2.2=false→(nextsL s m.pc).any (· == r.1.pc)=true
 rg:∀ k:Nat,(k:Int)≠s.dst→r.1.regs.getD k 0=m.regs.getD k 0
 cl:∀ k:Nat,s.kind≠7∨(k:Int)≠s.imm→r.1.cells.getD k 0=m.cells.getD k 0∧r.1.isset.getD k false=m.isset.getD k false
theorem step_law {s:StepD} {ctx:List Int} {m:MachD} (ok:StepOk s) (kd:s.kind=1∨s.kind=2∨s.kind=3∨s.kind=4∨s.kind=5∨s.kind=6∨s.kind=7∨s.kind=8∨s.kind=9∨s.kind=10∨s.kind=11) (h:(stepM s ctx m).2.1=0):StLaw s m (stepM s ctx m):=by
 have hd:=ok.dst
 have hi:=ok.imm
 have h0:=hi.1
 have key:∀ (c:Prop) [Decidable c] (a b:MachD×Int×Bool),(c→a.2.1=0→StLaw s m a)→(¬ c→b.2.1=0→StLaw s m b)→(if c then a else b).2.1=0→StLaw s m (if c then a else b):=by
  intro c _ a b ha hb;split
  · rename_i h;exact ha h
  · rename_i h;exact hb h
 have kR:∀ n:Int,s.kind≠11→s.kind≠8→s.kind≠9→s.kind≠10→StLaw s m (setR m s.dst n,(0:Int),false):=fun n k1 k2 k3 k4=>by
  refine ⟨?_,fun _=>?_,fun k hk=>?_,fun k _=>⟨rfl,rfl⟩⟩
  · show false=(s.kind == 11);simp [k1]
  · simp [nextsL,k1,k2,k3,k4,setR]
  · exact getD_set_ne (by omega)
 have kC:∀ n:Int,s.kind=7→StLaw s m (setC m s.imm n,(0:Int),false):=fun n k1=>by
  refine ⟨?_,fun _=>?_,fun k hk=>rfl,fun k hk=>?_⟩
  · show false=(s.kind == 11);simp [k1]
  · simp [nextsL,k1,setC]
  · rcases hk with hk|hk
    · exact absurd k1 hk
    · exact ⟨getD_set_ne (by omega),getD_set_ne (by omega)⟩
 have kP:∀ n:Int,s.kind≠11→(nextsL s m.pc).any (· == n)=true→StLaw s m (setP m n,(0:Int),false):=fun n k1 k2=>by
  refine ⟨?_,fun _=>k2,fun k hk=>rfl,fun k _=>⟨rfl,rfl⟩⟩
  show false=(s.kind == 11);simp [k1]
 have kF:∀ (f:Int) (e:Bool),f≠0→f=0→StLaw s m (m,f,e):=fun f e hf h=>absurd h hf
 have kE:s.kind=11→StLaw s m (m,(0:Int),true):=fun k1=>by
  refine ⟨?_,fun h=>by (cases h),fun k hk=>rfl,fun k _=>⟨rfl,rfl⟩⟩
  show true=(s.kind == 11);simp [k1]
 revert h
 unfold stepM
 rcases kd with e|e|e|e|e|e|e|e|e|e|e<;>simp only [e,iB,if_true,if_false,Bool.false_eq_true,↓reduceIte]<;>(try rw [e] at kR kC kP kE)<;>(try simp only [e] at kR kC kP kE)
 · exact fun _=>kR _ (by omega) (by omega) (by omega) (by omega)
 · exact fun _=>kR _ (by omega) (by omega) (by omega) (by omega)
 · exact fun _=>kR _ (by omega) (by omega) (by omega) (by omega)
 · exact fun _=>kR _ (by omega) (by omega) (by omega) (by omega)
 · exact key _ _ _ (fun _=>kF 1 _ (by decide)) fun _ _=>kR _ (by omega) (by omega) (by omega) (by omega)
 · exact key _ _ _ (fun _=>kF 2 _ (by decide)) fun _=>key _ _ _ (fun _ _=>kR _ (by omega) (by omega) (by omega) (by omega)) fun _=>kF 3 _ (by decide)
 · exact key _ _ _ (fun _=>kF 2 _ (by decide)) fun _ _=>kC _ trivial
 · exact fun _=>kP _ (by omega) (by simp [nextsL,e])
 · exact key _ _ _ (fun _ _=>kP _ (by omega) (by simp [nextsL,e])) fun _ _=>kP _ (by omega) (by simp [nextsL,e])
 · exact key _ _ _ (fun _ _=>kP _ (by omega) (by simp [nextsL,e])) fun _ _=>kP _ (by omega) (by simp [nextsL,e])
 · exact fun _=>kE trivial
structure DoLaw (p:List StepD) (m:MachD) (r:MachD×Int×Bool×Bool) (s:StepD):Prop where
 gs:p[m.pc.toNat]? = some s
 pc:0≤m.pc∧m.pc < p.length
 p20:p.length≤20
 gp:goodP p=true
 sb:stepB s=true
 gm:goodMach r.1=true
 ln:MachLen r.1
 ml:MachLen m
 law:StLaw s m (r.1,0,r.2.2.1)
theorem do_law {p:List StepD} {ctx:List Int} {m:MachD} (hok:(doStepV p ctx m).2.2.2=true) (h0:(doStepV p ctx m).2.1=0):∃ s,DoLaw p m (doStepV p ctx m) s:=by
 unfold doStepV at hok h0 ⊢
 split
 case isFalse h=>rw [if_neg h] at hok;cases hok
 rename_i h
 rw [if_pos h] at hok h0
 split
 case isFalse h1 =>
  rw [if_neg h1] at h0
  exact absurd (by simpa using h0) h1
 rename_i h1
 simp only [doOk,Bool.and_eq_true,decide_eq_true_eq] at h
 obtain ⟨⟨⟨g1,g2⟩,g3⟩,g4⟩:=h
 have op:=prog_ok g1
 have om:=goodMach_ok g3
 have oc:=ctx_ok g2
 have p0:=om.pc.1
 have hi:m.pc.toNat < p.length:=by omega
 obtain ⟨hs,_⟩:=op.all m.pc.toNat hi
 have gs:p[m.pc.toNat]? = some p[m.pc.toNat]:=List.getElem?_eq_getElem hi
 have hk:=step_keeps op oc om g4
 have hst:stepAt p ctx m=stepM p[m.pc.toNat] ctx m:=by unfold stepAt;rw [gs]
 have h2:(stepM p[m.pc.toNat] ctx m).2.1=0:=by rw [← hst];simpa using h1
 have hl:=step_law (ctx:=ctx) (m:=m) (step_ok hs) (valid_kind (.inr hs)) h2
 refine ⟨p[m.pc.toNat],gs,⟨p0,g4⟩,op.len.2,g1,hs,mach_good hk.ok,hk.ok.len,om.len,?_⟩
 rw [hst]
 rcases hq:stepM p[m.pc.toNat] ctx m with ⟨a,b,c⟩
 rw [hq] at hl h2
 dsimp only at h2 ⊢
 subst h2
 exact hl
theorem nexts_len (s:StepD) (i:Int):(nextsL s i).length≤2:=by
 have key:∀ (c:Prop) [Decidable c] (a b:List Int),a.length≤2→b.length≤2→(if c then a else b).length≤2:=by
  intro c _ a b ha hb;split
  · exact ha
  · exact hb
 unfold nextsL
 repeat' (first|exact (by decide:(2:Nat)≤2)|exact (by decide:(1:Nat)≤2)|exact (by decide:(0:Nat)≤2)|apply key)
theorem impl_NextsOf.fc (p:List StepD) (i:Int) (s:StepD) (h0:0≤i) (h1:i < p.length) (hl:p.length≤20) (hs:p[i.toNat]? = some s) (hv:stepB s=true) (hg:goodP p=true) :
 FCt prog F_impl_NextsOf [.ro,.ro] [steps p,Ii i] (.tup [ints (nextsL s i),Bb true]) []:=by
 refine fct_run impl_NextsOf.ok rfl ?_
 have c1:=impl_GoodProgram.fc p (by omega)
 rw [hg] at c1
 have w:IntKind.i64.wrap ((p.length:Int) - 1)=p.length - 1:=wrap_in (by omega) (by omega)
 have c2:=impl_in.fc i 0 (p.length - 1)
 rw [show inB i 0 (p.length - 1)=true by simp only [inB,Bool.and_eq_true,decide_eq_true_eq];omega] at c2
 have c3:=impl_nexts.fc p i s h0 h1 hl hs hv
 simp only [go_sem]
 refine fcW_bool c1 ?_
 simp only [go_sem,w]
 refine fcW_bool c2 ?_
 simp only [go_sem]
 refine fcW_bd c3 noRs_ints ?_
 simp only [go_sem,take_map_len]
theorem hasByte {d:D} (h:HasTy (.int .u8) d):∃ n:Int,d=.int .u8 n∧(0≤n∧n≤255):=by
 simp only [HasTy] at h
 obtain ⟨n,rfl,h⟩:=h
 refine ⟨n,rfl,?_⟩
 simp [Lit.wf,IntKind.has,IntKind.min,IntKind.max,IntKind.signed,IntKind.bits] at h
 exact ⟨by omega,by omega⟩
theorem hasBytes {d:D} (h:HasTy (.sl (.int .u8)) d):∃ l:List Int,d=.sl 1 (l.map (fun n=>(.int .u8 n:D)))∧l.length≤9223372036854775807∧∀ b∈l,0≤b∧b≤255 :=
 hasSl (f:=fun n=>(.int .u8 n:D)) (p:=fun b=>0≤b∧b≤255) (fun _ h=>hasByte h) h
end Go.Vm.Ytmicgdfekpoajaa
