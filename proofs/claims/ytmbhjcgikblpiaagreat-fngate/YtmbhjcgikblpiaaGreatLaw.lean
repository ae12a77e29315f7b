/- The law FnGate returns true at all arguments; its row. -/
import Derived.Test.YtmbhjcgikblpiaaGreatWkd
import Derived.Test.YtmbhjcgikblpiaaGreatRows
open Int renaming reduceEq → iQ, reduceBEq → iB, reduceBNe → iX, reduceNeg → iN, reduceAdd → iA, reduceSub → iS, reduceMul → iM
namespace Go.Vm.YtmbhjcgikblpiaaGreat
open Go Go.Vm
set_option maxRecDepth 10000
set_option maxHeartbeats 16000000
set_option linter.unusedSimpArgs false
set_option linter.unusedVariables false
theorem noRs_rl {s:List UInt8} {l:List Int}:noRs (.tup [strU s,ints l])=true:=noRs_t2 rfl noRs_ints
theorem noRs_rd {p:List StepD} {a:Int} {b:Bool}:noRs (.tup [steps p,Ii a,Bb b])=true:=noRs_t3 noRs_steps rfl rfl
theorem let_run {l:List UInt8} {ctx:List Int} (h:(judgeB l).2=true) (hk:(judgeB l).1.kind=1) (h3:(runPV (readV l).1 ctx 100).2.2.2=true):(runPV (readV l).1 ctx 100).2.1=0:=by
 unfold runPV at h3 ⊢
 split at h3
 · rename_i c
   rw [if_pos c]
   rw [Bool.and_eq_true] at c
   exact let_sound h hk c.2
 · cases h3
theorem away_run {l:List UInt8} (h:(judgeB l).2=true) (hk:(judgeB l).1.kind=2):(runPV (readV l).1 (judgeB l).1.wit 100).2.2.2=true∧(runPV (readV l).1 (judgeB l).1.wit 100).2.1=(judgeB l).1.fault∧(runPV (readV l).1 (judgeB l).1.wit 100).2.2.1=(judgeB l).1.pc∧(judgeB l).1.fault > 0:=by
 obtain ⟨h1,h2,h3,h4,h5⟩:=judgeB_away h hk
 unfold runPV
 rw [h1,h2]
 exact ⟨rfl,h3,h4,h5⟩
theorem runL_zero {l:List UInt8} {ctx:List Int} (h:(runLV l ctx).2.2=true):(runLV l ctx).2.1=0:=by
 unfold runLV at h ⊢
 split at h
 · rename_i c
   rw [if_pos c]
   rw [Bool.and_eq_true,Bool.and_eq_true] at c
   exact let_sound c.1.1 (eq_of_beq c.1.2) c.2
 · cases h
theorem laws_FnGate.fc (code more:List Int) (wc:code.length≤9223372036854775807) (wm:more.length≤9223372036854775807) (bc:∀ b∈code,0≤b∧b≤255) (bm:∀ b∈more,0≤b∧b≤255) :
 FCt prog F_laws_FnGate [.ro,.ro] [.sl 1 (code.map Ub),.sl 1 (more.map Ub)] (Bb true) []:=by
 obtain ⟨s,sl,f1⟩:=jb_ex code wc bc
 obtain ⟨t,ctx,tl,cl,f2⟩:=rl_ex more wm bm
 have wl:=judgeB_w s
 have pl:=readV_len s
 have j1:=impl_JudgeBytes.fc s (by omega)
 have j2:=spec_JudgeBytes.fc s (by omega)
 have sv:=laws_sameVerdict.fc (judgeB s).1 (by omega)
 have c1:=impl_CheckVerdict.fc s (judgeB s).1 (by omega) (by omega)
 have rp:=impl_ReadProgram.fc s (by omega)
 have r1:=impl_RunProgram.fc (readV s).1 ctx 100 (by omega) (by omega) (by omega)
 have r2:=impl_RunProgram.fc (readV s).1 (judgeB s).1.wit 100 (by omega) (by omega) (by omega)
 have l1:=impl_RunLet.fc t ctx (by omega) (by omega)
 have l2:=spec_RunLet.fc t ctx (by omega) (by omega)
 have k1:=judge_check (l:=s)
 have k2:=judge_broken (l:=s)
 have k3:=let_run (l:=s) (ctx:=ctx)
 have k4:=away_run (l:=s)
 have k5:=runL_zero (l:=t) (ctx:=ctx)
 rw [show ((100:Nat):Int)=100 from rfl] at r1 r2
 unfold checkD at c1
 unfold judgeD at j1 j2
 unfold readD at rp
 unfold runPD at r1 r2
 unfold runLD at l1 l2
 generalize checkV s (judgeB s).1=C at c1 k1
 obtain ⟨C0,C1⟩:=C
 generalize runPV (readV s).1 ctx 100=P1 at r1 k3
 obtain ⟨a0,a1,a2,a3⟩:=P1
 generalize runPV (readV s).1 (judgeB s).1.wit 100=P2 at r2 k4
 obtain ⟨b0,b1,b2,b3⟩:=P2
 generalize runLV t ctx=L at l1 l2 k5
 obtain ⟨q0,q1,q2⟩:=L
 generalize judgeB s=J at j1 j2 sv c1 r2 k1 k2 k3 k4 wl
 obtain ⟨⟨jk,jc,jw,jf,jp,js⟩,jo⟩:=J
 generalize readV s=Rd at rp r1 r2 k2 pl
 obtain ⟨p,pe,po⟩:=Rd
 dsimp only at *
 have jj:(jo != jo)=false:=by simp
 have jj2:(jo == jo)=true:=by simp
 have qq:(q2 == q2)=true:=by simp
 have nt:(true != false)=true:=rfl
 have qq0:(q0 == q0)=true:=by simp
 have qq1:(q1 == q1)=true:=by simp
 refine fct_run laws_FnGate.ok rfl ?_
 simp only [go_sem]
 refine cdW_any (fun e=>?_) (fun e=>?_)
 · simp only [go_sem];try rfl
 simp only [go_sem,take_map_len]
 refine fcW_str f1 ?_
 simp only [go_sem,take_map_len]
 refine fcW_bd j1 noRs_ver2 ?_
 simp only [go_sem,take_map_len]
 refine fcW_bd j2 noRs_ver2 ?_
 simp only [go_sem,take_map_len,jj,jj2]
 refine fcW_bool sv ?_
 simp only [go_sem,take_map_len]
 cases jo
 · simp only [go_sem]
   refine fcW_bd f2 noRs_rl ?_
   simp only [go_sem,take_map_len]
   refine fcW_bd l1 rfl ?_
   simp only [go_sem,take_map_len]
   refine fcW_bd l2 rfl ?_
   simp only [go_sem,take_map_len,qq,qq0,qq1,nt]
   cases q2
   · simp only [go_sem];try rfl
   · obtain rfl:=k5 rfl
     simp only [go_sem];try rfl
 · have z:=k1 rfl
   obtain ⟨rfl,rfl⟩:C0=true∧C1=true:=⟨congrArg Prod.fst z,congrArg Prod.snd z⟩
   have k2:=k2 rfl
   simp only [go_sem,take_map_len]
   refine fcW_bd c1 rfl ?_
   simp only [go_sem,take_map_len]
   refine fcW_bd rp noRs_rd ?_
   simp only [go_sem,take_map_len,k2]
   refine fcW_bd f2 noRs_rl ?_
   simp only [go_sem,take_map_len]
   refine fcW_bd r1 rfl ?_
   simp only [go_sem,take_map_len]
   cases hk:(jk == 1)
   · simp only [go_sem,hk]
     cases hk2:(jk == 2)
     · simp only [go_sem,hk2]
       refine fcW_bd f2 noRs_rl ?_
       simp only [go_sem,take_map_len]
       refine fcW_bd l1 rfl ?_
       simp only [go_sem,take_map_len]
       refine fcW_bd l2 rfl ?_
       simp only [go_sem,take_map_len,qq,qq0,qq1,nt]
       cases q2
       · simp only [go_sem];try rfl
       · obtain rfl:=k5 rfl
         simp only [go_sem];try rfl
     · obtain ⟨rfl,rfl,rfl,h4⟩:=k4 rfl (eq_of_beq hk2)
       have n0:(b1 == 0)=false:=by simp;omega
       have n1:(b1 != b1)=false:=by simp
       have n2:(b2 != b2)=false:=by simp
       simp only [go_sem,hk2,take_map_len]
       refine fcW_bd r2 rfl ?_
       simp only [go_sem,n0,n1,n2]
       refine fcW_bd f2 noRs_rl ?_
       simp only [go_sem,take_map_len]
       refine fcW_bd l1 rfl ?_
       simp only [go_sem,take_map_len]
       refine fcW_bd l2 rfl ?_
       simp only [go_sem,take_map_len,qq,qq0,qq1,nt]
       cases q2
       · simp only [go_sem];try rfl
       · obtain rfl:=k5 rfl
         simp only [go_sem];try rfl
   · have hk2:(jk == 2)=false:=by rw [eq_of_beq hk];rfl
     cases a3
     · simp only [go_sem,hk,hk2]
       refine fcW_bd f2 noRs_rl ?_
       simp only [go_sem,take_map_len]
       refine fcW_bd l1 rfl ?_
       simp only [go_sem,take_map_len]
       refine fcW_bd l2 rfl ?_
       simp only [go_sem,take_map_len,qq,qq0,qq1,nt]
       cases q2
       · simp only [go_sem];try rfl
       · obtain rfl:=k5 rfl
         simp only [go_sem];try rfl
     · obtain rfl:=k3 rfl (eq_of_beq hk) rfl
       have z0:¬ ((0:Int) > 0):=by decide
       simp only [go_sem,hk,hk2,z0]
       refine fcW_bd f2 noRs_rl ?_
       simp only [go_sem,take_map_len]
       refine fcW_bd l1 rfl ?_
       simp only [go_sem,take_map_len]
       refine fcW_bd l2 rfl ?_
       simp only [go_sem,take_map_len,qq,qq0,qq1,nt]
       cases q2
       · simp only [go_sem];try rfl
       · obtain rfl:=k5 rfl
         simp only [go_sem];try rfl
end Go.Vm.YtmbhjcgikblpiaaGreat
namespace Go.Proofs.YtmbhjcgikblpiaaGreat
open Go Go.Vm
theorem gate_own:ownKnob Tryz.prog.godebug=none:=by kernel_rfl
theorem gate_laid:laidOutB Tryz.prog=true:=by kernel_rfl
set_option maxRecDepth 100000 in
theorem gate_lifted (os:Os) (started:os.Started) (H:Type) (enc:TypeId×Value→H) :
 ReturnsInHanded {} Tryz.checked os 9 .any (Rows.fnGateSpec.pre6 enc Tryz.prog Tryz.f9 Rows.fnGateRow.domain false) (Rows.fnGateSpec.post enc Tryz.prog Tryz.f9 false true false false):=by
 refine returnsInHanded_of_change_sized (C:=Tryz.checked) gate_own started (by kernel_rfl) Tryz.func9
  (ChangeSpec.witness6 (enc:=enc) (C:=Tryz.checked) false ⟨#[],#[.slice none 0 0,.slice none 0 0],[]⟩ 8 (by kernel_rfl) (by kernel_rfl) (by kernel_rfl) (by kernel_rfl)) ?_
 intro W base args ds gs before hval hW _ _ _
 refine law_contract (C:=Tryz.checked) (f:=9) [.sl (.int .u8),.sl (.int .u8)] (rt:=4) rfl (by kernel_rfl) rfl (by kernel_rfl) gate_laid (fun H ds h=>?_) (fun ds h=>?_) hval hW
 · match ds,h with
   | [_,_],_=>rfl
 · simp only [HasTys] at h
   obtain ⟨d1,ds1,rfl,h1,d2,ds2,rfl,h2,rfl⟩:=h
   obtain ⟨code,rfl,wc,bc⟩:=Vm.YtmbhjcgikblpiaaGreat.hasBytes h1
   obtain ⟨more,rfl,wm,bm⟩:=Vm.YtmbhjcgikblpiaaGreat.hasBytes h2
   exact Vm.YtmbhjcgikblpiaaGreat.laws_FnGate.fc code more wc wm bc bm
theorem gate_over:Rows.fnGateRow.holds Tryz.pinned (OpenSpec.ofChange Rows.fnGateSpec) :=
 OpenClaim.holds_of_wide 9 Tryz.f9 rfl rfl rfl rfl rfl rfl rfl ⟨rfl,rfl,rfl,rfl,rfl⟩ rfl rfl rfl rfl rfl (by kernel_rfl) Tryz.func9 (by kernel_rfl)
  (of_decide_eq_true (by kernel_rfl)) (by unfold Func.isWrapper;first|(rw [if_pos (by decide +kernel)];kernel_rfl)|(rw [if_neg (by decide +kernel)];exact ⟨rfl,rfl⟩))
  (fun os started H enc _=>gate_lifted os started H enc)
theorem gate_holds:Rows.FnGateSaid:=gate_over
#print axioms gate_holds
end Go.Proofs.YtmbhjcgikblpiaaGreat
