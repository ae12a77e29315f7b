/- The law FnExactJudgeProgram returns true at all arguments (no condition); its row. -/
import Derived.Test.YtmbhjcgikblpiaaGreatWkc
import Derived.Test.YtmbhjcgikblpiaaGreatRows
open Nat renaming reduceEqDiff → nE, reduceAdd → nA, reduceMul → nM, reduceBEq → nB, reduceSub → nS, reduceLT → nL, reduceLeDiff → nD
open Int renaming reduceToNat → iT, reduceLE → iE, reduceLT → iL
open Option renaming getD_none → oN
namespace Go.Vm.YtmbhjcgikblpiaaGreat
open Go Go.Vm
set_option maxRecDepth 10000
set_option maxHeartbeats 4000000
set_option linter.unusedSimpArgs false
set_option linter.unusedVariables false
theorem laws_FnExactJudgeProgram.fc (p:List StepD) (wp:p.length≤9223372036854775807) :
    FCt prog F_laws_FnExactJudgeProgram [.ro] [steps p] (Bb true) []:=by
  refine fct_run laws_FnExactJudgeProgram.ok rfl ?_
  simp only [go_sem,↓reduceIte,nE,nA,nM,nB,oN,iT,nS,nL,nD,iE,iL,reduceCtorEq]
  refine fcW_int (laws_szStepS.fcu p _ (by omega) wp) ?_
  by_cases zp:(1048576:Int) < (p.length:Nat)
  · rw [if_pos zp];simp only [go_sem,↓reduceIte,nE,nA,nM,nB,oN,iT,nS,nL,nD,iE,iL,reduceCtorEq]
  have op:p.length≤1048576:=by omega
  rw [if_neg zp]
  have yp:¬ ((1048576:Int) - (p.length:Nat) < 0):=by omega
  simp only [go_sem,↓reduceIte,nE,nA,nM,nB,oN,iT,nS,nL,nD,iE,iL,reduceCtorEq,yp]
  have hs:=spec_JudgeProgram.fc p (by omega)
  have hi:=impl_JudgeProgram.fc p (by omega)
  have o0:=judgeV_w p
  have o0:wVerdict (judgeV p)≤1048576:=by unfold wVerdict;omega
  generalize judgeV p=R0 at hs hi o0
  generalize goodP p=R1 at hs hi
  have hnr:noRs (.tup [VerD.d R0,Bb R1])=true:=noRs_t2 noRs_Verdict rfl
  refine fcW_bd (laws_toStepS.fcu p op) noRs_steps ?_
  simp only [go_sem,↓reduceIte,nE,nA,nM,nB,oN,iT,nS,nL,nD,iE,iL,reduceCtorEq,yp,take_map_len,mkIntS_len,mkStepS_len,mkIntS_take,mkStepS_take]
  refine fcW_bd hs hnr ?_
  simp only [go_sem,↓reduceIte,nE,nA,nM,nB,oN,iT,nS,nL,nD,iE,iL,reduceCtorEq,yp,take_map_len,mkIntS_len,mkStepS_len,mkIntS_take,mkStepS_take]
  refine fcW_bd (laws_toStepS.fcu p op) noRs_steps ?_
  simp only [go_sem,↓reduceIte,nE,nA,nM,nB,oN,iT,nS,nL,nD,iE,iL,reduceCtorEq,yp,take_map_len,mkIntS_len,mkStepS_len,mkIntS_take,mkStepS_take]
  refine fcW_bd hi hnr ?_
  simp only [go_sem,↓reduceIte,nE,nA,nM,nB,oN,iT,nS,nL,nD,iE,iL,reduceCtorEq,yp,take_map_len,mkIntS_len,mkStepS_len,mkIntS_take,mkStepS_take]
  refine fcW_bool (laws_eqVerdict.fcu R0 o0) ?_
  simp only [go_sem,↓reduceIte,nE,nA,nM,nB,oN,iT,nS,nL,nD,iE,iL,reduceCtorEq,yp,take_map_len,mkIntS_len,mkStepS_len,mkIntS_take,mkStepS_take]
  refine fcW_bd (laws_toStepS.fcu p op) noRs_steps ?_
  simp only [go_sem,↓reduceIte,nE,nA,nM,nB,oN,iT,nS,nL,nD,iE,iL,reduceCtorEq,yp,take_map_len,mkIntS_len,mkStepS_len,mkIntS_take,mkStepS_take]
  refine fcW_bool (laws_eqStepS.fcu p op) ?_
  simp only [go_sem,↓reduceIte,nE,nA,nM,nB,oN,iT,nS,nL,nD,iE,iL,reduceCtorEq,yp,take_map_len,mkIntS_len,mkStepS_len,mkIntS_take,mkStepS_take]
  refine coW_of (laws_markStepS.fcu p (1) op (by omega) (by omega)) rfl (by simp only [noRsL,noRs_steps,Bool.and_self]) ?_
  have hn1:¬ ((1+((6 * p.length):Nat):Int) < 0):=by omega
  simp only [go_sem,↓reduceIte,nE,nA,nM,nB,oN,iT,nS,nL,nD,iE,iL,reduceCtorEq,hn1,yp,take_map_len,mkIntS_len,mkStepS_len,mkIntS_take,mkStepS_take]
  refine fcW_bool (laws_eqVerdict.fcu R0 o0) ?_
  simp only [go_sem,↓reduceIte,nE,nA,nM,nB,oN,iT,nS,nL,nD,iE,iL,reduceCtorEq,yp,take_map_len,mkIntS_len,mkStepS_len,mkIntS_take,mkStepS_take]
  have hc2:=cVerdict_le R0
  refine coW_of (laws_markVerdict.fcu R0 (1) o0 (by omega) (by omega)) rfl (by simp only [noRsL,noRs_Verdict,Bool.and_self]) ?_
  have hn2:¬ ((1+(cVerdict R0:Nat):Int) < 0):=by omega
  simp only [go_sem,↓reduceIte,nE,nA,nM,nB,oN,iT,nS,nL,nD,iE,iL,reduceCtorEq,hn2,mkVerdict,yp,take_map_len,mkIntS_len,mkStepS_len,mkIntS_take,mkStepS_take]
  have hc3:=cVerdict_le R0
  refine fcW_int (laws_heldVerdict.fcu R0 (1) o0 (by omega) (by omega)) ?_
  have hn3:¬ ((1+(cVerdict R0:Nat):Int) < 0):=by omega
  simp only [go_sem,↓reduceIte,nE,nA,nM,nB,oN,iT,nS,nL,nD,iE,iL,reduceCtorEq,hn3,mkVerdict,yp,take_map_len,mkIntS_len,mkStepS_len,mkIntS_take,mkStepS_take]
  refine fcW_bd (laws_toStepS.fcu p op) noRs_steps ?_
  simp only [go_sem,↓reduceIte,nE,nA,nM,nB,oN,iT,nS,nL,nD,iE,iL,reduceCtorEq,yp,take_map_len,mkIntS_len,mkStepS_len,mkIntS_take,mkStepS_take]
  refine fcW_bd hi hnr ?_
  simp only [go_sem,↓reduceIte,nE,nA,nM,nB,oN,iT,nS,nL,nD,iE,iL,reduceCtorEq,yp,take_map_len,mkIntS_len,mkStepS_len,mkIntS_take,mkStepS_take]
  refine fcW_bool (laws_eqVerdict.fcu R0 o0) ?_
  simp only [go_sem,↓reduceIte,nE,nA,nM,nB,oN,iT,nS,nL,nD,iE,iL,reduceCtorEq,yp,take_map_len,mkIntS_len,mkStepS_len,mkIntS_take,mkStepS_take]
  have hc4:=cVerdict_le R0
  refine fcW_int (laws_heldVerdict.fcu R0 (1) o0 (by omega) (by omega)) ?_
  have hn4:¬ ((1+(cVerdict R0:Nat):Int) < 0):=by omega
  simp only [go_sem,↓reduceIte,nE,nA,nM,nB,oN,iT,nS,nL,nD,iE,iL,reduceCtorEq,hn4,mkVerdict,yp,take_map_len,mkIntS_len,mkStepS_len,mkIntS_take,mkStepS_take]
end Go.Vm.YtmbhjcgikblpiaaGreat
namespace Go.Proofs.YtmbhjcgikblpiaaGreat
open Go Go.Vm
theorem judgeProgram_own:ownKnob Tryz.prog.godebug=none:=by kernel_rfl
theorem judgeProgram_laid:laidOutB Tryz.prog=true:=by kernel_rfl
set_option maxRecDepth 100000 in
theorem judgeProgram_lifted (os:Os) (started:os.Started) (H:Type) (enc:TypeId×Value→H) :
    ReturnsInHanded {} Tryz.checked os 4 .any (Rows.fnExactJudgeProgramSpec.pre6 enc Tryz.prog Tryz.f4 Rows.fnExactJudgeProgramRow.domain false) (Rows.fnExactJudgeProgramSpec.post enc Tryz.prog Tryz.f4 false true false false):=by
  refine returnsInHanded_of_change_sized (C:=Tryz.checked) judgeProgram_own started (by kernel_rfl) Tryz.func4
    (ChangeSpec.witness6 (enc:=enc) (C:=Tryz.checked) false ⟨#[],#[.slice none 0 0],[]⟩ 8 (by kernel_rfl) (by kernel_rfl) (by kernel_rfl) (by kernel_rfl)) ?_
  intro W base args ds gs before hval hW _ _ _
  refine law_contract (C:=Tryz.checked) (f:=4) [.sl Vm.YtmbhjcgikblpiaaGreat.TyStep] (rt:=4) rfl (by kernel_rfl) rfl (by kernel_rfl) judgeProgram_laid (fun H ds h=>?_) (fun ds h=>?_) hval hW
  · match ds,h with
    | [_],_=>rfl
  · simp only [HasTys] at h
    obtain ⟨d1,ds1,rfl,h1,rfl⟩:=h
    obtain ⟨p,rfl,wp⟩:=Vm.YtmbhjcgikblpiaaGreat.hasStepS h1
    exact Vm.YtmbhjcgikblpiaaGreat.laws_FnExactJudgeProgram.fc p wp
theorem judgeProgram_over:Rows.fnExactJudgeProgramRow.holds Tryz.pinned (OpenSpec.ofChange Rows.fnExactJudgeProgramSpec) :=
  OpenClaim.holds_of_wide 4 Tryz.f4 rfl rfl rfl rfl rfl rfl rfl ⟨rfl,rfl,rfl,rfl,rfl⟩ rfl rfl rfl rfl rfl (by kernel_rfl) Tryz.func4 (by kernel_rfl)
    (of_decide_eq_true (by kernel_rfl)) (by unfold Func.isWrapper;first|(rw [if_pos (by decide +kernel)];kernel_rfl)|(rw [if_neg (by decide +kernel)];exact ⟨rfl,rfl⟩))
    (fun os started H enc _=>judgeProgram_lifted os started H enc)
theorem judgeProgram_holds:Rows.FnExactJudgeProgramSaid:=judgeProgram_over
#print axioms judgeProgram_holds
end Go.Proofs.YtmbhjcgikblpiaaGreat
