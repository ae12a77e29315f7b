/- The law FnExactMayTake returns true at all arguments (no condition); its row. -/
import Derived.Test.YtmbhjcgikblpiaaWkb
import Derived.Test.YtmbhjcgikblpiaaRows
open Nat renaming reduceEqDiff → nE, reduceAdd → nA, reduceMul → nM, reduceBEq → nB, reduceSub → nS, reduceLT → nL, reduceLeDiff → nD
open Int renaming reduceToNat → iT, reduceLE → iE, reduceLT → iL
open Option renaming getD_none → oN
namespace Go.Vm.Ytmbhjcgikblpiaa
open Go Go.Vm
set_option maxRecDepth 10000
set_option maxHeartbeats 4000000
set_option linter.unusedSimpArgs false
set_option linter.unusedVariables false
theorem laws_FnExactMayTake.fc (p:List StepD) (w:WayD) (wp:p.length≤9223372036854775807) (ww:wfWay w) :
    FCt prog F_laws_FnExactMayTake [.ro,.ro] [steps p,WayD.d w] (Bb true) []:=by
  refine fct_run laws_FnExactMayTake.ok rfl ?_
  simp only [go_sem,↓reduceIte,nE,nA,nM,nB,oN,iT,nS,nL,nD,iE,iL,reduceCtorEq]
  refine fcW_int (laws_szStepS.fcu p _ (by omega) wp) ?_
  by_cases zp:(1048576:Int) < (p.length:Nat)
  · rw [if_pos zp];simp only [go_sem,↓reduceIte,nE,nA,nM,nB,oN,iT,nS,nL,nD,iE,iL,reduceCtorEq]
  have op:p.length≤1048576:=by omega
  rw [if_neg zp]
  have yp:¬ ((1048576:Int) - (p.length:Nat) < 0):=by omega
  simp only [go_sem,↓reduceIte,nE,nA,nM,nB,oN,iT,nS,nL,nD,iE,iL,reduceCtorEq,yp]
  refine fcW_int (laws_szWay.fcu w _ (by omega) ww) ?_
  by_cases zw:(1048576:Int) - (p.length:Nat) < (wWay w:Nat)
  · rw [if_pos zw];simp only [go_sem,↓reduceIte,nE,nA,nM,nB,oN,iT,nS,nL,nD,iE,iL,reduceCtorEq,yp]
  have ow:wWay w≤1048576:=by omega
  rw [if_neg zw]
  have yw:¬ ((1048576:Int) - (p.length:Nat) - (wWay w:Nat) < 0):=by omega
  simp only [go_sem,↓reduceIte,nE,nA,nM,nB,oN,iT,nS,nL,nD,iE,iL,reduceCtorEq,yp,yw]
  have hw':wWay w≤4194304:=by omega
  have hs:=spec_MayTake.fc p w (by omega) hw'
  have hi:=impl_MayTake.fc p w (by omega) hw'
  generalize takeV p w=R0 at hs hi
  generalize goodW p w=R1 at hs hi
  have hnr:noRs (.tup [Bb R0,Bb R1])=true:=rfl
  refine fcW_bd (laws_toStepS.fcu p op) noRs_steps ?_
  simp only [go_sem,↓reduceIte,nE,nA,nM,nB,oN,iT,nS,nL,nD,iE,iL,reduceCtorEq,yp,yw,take_map_len]
  refine fcW_bd (laws_toWay.fcu w ow) noRs_Way ?_
  simp only [go_sem,↓reduceIte,nE,nA,nM,nB,oN,iT,nS,nL,nD,iE,iL,reduceCtorEq,yp,yw,take_map_len]
  refine fcW_bd hs hnr ?_
  simp only [go_sem,↓reduceIte,nE,nA,nM,nB,oN,iT,nS,nL,nD,iE,iL,reduceCtorEq,yp,yw,take_map_len]
  refine fcW_bd (laws_toStepS.fcu p op) noRs_steps ?_
  simp only [go_sem,↓reduceIte,nE,nA,nM,nB,oN,iT,nS,nL,nD,iE,iL,reduceCtorEq,yp,yw,take_map_len]
  refine fcW_bd (laws_toWay.fcu w ow) noRs_Way ?_
  simp only [go_sem,↓reduceIte,nE,nA,nM,nB,oN,iT,nS,nL,nD,iE,iL,reduceCtorEq,yp,yw,take_map_len]
  refine fcW_bd hi hnr ?_
  simp only [go_sem,↓reduceIte,nE,nA,nM,nB,oN,iT,nS,nL,nD,iE,iL,reduceCtorEq,yp,yw,take_map_len]
  refine fcW_bd (laws_toStepS.fcu p op) noRs_steps ?_
  simp only [go_sem,↓reduceIte,nE,nA,nM,nB,oN,iT,nS,nL,nD,iE,iL,reduceCtorEq,yp,yw,take_map_len]
  refine fcW_bool (laws_eqStepS.fcu p op) ?_
  simp only [go_sem,↓reduceIte,nE,nA,nM,nB,oN,iT,nS,nL,nD,iE,iL,reduceCtorEq,yp,yw,take_map_len]
  refine fcW_bd (laws_toWay.fcu w ow) noRs_Way ?_
  simp only [go_sem,↓reduceIte,nE,nA,nM,nB,oN,iT,nS,nL,nD,iE,iL,reduceCtorEq,yp,yw,take_map_len]
  refine fcW_bool (laws_eqWay.fcu w ow) ?_
  simp only [go_sem,↓reduceIte,nE,nA,nM,nB,oN,iT,nS,nL,nD,iE,iL,reduceCtorEq,yp,yw,take_map_len]
end Go.Vm.Ytmbhjcgikblpiaa
namespace Go.Proofs.Ytmbhjcgikblpiaa
open Go Go.Vm
theorem mayTake_own:ownKnob Try.prog.godebug=none:=by kernel_rfl
theorem mayTake_laid:laidOutB Try.prog=true:=by kernel_rfl
set_option maxRecDepth 100000 in
theorem mayTake_lifted (os:Os) (started:os.Started) (H:Type) (enc:TypeId×Value→H) :
    ReturnsInHanded {} Try.checked os 3 .any (Rows.fnExactMayTakeSpec.pre6 enc Try.prog Try.f3 Rows.fnExactMayTakeRow.domain false) (Rows.fnExactMayTakeSpec.post enc Try.prog Try.f3 false true false false):=by
  refine returnsInHanded_of_change_sized (C:=Try.checked) mayTake_own started (by kernel_rfl) Try.func3
    (ChangeSpec.witness6 (enc:=enc) (C:=Try.checked) false ⟨#[],#[.slice none 0 0,.agg #[.slice none 0 0,.slice none 0 0]],[]⟩ 8 (by kernel_rfl) (by kernel_rfl) (by kernel_rfl) (by kernel_rfl)) ?_
  intro W base args ds gs before hval hW _ _ _
  refine law_contract (C:=Try.checked) (f:=3) [.sl Vm.Ytmbhjcgikblpiaa.TyStep,Vm.Ytmbhjcgikblpiaa.TyWay] (rt:=4) rfl (by kernel_rfl) rfl (by kernel_rfl) mayTake_laid (fun H ds h=>?_) (fun ds h=>?_) hval hW
  · match ds,h with
    | [_,_],_=>rfl
  · simp only [HasTys] at h
    obtain ⟨d1,ds1,rfl,h1,d2,ds2,rfl,h2,rfl⟩:=h
    obtain ⟨p,rfl,wp⟩:=Vm.Ytmbhjcgikblpiaa.hasStepS h1
    obtain ⟨w,rfl,ww⟩:=Vm.Ytmbhjcgikblpiaa.hasWay h2
    exact Vm.Ytmbhjcgikblpiaa.laws_FnExactMayTake.fc p w wp ww
theorem mayTake_over:Rows.fnExactMayTakeRow.holds Try.pinned (OpenSpec.ofChange Rows.fnExactMayTakeSpec) :=
  OpenClaim.holds_of_wide 3 Try.f3 rfl rfl rfl rfl rfl rfl rfl ⟨rfl,rfl,rfl,rfl,rfl⟩ rfl rfl rfl rfl rfl (by kernel_rfl) Try.func3 (by kernel_rfl)
    (of_decide_eq_true (by kernel_rfl)) (by unfold Func.isWrapper;first|(rw [if_pos (by decide +kernel)];kernel_rfl)|(rw [if_neg (by decide +kernel)];exact ⟨rfl,rfl⟩))
    (fun os started H enc _=>mayTake_lifted os started H enc)
theorem mayTake_holds:Rows.FnExactMayTakeSaid:=mayTake_over
#print axioms mayTake_holds
end Go.Proofs.Ytmbhjcgikblpiaa
