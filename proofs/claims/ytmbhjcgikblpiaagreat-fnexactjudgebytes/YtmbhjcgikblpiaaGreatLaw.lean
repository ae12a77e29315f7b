/- The law FnExactJudgeBytes returns true at all arguments (no condition); its row. -/
import Derived.Test.YtmbhjcgikblpiaaGreatWkc
import Derived.Test.YtmbhjcgikblpiaaGreatRows
open Nat renaming reduceEqDiff → nE, reduceAdd → nA, reduceMul → nM, reduceBEq → nB, reduceSub → nS, reduceLT → nL, reduceLeDiff → nD
open Int renaming reduceToNat → iT, reduceLE → iE, reduceLT → iL
open Option renaming getD_none → oN
namespace Go.Vm.YtmbhjcgikblpiaaGreat
open Go Go.Vm
set_option maxRecDepth 10000
set_option maxHeartbeats 4000000
set_option linter.unusedSimpArgs false
set_option linter.unusedVariables false
theorem laws_FnExactJudgeBytes.fc (s:List UInt8) :
    FCt prog F_laws_FnExactJudgeBytes [.ro] [strU s] (Bb true) []:=by
  refine fct_run laws_FnExactJudgeBytes.ok rfl ?_
  simp only [go_sem,↓reduceIte,nE,nA,nM,nB,oN,iT,nS,nL,nD,iE,iL,reduceCtorEq]
  have ss:=strL_len s
  by_cases zs:(s.length:Int) > 1048576
  · simp only [go_sem,↓reduceIte,nE,nA,nM,nB,oN,iT,nS,nL,nD,iE,iL,reduceCtorEq,ss,zs]
  have os:s.length≤1048576:=by omega
  simp only [go_sem,↓reduceIte,nE,nA,nM,nB,oN,iT,nS,nL,nD,iE,iL,reduceCtorEq,ss,zs]
  have hs:=spec_JudgeBytes.fc s (by omega)
  have hi:=impl_JudgeBytes.fc s (by omega)
  have o0:=judgeB_w s
  have o0:wVerdict (judgeB s).1≤1048576:=by unfold wVerdict;omega
  unfold judgeD at hs hi
  generalize judgeB s=R at hs hi o0
  obtain ⟨R0,R1⟩:=R
  dsimp only at hs hi o0
  have hnr:noRs (.tup [VerD.d R0,Bb R1])=true:=noRs_t2 noRs_Verdict rfl
  refine fcW_bd hs hnr ?_
  simp only [go_sem,↓reduceIte,nE,nA,nM,nB,oN,iT,nS,nL,nD,iE,iL,reduceCtorEq,ss,zs,take_map_len,mkIntS_len,mkIntS_take]
  refine fcW_bd hi hnr ?_
  simp only [go_sem,↓reduceIte,nE,nA,nM,nB,oN,iT,nS,nL,nD,iE,iL,reduceCtorEq,ss,zs,take_map_len,mkIntS_len,mkIntS_take]
  refine fcW_bool (laws_eqVerdict.fcu R0 o0) ?_
  simp only [go_sem,↓reduceIte,nE,nA,nM,nB,oN,iT,nS,nL,nD,iE,iL,reduceCtorEq,ss,zs,take_map_len,mkIntS_len,mkIntS_take]
  have hc1:=cVerdict_le R0
  refine coW_of (laws_markVerdict.fcu R0 (1) o0 (by omega) (by omega)) rfl (by simp only [noRsL,noRs_Verdict,Bool.and_self]) ?_
  have hn1:¬ ((1+(cVerdict R0:Nat):Int) < 0):=by omega
  simp only [go_sem,↓reduceIte,nE,nA,nM,nB,oN,iT,nS,nL,nD,iE,iL,reduceCtorEq,hn1,mkVerdict,ss,zs,take_map_len,mkIntS_len,mkIntS_take]
  have hc2:=cVerdict_le R0
  refine fcW_int (laws_heldVerdict.fcu R0 (1) o0 (by omega) (by omega)) ?_
  have hn2:¬ ((1+(cVerdict R0:Nat):Int) < 0):=by omega
  simp only [go_sem,↓reduceIte,nE,nA,nM,nB,oN,iT,nS,nL,nD,iE,iL,reduceCtorEq,hn2,mkVerdict,ss,zs,take_map_len,mkIntS_len,mkIntS_take]
  refine fcW_bd hi hnr ?_
  simp only [go_sem,↓reduceIte,nE,nA,nM,nB,oN,iT,nS,nL,nD,iE,iL,reduceCtorEq,ss,zs,take_map_len,mkIntS_len,mkIntS_take]
  refine fcW_bool (laws_eqVerdict.fcu R0 o0) ?_
  simp only [go_sem,↓reduceIte,nE,nA,nM,nB,oN,iT,nS,nL,nD,iE,iL,reduceCtorEq,ss,zs,take_map_len,mkIntS_len,mkIntS_take]
  have hc3:=cVerdict_le R0
  refine fcW_int (laws_heldVerdict.fcu R0 (1) o0 (by omega) (by omega)) ?_
  have hn3:¬ ((1+(cVerdict R0:Nat):Int) < 0):=by omega
  simp only [go_sem,↓reduceIte,nE,nA,nM,nB,oN,iT,nS,nL,nD,iE,iL,reduceCtorEq,hn3,mkVerdict,ss,zs,take_map_len,mkIntS_len,mkIntS_take]
end Go.Vm.YtmbhjcgikblpiaaGreat
namespace Go.Proofs.YtmbhjcgikblpiaaGreat
open Go Go.Vm
theorem judgeBytes_own:ownKnob Tryz.prog.godebug=none:=by kernel_rfl
theorem judgeBytes_laid:laidOutB Tryz.prog=true:=by kernel_rfl
set_option maxRecDepth 100000 in
theorem judgeBytes_lifted (os:Os) (started:os.Started) (H:Type) (enc:TypeId×Value→H) :
    ReturnsInHanded {} Tryz.checked os 6 .any (Rows.fnExactJudgeBytesSpec.pre6 enc Tryz.prog Tryz.f6 Rows.fnExactJudgeBytesRow.domain false) (Rows.fnExactJudgeBytesSpec.post enc Tryz.prog Tryz.f6 false true false false):=by
  refine returnsInHanded_of_change_sized (C:=Tryz.checked) judgeBytes_own started (by kernel_rfl) Tryz.func6
    (ChangeSpec.witness6 (enc:=enc) (C:=Tryz.checked) false ⟨#[],#[.string ByteArray.empty],[]⟩ 8 (by kernel_rfl) (by kernel_rfl) (by kernel_rfl) (by kernel_rfl)) ?_
  intro W base args ds gs before hval hW _ _ _
  refine law_contract (C:=Tryz.checked) (f:=6) [.str] (rt:=4) rfl (by kernel_rfl) rfl (by kernel_rfl) judgeBytes_laid (fun H ds h=>?_) (fun ds h=>?_) hval hW
  · match ds,h with
    | [_],_=>rfl
  · simp only [HasTys] at h
    obtain ⟨d1,ds1,rfl,h1,rfl⟩:=h
    obtain ⟨s,rfl,ws⟩:=Vm.YtmbhjcgikblpiaaGreat.hasStr h1
    exact Vm.YtmbhjcgikblpiaaGreat.laws_FnExactJudgeBytes.fc s
theorem judgeBytes_over:Rows.fnExactJudgeBytesRow.holds Tryz.pinned (OpenSpec.ofChange Rows.fnExactJudgeBytesSpec) :=
  OpenClaim.holds_of_wide 6 Tryz.f6 rfl rfl rfl rfl rfl rfl rfl ⟨rfl,rfl,rfl,rfl,rfl⟩ rfl rfl rfl rfl rfl (by kernel_rfl) Tryz.func6 (by kernel_rfl)
    (of_decide_eq_true (by kernel_rfl)) (by unfold Func.isWrapper;first|(rw [if_pos (by decide +kernel)];kernel_rfl)|(rw [if_neg (by decide +kernel)];exact ⟨rfl,rfl⟩))
    (fun os started H enc _=>judgeBytes_lifted os started H enc)
theorem judgeBytes_holds:Rows.FnExactJudgeBytesSaid:=judgeBytes_over
#print axioms judgeBytes_holds
end Go.Proofs.YtmbhjcgikblpiaaGreat
