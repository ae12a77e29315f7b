/- The law FnExactCheckVerdict returns true at all arguments (no condition); its row. -/
import Derived.Test.YtmbhjcgikblpiaaGreatWkc
import Derived.Test.YtmbhjcgikblpiaaGreatRows
open Nat renaming reduceEqDiff → nE, reduceAdd → nA, reduceMul → nM, reduceBEq → nB, reduceSub → nS, reduceLT → nL, reduceLeDiff → nD
open Int renaming reduceToNat → iT, reduceLE → iE, reduceLT → iL
open Option renaming getD_none → oN
namespace Go.Vm.YtmbhjcgikblpiaaGreat
open Go Go.Vm
set_option maxRecDepth 10000
set_option maxHeartbeats 4000000
set_option linter.unusedSimpArgs false
set_option linter.unusedVariables false
theorem laws_FnExactCheckVerdict.fc (s:List UInt8) (v:VerD) (wv:wfVerdict v) :
    FCt prog F_laws_FnExactCheckVerdict [.ro,.ro] [strU s,VerD.d v] (Bb true) []:=by
  refine fct_run laws_FnExactCheckVerdict.ok rfl ?_
  simp only [go_sem,↓reduceIte,nE,nA,nM,nB,oN,iT,nS,nL,nD,iE,iL,reduceCtorEq]
  have ss:=strL_len s
  by_cases zs:(s.length:Int) > 1048576
  · simp only [go_sem,↓reduceIte,nE,nA,nM,nB,oN,iT,nS,nL,nD,iE,iL,reduceCtorEq,ss,zs]
  have os:s.length≤1048576:=by omega
  simp only [go_sem,↓reduceIte,nE,nA,nM,nB,oN,iT,nS,nL,nD,iE,iL,reduceCtorEq,ss,zs]
  refine fcW_int (laws_szVerdict.fcu v _ (by omega) wv) ?_
  by_cases zv:(1048576:Int) < (wVerdict v:Nat)
  · rw [if_pos zv];simp only [go_sem,↓reduceIte,nE,nA,nM,nB,oN,iT,nS,nL,nD,iE,iL,reduceCtorEq,ss,zs]
  have ov:wVerdict v≤1048576:=by omega
  rw [if_neg zv]
  have yv:¬ ((1048576:Int) - (wVerdict v:Nat) < 0):=by omega
  simp only [go_sem,↓reduceIte,nE,nA,nM,nB,oN,iT,nS,nL,nD,iE,iL,reduceCtorEq,ss,zs,yv]
  have hv:v.wit.length≤4194304:=by unfold wVerdict at ov;omega
  have hs:=spec_CheckVerdict.fc s v (by omega) hv
  have hi:=impl_CheckVerdict.fc s v (by omega) hv
  unfold checkD at hs hi
  generalize checkV s v=R at hs hi
  obtain ⟨R0,R1⟩:=R
  dsimp only at hs hi
  have hnr:noRs (.tup [Bb R0,Bb R1])=true:=rfl
  refine fcW_bd (laws_toVerdict.fcu v ov) noRs_Verdict ?_
  simp only [go_sem,↓reduceIte,nE,nA,nM,nB,oN,iT,nS,nL,nD,iE,iL,reduceCtorEq,ss,zs,yv,take_map_len]
  refine fcW_bd hs hnr ?_
  simp only [go_sem,↓reduceIte,nE,nA,nM,nB,oN,iT,nS,nL,nD,iE,iL,reduceCtorEq,ss,zs,yv,take_map_len]
  refine fcW_bd (laws_toVerdict.fcu v ov) noRs_Verdict ?_
  simp only [go_sem,↓reduceIte,nE,nA,nM,nB,oN,iT,nS,nL,nD,iE,iL,reduceCtorEq,ss,zs,yv,take_map_len]
  refine fcW_bd hi hnr ?_
  simp only [go_sem,↓reduceIte,nE,nA,nM,nB,oN,iT,nS,nL,nD,iE,iL,reduceCtorEq,ss,zs,yv,take_map_len]
  refine fcW_bd (laws_toVerdict.fcu v ov) noRs_Verdict ?_
  simp only [go_sem,↓reduceIte,nE,nA,nM,nB,oN,iT,nS,nL,nD,iE,iL,reduceCtorEq,ss,zs,yv,take_map_len]
  refine fcW_bool (laws_eqVerdict.fcu v ov) ?_
  simp only [go_sem,↓reduceIte,nE,nA,nM,nB,oN,iT,nS,nL,nD,iE,iL,reduceCtorEq,ss,zs,yv,take_map_len]
end Go.Vm.YtmbhjcgikblpiaaGreat
namespace Go.Proofs.YtmbhjcgikblpiaaGreat
open Go Go.Vm
theorem checkVerdict_own:ownKnob Tryz.prog.godebug=none:=by kernel_rfl
theorem checkVerdict_laid:laidOutB Tryz.prog=true:=by kernel_rfl
set_option maxRecDepth 100000 in
theorem checkVerdict_lifted (os:Os) (started:os.Started) (H:Type) (enc:TypeId×Value→H) :
    ReturnsInHanded {} Tryz.checked os 5 .any (Rows.fnExactCheckVerdictSpec.pre6 enc Tryz.prog Tryz.f5 Rows.fnExactCheckVerdictRow.domain false) (Rows.fnExactCheckVerdictSpec.post enc Tryz.prog Tryz.f5 false true false false):=by
  refine returnsInHanded_of_change_sized (C:=Tryz.checked) checkVerdict_own started (by kernel_rfl) Tryz.func5
    (ChangeSpec.witness6 (enc:=enc) (C:=Tryz.checked) false ⟨#[],#[.string ByteArray.empty,.agg #[.int .i64 0,.int .i64 0,.slice none 0 0,.int .i64 0,.int .i64 0,.int .i64 0]],[]⟩ 8 (by kernel_rfl) (by kernel_rfl) (by kernel_rfl) (by kernel_rfl)) ?_
  intro W base args ds gs before hval hW _ _ _
  refine law_contract (C:=Tryz.checked) (f:=5) [.str,Vm.YtmbhjcgikblpiaaGreat.TyVerdict] (rt:=4) rfl (by kernel_rfl) rfl (by kernel_rfl) checkVerdict_laid (fun H ds h=>?_) (fun ds h=>?_) hval hW
  · match ds,h with
    | [_,_],_=>rfl
  · simp only [HasTys] at h
    obtain ⟨d1,ds1,rfl,h1,d2,ds2,rfl,h2,rfl⟩:=h
    obtain ⟨s,rfl,ws⟩:=Vm.YtmbhjcgikblpiaaGreat.hasStr h1
    obtain ⟨v,rfl,wv⟩:=Vm.YtmbhjcgikblpiaaGreat.hasVerdict h2
    exact Vm.YtmbhjcgikblpiaaGreat.laws_FnExactCheckVerdict.fc s v wv
theorem checkVerdict_over:Rows.fnExactCheckVerdictRow.holds Tryz.pinned (OpenSpec.ofChange Rows.fnExactCheckVerdictSpec) :=
  OpenClaim.holds_of_wide 5 Tryz.f5 rfl rfl rfl rfl rfl rfl rfl ⟨rfl,rfl,rfl,rfl,rfl⟩ rfl rfl rfl rfl rfl (by kernel_rfl) Tryz.func5 (by kernel_rfl)
    (of_decide_eq_true (by kernel_rfl)) (by unfold Func.isWrapper;first|(rw [if_pos (by decide +kernel)];kernel_rfl)|(rw [if_neg (by decide +kernel)];exact ⟨rfl,rfl⟩))
    (fun os started H enc _=>checkVerdict_lifted os started H enc)
theorem checkVerdict_holds:Rows.FnExactCheckVerdictSaid:=checkVerdict_over
#print axioms checkVerdict_holds
end Go.Proofs.YtmbhjcgikblpiaaGreat
