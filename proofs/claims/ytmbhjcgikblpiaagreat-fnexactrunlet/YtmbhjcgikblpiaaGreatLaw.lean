/- The law FnExactRunLet returns true at all arguments (no condition); its row. -/
import Derived.Test.YtmbhjcgikblpiaaGreatWkc
import Derived.Test.YtmbhjcgikblpiaaGreatRows
open Nat renaming reduceEqDiff → nE, reduceAdd → nA, reduceMul → nM, reduceBEq → nB, reduceSub → nS, reduceLT → nL, reduceLeDiff → nD
open Int renaming reduceToNat → iT, reduceLE → iE, reduceLT → iL
open Option renaming getD_none → oN
namespace Go.Vm.YtmbhjcgikblpiaaGreat
open Go Go.Vm
set_option maxRecDepth 10000
set_option maxHeartbeats 4000000
set_option linter.unusedSimpArgs false
set_option linter.unusedVariables false
theorem laws_FnExactRunLet.fc (s:List UInt8) (ctx:List Int) (wctx:ctx.length≤9223372036854775807) :
    FCt prog F_laws_FnExactRunLet [.ro,.ro] [strU s,ints ctx] (Bb true) []:=by
  refine fct_run laws_FnExactRunLet.ok rfl ?_
  simp only [go_sem,↓reduceIte,nE,nA,nM,nB,oN,iT,nS,nL,nD,iE,iL,reduceCtorEq]
  have ss:=strL_len s
  by_cases zs:(s.length:Int) > 1048576
  · simp only [go_sem,↓reduceIte,nE,nA,nM,nB,oN,iT,nS,nL,nD,iE,iL,reduceCtorEq,ss,zs]
  have os:s.length≤1048576:=by omega
  simp only [go_sem,↓reduceIte,nE,nA,nM,nB,oN,iT,nS,nL,nD,iE,iL,reduceCtorEq,ss,zs]
  by_cases zctx:(ctx.length:Int) > 1048576
  · simp only [go_sem,↓reduceIte,nE,nA,nM,nB,oN,iT,nS,nL,nD,iE,iL,reduceCtorEq,zctx,ss,zs]
  have octx:ctx.length≤1048576:=by omega
  simp only [go_sem,↓reduceIte,nE,nA,nM,nB,oN,iT,nS,nL,nD,iE,iL,reduceCtorEq,ss,zs,zctx]
  have hs:=spec_RunLet.fc s ctx (by omega) (by omega)
  have hi:=impl_RunLet.fc s ctx (by omega) (by omega)
  unfold runLD at hs hi
  generalize runLV s ctx=R at hs hi
  obtain ⟨R0,R1,R2⟩:=R
  dsimp only at hs hi
  have hnr:noRs (.tup [Ii R0,Ii R1,Bb R2])=true:=rfl
  refine fcW_bd (laws_toIntS.fcu ctx octx) noRs_ints ?_
  simp only [go_sem,↓reduceIte,nE,nA,nM,nB,oN,iT,nS,nL,nD,iE,iL,reduceCtorEq,ss,zs,zctx,take_map_len]
  refine fcW_bd hs hnr ?_
  simp only [go_sem,↓reduceIte,nE,nA,nM,nB,oN,iT,nS,nL,nD,iE,iL,reduceCtorEq,ss,zs,zctx,take_map_len]
  refine fcW_bd (laws_toIntS.fcu ctx octx) noRs_ints ?_
  simp only [go_sem,↓reduceIte,nE,nA,nM,nB,oN,iT,nS,nL,nD,iE,iL,reduceCtorEq,ss,zs,zctx,take_map_len]
  refine fcW_bd hi hnr ?_
  simp only [go_sem,↓reduceIte,nE,nA,nM,nB,oN,iT,nS,nL,nD,iE,iL,reduceCtorEq,ss,zs,zctx,take_map_len]
  refine fcW_bd (laws_toIntS.fcu ctx octx) noRs_ints ?_
  simp only [go_sem,↓reduceIte,nE,nA,nM,nB,oN,iT,nS,nL,nD,iE,iL,reduceCtorEq,ss,zs,zctx,take_map_len]
  refine fcW_bool (laws_eqIntS.fcu ctx octx) ?_
  simp only [go_sem,↓reduceIte,nE,nA,nM,nB,oN,iT,nS,nL,nD,iE,iL,reduceCtorEq,ss,zs,zctx,take_map_len]
end Go.Vm.YtmbhjcgikblpiaaGreat
namespace Go.Proofs.YtmbhjcgikblpiaaGreat
open Go Go.Vm
theorem runLet_own:ownKnob Tryz.prog.godebug=none:=by kernel_rfl
theorem runLet_laid:laidOutB Tryz.prog=true:=by kernel_rfl
set_option maxRecDepth 100000 in
theorem runLet_lifted (os:Os) (started:os.Started) (H:Type) (enc:TypeId×Value→H) :
    ReturnsInHanded {} Tryz.checked os 7 .any (Rows.fnExactRunLetSpec.pre6 enc Tryz.prog Tryz.f7 Rows.fnExactRunLetRow.domain false) (Rows.fnExactRunLetSpec.post enc Tryz.prog Tryz.f7 false true false false):=by
  refine returnsInHanded_of_change_sized (C:=Tryz.checked) runLet_own started (by kernel_rfl) Tryz.func7
    (ChangeSpec.witness6 (enc:=enc) (C:=Tryz.checked) false ⟨#[],#[.string ByteArray.empty,.slice none 0 0],[]⟩ 8 (by kernel_rfl) (by kernel_rfl) (by kernel_rfl) (by kernel_rfl)) ?_
  intro W base args ds gs before hval hW _ _ _
  refine law_contract (C:=Tryz.checked) (f:=7) [.str,.sl (.int .i64)] (rt:=4) rfl (by kernel_rfl) rfl (by kernel_rfl) runLet_laid (fun H ds h=>?_) (fun ds h=>?_) hval hW
  · match ds,h with
    | [_,_],_=>rfl
  · simp only [HasTys] at h
    obtain ⟨d1,ds1,rfl,h1,d2,ds2,rfl,h2,rfl⟩:=h
    obtain ⟨s,rfl,ws⟩:=Vm.YtmbhjcgikblpiaaGreat.hasStr h1
    obtain ⟨ctx,rfl,wctx⟩:=Vm.YtmbhjcgikblpiaaGreat.hasIntS h2
    exact Vm.YtmbhjcgikblpiaaGreat.laws_FnExactRunLet.fc s ctx wctx
theorem runLet_over:Rows.fnExactRunLetRow.holds Tryz.pinned (OpenSpec.ofChange Rows.fnExactRunLetSpec) :=
  OpenClaim.holds_of_wide 7 Tryz.f7 rfl rfl rfl rfl rfl rfl rfl ⟨rfl,rfl,rfl,rfl,rfl⟩ rfl rfl rfl rfl rfl (by kernel_rfl) Tryz.func7 (by kernel_rfl)
    (of_decide_eq_true (by kernel_rfl)) (by unfold Func.isWrapper;first|(rw [if_pos (by decide +kernel)];kernel_rfl)|(rw [if_neg (by decide +kernel)];exact ⟨rfl,rfl⟩))
    (fun os started H enc _=>runLet_lifted os started H enc)
theorem runLet_holds:Rows.FnExactRunLetSaid:=runLet_over
#print axioms runLet_holds
end Go.Proofs.YtmbhjcgikblpiaaGreat
