/- The law FnWays returns true at all arguments; its row. -/
import Derived.Test.YtljjgfmappionaaWkb
import Derived.Test.YtljjgfmappionaaRows
open Int renaming reduceEq → iQ, reduceBEq → iB, reduceBNe → iX, reduceNeg → iN, reduceAdd → iA, reduceSub → iS, reduceMul → iM
namespace Go.Proofs.Ytljjgfmappionaa
open Go Go.Vm
theorem ways_own:ownKnob Try.prog.godebug=none:=by kernel_rfl
theorem ways_laid:laidOutB Try.prog=true:=by kernel_rfl
set_option maxRecDepth 100000 in
theorem ways_lifted (os:Os) (started:os.Started) (H:Type) (enc:TypeId×Value→H) :
 ReturnsInHanded {} Try.checked os 3 .any (Rows.fnWaysSpec.pre6 enc Try.prog Try.f3 Rows.fnWaysRow.domain false) (Rows.fnWaysSpec.post enc Try.prog Try.f3 false true false false):=by
 refine returnsInHanded_of_change_sized (C:=Try.checked) ways_own started (by kernel_rfl) Try.func3
  (ChangeSpec.witness6 (enc:=enc) (C:=Try.checked) false ⟨#[],#[.slice none 0 0,.slice none 0 0],[]⟩ 8 (by kernel_rfl) (by kernel_rfl) (by kernel_rfl) (by kernel_rfl)) ?_
 intro W base args ds gs before hval hW _ _ _
 refine law_contract (C:=Try.checked) (f:=3) [.sl (.int .u8),.sl (.int .u8)] (rt:=4) rfl (by kernel_rfl) rfl (by kernel_rfl) ways_laid (fun H ds h=>?_) (fun ds h=>?_) hval hW
 · match ds,h with
   | [_,_],_=>rfl
 · simp only [HasTys] at h
   obtain ⟨d1,ds1,rfl,h1,d2,ds2,rfl,h2,rfl⟩:=h
   obtain ⟨code,rfl,wc,bc⟩:=Vm.Ytljjgfmappionaa.hasBytes h1
   obtain ⟨more,rfl,wm,bm⟩:=Vm.Ytljjgfmappionaa.hasBytes h2
   exact Vm.Ytljjgfmappionaa.laws_FnWays.fc code more wc wm bc bm
theorem ways_over:Rows.fnWaysRow.holds Try.pinned (OpenSpec.ofChange Rows.fnWaysSpec) :=
 OpenClaim.holds_of_wide 3 Try.f3 rfl rfl rfl rfl rfl rfl rfl ⟨rfl,rfl,rfl,rfl,rfl⟩ rfl rfl rfl rfl rfl (by kernel_rfl) Try.func3 (by kernel_rfl)
  (of_decide_eq_true (by kernel_rfl)) (by unfold Func.isWrapper;first|(rw [if_pos (by decide +kernel)];kernel_rfl)|(rw [if_neg (by decide +kernel)];exact ⟨rfl,rfl⟩))
  (fun os started H enc _=>ways_lifted os started H enc)
theorem ways_holds:Rows.FnWaysSaid:=ways_over
#print axioms ways_holds
end Go.Proofs.Ytljjgfmappionaa
