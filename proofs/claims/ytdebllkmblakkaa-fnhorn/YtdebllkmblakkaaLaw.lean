/- The law FnHorn returns true at all arguments; its row. -/
import Derived.Test.YtdebllkmblakkaaWkb
import Derived.Test.YtdebllkmblakkaaRows
open Int renaming reduceEq → iQ, reduceBEq → iB, reduceBNe → iX, reduceNeg → iN, reduceAdd → iA, reduceSub → iS, reduceMul → iM
namespace Go.Proofs.Ytdebllkmblakkaa
open Go Go.Vm
theorem horn_own:ownKnob Try.prog.godebug=none:=by kernel_rfl
theorem horn_laid:laidOutB Try.prog=true:=by kernel_rfl
set_option maxRecDepth 100000 in
theorem horn_lifted (os:Os) (started:os.Started) (H:Type) (enc:TypeId×Value→H) :
 ReturnsInHanded {} Try.checked os 11 .any (Rows.fnHornSpec.pre6 enc Try.prog Try.f11 Rows.fnHornRow.domain false) (Rows.fnHornSpec.post enc Try.prog Try.f11 false true false false):=by
 refine returnsInHanded_of_change_sized (C:=Try.checked) horn_own started (by kernel_rfl) Try.func11
  (ChangeSpec.witness6 (enc:=enc) (C:=Try.checked) false ⟨#[],#[.slice none 0 0,.slice none 0 0],[]⟩ 8 (by kernel_rfl) (by kernel_rfl) (by kernel_rfl) (by kernel_rfl)) ?_
 intro W base args ds gs before hval hW _ _ _
 refine law_contract (C:=Try.checked) (f:=11) [.sl (.int .u8),.sl (.int .u8)] (rt:=4) rfl (by kernel_rfl) rfl (by kernel_rfl) horn_laid (fun H ds h=>?_) (fun ds h=>?_) hval hW
 · match ds,h with
   | [_,_],_=>rfl
 · simp only [HasTys] at h
   obtain ⟨d1,ds1,rfl,h1,d2,ds2,rfl,h2,rfl⟩:=h
   obtain ⟨code,rfl,wc,bc⟩:=Vm.Ytdebllkmblakkaa.hasBytes h1
   obtain ⟨more,rfl,wm,bm⟩:=Vm.Ytdebllkmblakkaa.hasBytes h2
   exact Vm.Ytdebllkmblakkaa.laws_FnHorn.fc code more wc wm bc bm
theorem horn_over:Rows.fnHornRow.holds Try.pinned (OpenSpec.ofChange Rows.fnHornSpec) :=
 OpenClaim.holds_of_wide 11 Try.f11 rfl rfl rfl rfl rfl rfl rfl ⟨rfl,rfl,rfl,rfl,rfl⟩ rfl rfl rfl rfl rfl (by kernel_rfl) Try.func11 (by kernel_rfl)
  (of_decide_eq_true (by kernel_rfl)) (by unfold Func.isWrapper;first|(rw [if_pos (by decide +kernel)];kernel_rfl)|(rw [if_neg (by decide +kernel)];exact ⟨rfl,rfl⟩))
  (fun os started H enc _=>horn_lifted os started H enc)
theorem horn_holds:Rows.FnHornSaid:=horn_over
#print axioms horn_holds
end Go.Proofs.Ytdebllkmblakkaa
