/- The law FnHeeded returns true at all arguments; its row. -/
import Derived.Test.YtmicgdfekpoajaaWkb
import Derived.Test.YtmicgdfekpoajaaRows
open Int renaming reduceEq → iQ, reduceBEq → iB, reduceBNe → iX, reduceNeg → iN, reduceAdd → iA, reduceSub → iS, reduceMul → iM
namespace Go.Proofs.Ytmicgdfekpoajaa
open Go Go.Vm
theorem heeded_own:ownKnob Try.prog.godebug=none:=by kernel_rfl
theorem heeded_laid:laidOutB Try.prog=true:=by kernel_rfl
set_option maxRecDepth 100000 in
theorem heeded_lifted (os:Os) (started:os.Started) (H:Type) (enc:TypeId×Value→H) :
 ReturnsInHanded {} Try.checked os 9 .any (Rows.fnHeededSpec.pre6 enc Try.prog Try.f9 Rows.fnHeededRow.domain false) (Rows.fnHeededSpec.post enc Try.prog Try.f9 false true false false):=by
 refine returnsInHanded_of_change_sized (C:=Try.checked) heeded_own started (by kernel_rfl) Try.func9
  (ChangeSpec.witness6 (enc:=enc) (C:=Try.checked) false ⟨#[],#[.slice none 0 0,.slice none 0 0],[]⟩ 8 (by kernel_rfl) (by kernel_rfl) (by kernel_rfl) (by kernel_rfl)) ?_
 intro W base args ds gs before hval hW _ _ _
 refine law_contract (C:=Try.checked) (f:=9) [.sl (.int .u8),.sl (.int .u8)] (rt:=4) rfl (by kernel_rfl) rfl (by kernel_rfl) heeded_laid (fun H ds h=>?_) (fun ds h=>?_) hval hW
 · match ds,h with
   | [_,_],_=>rfl
 · simp only [HasTys] at h
   obtain ⟨d1,ds1,rfl,h1,d2,ds2,rfl,h2,rfl⟩:=h
   obtain ⟨code,rfl,wc,bc⟩:=Vm.Ytmicgdfekpoajaa.hasBytes h1
   obtain ⟨more,rfl,wm,bm⟩:=Vm.Ytmicgdfekpoajaa.hasBytes h2
   exact Vm.Ytmicgdfekpoajaa.laws_FnHeeded.fc code more wc wm bc bm
theorem heeded_over:Rows.fnHeededRow.holds Try.pinned (OpenSpec.ofChange Rows.fnHeededSpec) :=
 OpenClaim.holds_of_wide 9 Try.f9 rfl rfl rfl rfl rfl rfl rfl ⟨rfl,rfl,rfl,rfl,rfl⟩ rfl rfl rfl rfl rfl (by kernel_rfl) Try.func9 (by kernel_rfl)
  (of_decide_eq_true (by kernel_rfl)) (by unfold Func.isWrapper;first|(rw [if_pos (by decide +kernel)];kernel_rfl)|(rw [if_neg (by decide +kernel)];exact ⟨rfl,rfl⟩))
  (fun os started H enc _=>heeded_lifted os started H enc)
theorem heeded_holds:Rows.FnHeededSaid:=heeded_over
#print axioms heeded_holds
end Go.Proofs.Ytmicgdfekpoajaa
