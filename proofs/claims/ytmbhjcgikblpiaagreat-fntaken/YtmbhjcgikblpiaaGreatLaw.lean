/- The law FnTaken returns true at all arguments; its row. -/
import Derived.Test.YtmbhjcgikblpiaaGreatWkd
import Derived.Test.YtmbhjcgikblpiaaGreatRows
open Int renaming reduceEq → iQ, reduceBEq → iB, reduceBNe → iX, reduceNeg → iN, reduceAdd → iA, reduceSub → iS, reduceMul → iM
namespace Go.Proofs.YtmbhjcgikblpiaaGreat
open Go Go.Vm
theorem taken_own:ownKnob Tryz.prog.godebug=none:=by kernel_rfl
theorem taken_laid:laidOutB Tryz.prog=true:=by kernel_rfl
set_option maxRecDepth 100000 in
theorem taken_lifted (os:Os) (started:os.Started) (H:Type) (enc:TypeId×Value→H) :
 ReturnsInHanded {} Tryz.checked os 11 .any (Rows.fnTakenSpec.pre6 enc Tryz.prog Tryz.f11 Rows.fnTakenRow.domain false) (Rows.fnTakenSpec.post enc Tryz.prog Tryz.f11 false true false false):=by
 refine returnsInHanded_of_change_sized (C:=Tryz.checked) taken_own started (by kernel_rfl) Tryz.func11
  (ChangeSpec.witness6 (enc:=enc) (C:=Tryz.checked) false ⟨#[],#[.slice none 0 0,.slice none 0 0],[]⟩ 8 (by kernel_rfl) (by kernel_rfl) (by kernel_rfl) (by kernel_rfl)) ?_
 intro W base args ds gs before hval hW _ _ _
 refine law_contract (C:=Tryz.checked) (f:=11) [.sl (.int .u8),.sl (.int .u8)] (rt:=4) rfl (by kernel_rfl) rfl (by kernel_rfl) taken_laid (fun H ds h=>?_) (fun ds h=>?_) hval hW
 · match ds,h with
   | [_,_],_=>rfl
 · simp only [HasTys] at h
   obtain ⟨d1,ds1,rfl,h1,d2,ds2,rfl,h2,rfl⟩:=h
   obtain ⟨code,rfl,wc,bc⟩:=Vm.YtmbhjcgikblpiaaGreat.hasBytes h1
   obtain ⟨more,rfl,wm,bm⟩:=Vm.YtmbhjcgikblpiaaGreat.hasBytes h2
   exact Vm.YtmbhjcgikblpiaaGreat.laws_FnTaken.fc code more wc wm bc bm
theorem taken_over:Rows.fnTakenRow.holds Tryz.pinned (OpenSpec.ofChange Rows.fnTakenSpec) :=
 OpenClaim.holds_of_wide 11 Tryz.f11 rfl rfl rfl rfl rfl rfl rfl ⟨rfl,rfl,rfl,rfl,rfl⟩ rfl rfl rfl rfl rfl (by kernel_rfl) Tryz.func11 (by kernel_rfl)
  (of_decide_eq_true (by kernel_rfl)) (by unfold Func.isWrapper;first|(rw [if_pos (by decide +kernel)];kernel_rfl)|(rw [if_neg (by decide +kernel)];exact ⟨rfl,rfl⟩))
  (fun os started H enc _=>taken_lifted os started H enc)
theorem taken_holds:Rows.FnTakenSaid:=taken_over
#print axioms taken_holds
end Go.Proofs.YtmbhjcgikblpiaaGreat
