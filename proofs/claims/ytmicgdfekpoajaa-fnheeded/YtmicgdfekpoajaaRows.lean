/-
  No cell of these rows narrows 'for every input' (looked for: loops, veiled, ifaces, maps, wideKeys, modest, calm, conditions, laid).
  DERIVED. THE GIVEN ROWS OF THIS SEAT. 11 by the template 'for every input the law returns true; each argument reads behind the call as it read before'; 0 by the template 'total and deterministic' (their statements: YtmicgdfekpoajaaTotals.lean).
  GIVEN WITH THE SEED: the statements are not yours to turn. If you find one false, say at which input.
  Laid BY PROGRAM, IN A SANDBOX (cutbox-rows.mjs): the forced cells as the released guide's own fill.sh prints them over the translation cef1b382b8b4316f… (all of the seat's roots in one cut). By AI agents, Wed Nov 11 2026. No macro, syntax, notation, axiom, sorry.
-/
import Derived.Test.YtmicgdfekpoajaaChecked
import GoSem.Claim
import GoSem.ClaimJoined
import GoSem.ClaimMapViews
import Derived.JoinedTies
import Derived.KernelRfl
namespace Go.Proofs.Ytmicgdfekpoajaa
/- THE CELL 'sum', in the pinned program and in every row, IS THE sha256 OF THE DUMP (.gsa) THAT YtmicgdfekpoajaaProg.lean LOADS. Nothing in Lean hashes anything: it is a label: what it is worth is what the hold of that sum in a sandbox is worth. -/
noncomputable def Try.pinned : Pinned := { name := "ytmicgdfekpoajaa", sum := "cef1b382b8b4316f845212c31ebf9e6e6ce5cb0d9674ed6c2f53f2759ea9ae1d", checked := Try.checked }
namespace Rows
def none {H : Type} : Left H := { results := [], args := [] }

/-- 'laws.FnExactGoodMay': WHATEVER THE INPUT: true; the input reads as it did. -/
def fnExactGoodMaySpec : ChangeSpec := { name := "fnExactGoodMay", fn := fun _ => fun
  | [d] => { results := [.lit (.bool true)], args := [d] }
  | _ => none }
def fnExactGoodMayRow : OpenClaim := { program := "ytmicgdfekpoajaa", sum := "cef1b382b8b4316f845212c31ebf9e6e6ce5cb0d9674ed6c2f53f2759ea9ae1d", func := "loop.example/g00605/laws.FnExactGoodMay", spec := "fnExactGoodMay", unfollowed := true, recurses := true, apart := false }
def FnExactGoodMaySaid : Prop := fnExactGoodMayRow.holds Try.pinned (OpenSpec.ofChange fnExactGoodMaySpec)

/-- ITS FALSE NEIGHBOUR: 'it returns false'. Refute it at one input. -/
def fnExactGoodMayWrong : ChangeSpec := { name := "fnExactGoodMay", fn := fun _ => fun
  | [d] => { results := [.lit (.bool false)], args := [d] }
  | _ => none }
def FnExactGoodMayWrongFalsely : Prop := fnExactGoodMayRow.holds Try.pinned (OpenSpec.ofChange fnExactGoodMayWrong)

/-- 'laws.FnExactStartMay': WHATEVER THE INPUT: true; the input reads as it did. -/
def fnExactStartMaySpec : ChangeSpec := { name := "fnExactStartMay", fn := fun _ => fun
  | [] => { results := [.lit (.bool true)], args := [] }
  | _ => none }
def fnExactStartMayRow : OpenClaim := { program := "ytmicgdfekpoajaa", sum := "cef1b382b8b4316f845212c31ebf9e6e6ce5cb0d9674ed6c2f53f2759ea9ae1d", func := "loop.example/g00605/laws.FnExactStartMay", spec := "fnExactStartMay", apart := false }
def FnExactStartMaySaid : Prop := fnExactStartMayRow.holds Try.pinned (OpenSpec.ofChange fnExactStartMaySpec)

/-- ITS FALSE NEIGHBOUR: 'it returns false'. Refute it at one input. -/
def fnExactStartMayWrong : ChangeSpec := { name := "fnExactStartMay", fn := fun _ => fun
  | [] => { results := [.lit (.bool false)], args := [] }
  | _ => none }
def FnExactStartMayWrongFalsely : Prop := fnExactStartMayRow.holds Try.pinned (OpenSpec.ofChange fnExactStartMayWrong)

/-- 'laws.FnExactInMay': WHATEVER THE INPUT: true; the input reads as it did. -/
def fnExactInMaySpec : ChangeSpec := { name := "fnExactInMay", fn := fun _ => fun
  | [d1, d2] => { results := [.lit (.bool true)], args := [d1, d2] }
  | _ => none }
def fnExactInMayRow : OpenClaim := { program := "ytmicgdfekpoajaa", sum := "cef1b382b8b4316f845212c31ebf9e6e6ce5cb0d9674ed6c2f53f2759ea9ae1d", func := "loop.example/g00605/laws.FnExactInMay", spec := "fnExactInMay", unfollowed := true, recurses := true, apart := false }
def FnExactInMaySaid : Prop := fnExactInMayRow.holds Try.pinned (OpenSpec.ofChange fnExactInMaySpec)

/-- ITS FALSE NEIGHBOUR: 'it returns false'. Refute it at one input. -/
def fnExactInMayWrong : ChangeSpec := { name := "fnExactInMay", fn := fun _ => fun
  | [d1, d2] => { results := [.lit (.bool false)], args := [d1, d2] }
  | _ => none }
def FnExactInMayWrongFalsely : Prop := fnExactInMayRow.holds Try.pinned (OpenSpec.ofChange fnExactInMayWrong)

/-- 'laws.FnExactJoinMay': WHATEVER THE INPUT: true; the input reads as it did. -/
def fnExactJoinMaySpec : ChangeSpec := { name := "fnExactJoinMay", fn := fun _ => fun
  | [d1, d2] => { results := [.lit (.bool true)], args := [d1, d2] }
  | _ => none }
def fnExactJoinMayRow : OpenClaim := { program := "ytmicgdfekpoajaa", sum := "cef1b382b8b4316f845212c31ebf9e6e6ce5cb0d9674ed6c2f53f2759ea9ae1d", func := "loop.example/g00605/laws.FnExactJoinMay", spec := "fnExactJoinMay", unfollowed := true, recurses := true, apart := false }
def FnExactJoinMaySaid : Prop := fnExactJoinMayRow.holds Try.pinned (OpenSpec.ofChange fnExactJoinMaySpec)

/-- ITS FALSE NEIGHBOUR: 'it returns false'. Refute it at one input. -/
def fnExactJoinMayWrong : ChangeSpec := { name := "fnExactJoinMay", fn := fun _ => fun
  | [d1, d2] => { results := [.lit (.bool false)], args := [d1, d2] }
  | _ => none }
def FnExactJoinMayWrongFalsely : Prop := fnExactJoinMayRow.holds Try.pinned (OpenSpec.ofChange fnExactJoinMayWrong)

/-- 'laws.FnExactHeedJump': WHATEVER THE INPUT: true; the input reads as it did. -/
def fnExactHeedJumpSpec : ChangeSpec := { name := "fnExactHeedJump", fn := fun _ => fun
  | [d1, d2, d3] => { results := [.lit (.bool true)], args := [d1, d2, d3] }
  | _ => none }
def fnExactHeedJumpRow : OpenClaim := { program := "ytmicgdfekpoajaa", sum := "cef1b382b8b4316f845212c31ebf9e6e6ce5cb0d9674ed6c2f53f2759ea9ae1d", func := "loop.example/g00605/laws.FnExactHeedJump", spec := "fnExactHeedJump", unfollowed := true, recurses := true, apart := false }
def FnExactHeedJumpSaid : Prop := fnExactHeedJumpRow.holds Try.pinned (OpenSpec.ofChange fnExactHeedJumpSpec)

/-- ITS FALSE NEIGHBOUR: 'it returns false'. Refute it at one input. -/
def fnExactHeedJumpWrong : ChangeSpec := { name := "fnExactHeedJump", fn := fun _ => fun
  | [d1, d2, d3] => { results := [.lit (.bool false)], args := [d1, d2, d3] }
  | _ => none }
def FnExactHeedJumpWrongFalsely : Prop := fnExactHeedJumpRow.holds Try.pinned (OpenSpec.ofChange fnExactHeedJumpWrong)

/-- 'laws.FnExactStepMay': WHATEVER THE INPUT: true; the input reads as it did. -/
def fnExactStepMaySpec : ChangeSpec := { name := "fnExactStepMay", fn := fun _ => fun
  | [d1, d2] => { results := [.lit (.bool true)], args := [d1, d2] }
  | _ => none }
def fnExactStepMayRow : OpenClaim := { program := "ytmicgdfekpoajaa", sum := "cef1b382b8b4316f845212c31ebf9e6e6ce5cb0d9674ed6c2f53f2759ea9ae1d", func := "loop.example/g00605/laws.FnExactStepMay", spec := "fnExactStepMay", unfollowed := true, recurses := true, apart := false }
def FnExactStepMaySaid : Prop := fnExactStepMayRow.holds Try.pinned (OpenSpec.ofChange fnExactStepMaySpec)

/-- ITS FALSE NEIGHBOUR: 'it returns false'. Refute it at one input. -/
def fnExactStepMayWrong : ChangeSpec := { name := "fnExactStepMay", fn := fun _ => fun
  | [d1, d2] => { results := [.lit (.bool false)], args := [d1, d2] }
  | _ => none }
def FnExactStepMayWrongFalsely : Prop := fnExactStepMayRow.holds Try.pinned (OpenSpec.ofChange fnExactStepMayWrong)

/-- 'laws.FnHeeded': WHATEVER THE INPUT: true; the input reads as it did. -/
def fnHeededSpec : ChangeSpec := { name := "fnHeeded", fn := fun _ => fun
  | [d1, d2] => { results := [.lit (.bool true)], args := [d1, d2] }
  | _ => none }
def fnHeededRow : OpenClaim := { program := "ytmicgdfekpoajaa", sum := "cef1b382b8b4316f845212c31ebf9e6e6ce5cb0d9674ed6c2f53f2759ea9ae1d", func := "loop.example/g00605/laws.FnHeeded", spec := "fnHeeded", unfollowed := true, recurses := true, apart := false }
def FnHeededSaid : Prop := fnHeededRow.holds Try.pinned (OpenSpec.ofChange fnHeededSpec)

/-- ITS FALSE NEIGHBOUR: 'it returns false'. Refute it at one input. -/
def fnHeededWrong : ChangeSpec := { name := "fnHeeded", fn := fun _ => fun
  | [d1, d2] => { results := [.lit (.bool false)], args := [d1, d2] }
  | _ => none }
def FnHeededWrongFalsely : Prop := fnHeededRow.holds Try.pinned (OpenSpec.ofChange fnHeededWrong)

/-- 'laws.FnExactDoStep': WHATEVER THE INPUT: true; the input reads as it did. -/
def fnExactDoStepSpec : ChangeSpec := { name := "fnExactDoStep", fn := fun _ => fun
  | [d1, d2, d3] => { results := [.lit (.bool true)], args := [d1, d2, d3] }
  | _ => none }
def fnExactDoStepRow : OpenClaim := { program := "ytmicgdfekpoajaa", sum := "cef1b382b8b4316f845212c31ebf9e6e6ce5cb0d9674ed6c2f53f2759ea9ae1d", func := "loop.example/g00605/laws.FnExactDoStep", spec := "fnExactDoStep", unfollowed := true, recurses := true, apart := false }
def FnExactDoStepSaid : Prop := fnExactDoStepRow.holds Try.pinned (OpenSpec.ofChange fnExactDoStepSpec)

/-- ITS FALSE NEIGHBOUR: 'it returns false'. Refute it at one input. -/
def fnExactDoStepWrong : ChangeSpec := { name := "fnExactDoStep", fn := fun _ => fun
  | [d1, d2, d3] => { results := [.lit (.bool false)], args := [d1, d2, d3] }
  | _ => none }
def FnExactDoStepWrongFalsely : Prop := fnExactDoStepRow.holds Try.pinned (OpenSpec.ofChange fnExactDoStepWrong)

/-- 'laws.FnSteps': WHATEVER THE INPUT: true; the input reads as it did. -/
def fnStepsSpec : ChangeSpec := { name := "fnSteps", fn := fun _ => fun
  | [d1, d2] => { results := [.lit (.bool true)], args := [d1, d2] }
  | _ => none }
def fnStepsRow : OpenClaim := { program := "ytmicgdfekpoajaa", sum := "cef1b382b8b4316f845212c31ebf9e6e6ce5cb0d9674ed6c2f53f2759ea9ae1d", func := "loop.example/g00605/laws.FnSteps", spec := "fnSteps", unfollowed := true, recurses := true, apart := false }
def FnStepsSaid : Prop := fnStepsRow.holds Try.pinned (OpenSpec.ofChange fnStepsSpec)

/-- ITS FALSE NEIGHBOUR: 'it returns false'. Refute it at one input. -/
def fnStepsWrong : ChangeSpec := { name := "fnSteps", fn := fun _ => fun
  | [d1, d2] => { results := [.lit (.bool false)], args := [d1, d2] }
  | _ => none }
def FnStepsWrongFalsely : Prop := fnStepsRow.holds Try.pinned (OpenSpec.ofChange fnStepsWrong)

/-- 'laws.FnMachine': WHATEVER THE INPUT: true; the input reads as it did. -/
def fnMachineSpec : ChangeSpec := { name := "fnMachine", fn := fun _ => fun
  | [d1, d2] => { results := [.lit (.bool true)], args := [d1, d2] }
  | _ => none }
def fnMachineRow : OpenClaim := { program := "ytmicgdfekpoajaa", sum := "cef1b382b8b4316f845212c31ebf9e6e6ce5cb0d9674ed6c2f53f2759ea9ae1d", func := "loop.example/g00605/laws.FnMachine", spec := "fnMachine", unfollowed := true, recurses := true, apart := false }
def FnMachineSaid : Prop := fnMachineRow.holds Try.pinned (OpenSpec.ofChange fnMachineSpec)

/-- ITS FALSE NEIGHBOUR: 'it returns false'. Refute it at one input. -/
def fnMachineWrong : ChangeSpec := { name := "fnMachine", fn := fun _ => fun
  | [d1, d2] => { results := [.lit (.bool false)], args := [d1, d2] }
  | _ => none }
def FnMachineWrongFalsely : Prop := fnMachineRow.holds Try.pinned (OpenSpec.ofChange fnMachineWrong)

/-- 'laws.FnExactTriesFor': WHATEVER THE INPUT: true; the input reads as it did. -/
def fnExactTriesForSpec : ChangeSpec := { name := "fnExactTriesFor", fn := fun _ => fun
  | [d] => { results := [.lit (.bool true)], args := [d] }
  | _ => none }
def fnExactTriesForRow : OpenClaim := { program := "ytmicgdfekpoajaa", sum := "cef1b382b8b4316f845212c31ebf9e6e6ce5cb0d9674ed6c2f53f2759ea9ae1d", func := "loop.example/g00605/laws.FnExactTriesFor", spec := "fnExactTriesFor", apart := false }
def FnExactTriesForSaid : Prop := fnExactTriesForRow.holds Try.pinned (OpenSpec.ofChange fnExactTriesForSpec)

/-- ITS FALSE NEIGHBOUR: 'it returns false'. Refute it at one input. -/
def fnExactTriesForWrong : ChangeSpec := { name := "fnExactTriesFor", fn := fun _ => fun
  | [d] => { results := [.lit (.bool false)], args := [d] }
  | _ => none }
def FnExactTriesForWrongFalsely : Prop := fnExactTriesForRow.holds Try.pinned (OpenSpec.ofChange fnExactTriesForWrong)

/- THE SECOND FORM. 'bulk': how many values and letters a reading holds, each counted each time it is reached (what is shared counts as often as it is met; a slice's spare places count too). A statement '..UptoSaid' is the law's where the arguments, and the package variables that the reading takes, are together of bulk at most 1048576: NARROWER than '..Said'. Prove '..Said' where nothing that the law and all that it calls make is longer than what came in: it says more and counts as full. Else prove '..UptoSaid'. A law counts once. -/
mutual
def uptoBulk {H : Type} : DataW H → Nat
  | .lit (.string bytes) => bytes.length + 1
  | .lit _ => 1
  | .nil => 1
  | .ptr d => uptoBulk d + 1
  | .slice elems spare => uptoBulkAll elems + uptoBulkAll spare + 1
  | .agg parts => uptoBulkAll parts + 1
  | .iface _ d => uptoBulk d + 1
  | .map entries => uptoBulkEntries entries + 1
  | .held _ => 1
def uptoBulkAll {H : Type} : List (DataW H) → Nat
  | [] => 0
  | d :: r => uptoBulk d + uptoBulkAll r
def uptoBulkEntries {H : Type} : List (Lit × DataW H) → Nat
  | [] => 0
  | x :: r => uptoBulkEntry x + uptoBulkEntries r
def uptoBulkEntry {H : Type} : Lit × DataW H → Nat
  | (.string bytes, d) => bytes.length + uptoBulk d + 1
  | (_, d) => uptoBulk d + 1
 end
def uptoSmall : (H : Type) → List (DataW H) → Bool := fun _ ds => decide (uptoBulkAll ds ≤ 1048576)
def OpenSpec.upto (s : _root_.Go.ChangeSpec) : _root_.Go.OpenSpec := { _root_.Go.OpenSpec.ofChange s with cond := some uptoSmall }

/-- 'laws.FnExactGoodMay', WHERE WHAT IT READS IS OF BULK AT MOST 1048576: true; the input reads as it did. -/
def fnExactGoodMayUptoRow : OpenClaim := { program := "ytmicgdfekpoajaa", sum := "cef1b382b8b4316f845212c31ebf9e6e6ce5cb0d9674ed6c2f53f2759ea9ae1d", func := "loop.example/g00605/laws.FnExactGoodMay", spec := "fnExactGoodMay", unfollowed := true, recurses := true, apart := false, narrowed := true }
def FnExactGoodMayUptoSaid : Prop := fnExactGoodMayUptoRow.holds Try.pinned (OpenSpec.upto fnExactGoodMaySpec)

/-- 'laws.FnExactStartMay', WHERE WHAT IT READS IS OF BULK AT MOST 1048576: true; the input reads as it did. -/
def fnExactStartMayUptoRow : OpenClaim := { program := "ytmicgdfekpoajaa", sum := "cef1b382b8b4316f845212c31ebf9e6e6ce5cb0d9674ed6c2f53f2759ea9ae1d", func := "loop.example/g00605/laws.FnExactStartMay", spec := "fnExactStartMay", apart := false, narrowed := true }
def FnExactStartMayUptoSaid : Prop := fnExactStartMayUptoRow.holds Try.pinned (OpenSpec.upto fnExactStartMaySpec)

/-- 'laws.FnExactInMay', WHERE WHAT IT READS IS OF BULK AT MOST 1048576: true; the input reads as it did. -/
def fnExactInMayUptoRow : OpenClaim := { program := "ytmicgdfekpoajaa", sum := "cef1b382b8b4316f845212c31ebf9e6e6ce5cb0d9674ed6c2f53f2759ea9ae1d", func := "loop.example/g00605/laws.FnExactInMay", spec := "fnExactInMay", unfollowed := true, recurses := true, apart := false, narrowed := true }
def FnExactInMayUptoSaid : Prop := fnExactInMayUptoRow.holds Try.pinned (OpenSpec.upto fnExactInMaySpec)

/-- 'laws.FnExactJoinMay', WHERE WHAT IT READS IS OF BULK AT MOST 1048576: true; the input reads as it did. -/
def fnExactJoinMayUptoRow : OpenClaim := { program := "ytmicgdfekpoajaa", sum := "cef1b382b8b4316f845212c31ebf9e6e6ce5cb0d9674ed6c2f53f2759ea9ae1d", func := "loop.example/g00605/laws.FnExactJoinMay", spec := "fnExactJoinMay", unfollowed := true, recurses := true, apart := false, narrowed := true }
def FnExactJoinMayUptoSaid : Prop := fnExactJoinMayUptoRow.holds Try.pinned (OpenSpec.upto fnExactJoinMaySpec)

/-- 'laws.FnExactHeedJump', WHERE WHAT IT READS IS OF BULK AT MOST 1048576: true; the input reads as it did. -/
def fnExactHeedJumpUptoRow : OpenClaim := { program := "ytmicgdfekpoajaa", sum := "cef1b382b8b4316f845212c31ebf9e6e6ce5cb0d9674ed6c2f53f2759ea9ae1d", func := "loop.example/g00605/laws.FnExactHeedJump", spec := "fnExactHeedJump", unfollowed := true, recurses := true, apart := false, narrowed := true }
def FnExactHeedJumpUptoSaid : Prop := fnExactHeedJumpUptoRow.holds Try.pinned (OpenSpec.upto fnExactHeedJumpSpec)

/-- 'laws.FnExactStepMay', WHERE WHAT IT READS IS OF BULK AT MOST 1048576: true; the input reads as it did. -/
def fnExactStepMayUptoRow : OpenClaim := { program := "ytmicgdfekpoajaa", sum := "cef1b382b8b4316f845212c31ebf9e6e6ce5cb0d9674ed6c2f53f2759ea9ae1d", func := "loop.example/g00605/laws.FnExactStepMay", spec := "fnExactStepMay", unfollowed := true, recurses := true, apart := false, narrowed := true }
def FnExactStepMayUptoSaid : Prop := fnExactStepMayUptoRow.holds Try.pinned (OpenSpec.upto fnExactStepMaySpec)

/-- 'laws.FnHeeded', WHERE WHAT IT READS IS OF BULK AT MOST 1048576: true; the input reads as it did. -/
def fnHeededUptoRow : OpenClaim := { program := "ytmicgdfekpoajaa", sum := "cef1b382b8b4316f845212c31ebf9e6e6ce5cb0d9674ed6c2f53f2759ea9ae1d", func := "loop.example/g00605/laws.FnHeeded", spec := "fnHeeded", unfollowed := true, recurses := true, apart := false, narrowed := true }
def FnHeededUptoSaid : Prop := fnHeededUptoRow.holds Try.pinned (OpenSpec.upto fnHeededSpec)

/-- 'laws.FnExactDoStep', WHERE WHAT IT READS IS OF BULK AT MOST 1048576: true; the input reads as it did. -/
def fnExactDoStepUptoRow : OpenClaim := { program := "ytmicgdfekpoajaa", sum := "cef1b382b8b4316f845212c31ebf9e6e6ce5cb0d9674ed6c2f53f2759ea9ae1d", func := "loop.example/g00605/laws.FnExactDoStep", spec := "fnExactDoStep", unfollowed := true, recurses := true, apart := false, narrowed := true }
def FnExactDoStepUptoSaid : Prop := fnExactDoStepUptoRow.holds Try.pinned (OpenSpec.upto fnExactDoStepSpec)

/-- 'laws.FnSteps', WHERE WHAT IT READS IS OF BULK AT MOST 1048576: true; the input reads as it did. -/
def fnStepsUptoRow : OpenClaim := { program := "ytmicgdfekpoajaa", sum := "cef1b382b8b4316f845212c31ebf9e6e6ce5cb0d9674ed6c2f53f2759ea9ae1d", func := "loop.example/g00605/laws.FnSteps", spec := "fnSteps", unfollowed := true, recurses := true, apart := false, narrowed := true }
def FnStepsUptoSaid : Prop := fnStepsUptoRow.holds Try.pinned (OpenSpec.upto fnStepsSpec)

/-- 'laws.FnMachine', WHERE WHAT IT READS IS OF BULK AT MOST 1048576: true; the input reads as it did. -/
def fnMachineUptoRow : OpenClaim := { program := "ytmicgdfekpoajaa", sum := "cef1b382b8b4316f845212c31ebf9e6e6ce5cb0d9674ed6c2f53f2759ea9ae1d", func := "loop.example/g00605/laws.FnMachine", spec := "fnMachine", unfollowed := true, recurses := true, apart := false, narrowed := true }
def FnMachineUptoSaid : Prop := fnMachineUptoRow.holds Try.pinned (OpenSpec.upto fnMachineSpec)

/-- 'laws.FnExactTriesFor', WHERE WHAT IT READS IS OF BULK AT MOST 1048576: true; the input reads as it did. -/
def fnExactTriesForUptoRow : OpenClaim := { program := "ytmicgdfekpoajaa", sum := "cef1b382b8b4316f845212c31ebf9e6e6ce5cb0d9674ed6c2f53f2759ea9ae1d", func := "loop.example/g00605/laws.FnExactTriesFor", spec := "fnExactTriesFor", apart := false, narrowed := true }
def FnExactTriesForUptoSaid : Prop := fnExactTriesForUptoRow.holds Try.pinned (OpenSpec.upto fnExactTriesForSpec)

end Rows
end Go.Proofs.Ytmicgdfekpoajaa
