/-
  No cell of these rows narrows 'for every input' (looked for: loops, veiled, ifaces, maps, wideKeys, modest, calm, conditions, laid).
  DERIVED. THE GIVEN ROWS OF THIS SEAT. 9 by the template 'for every input the law returns true; each argument reads behind the call as it read before'; 0 by the template 'total and deterministic' (their statements: YtmbhjcgikblpiaaGreatTotals.lean).
  GIVEN WITH THE SEED: the statements are not yours to turn. If you find one false, say at which input.
  Laid BY PROGRAM, IN A SANDBOX (cutbox-rows.mjs): the forced cells as the released guide's own fill.sh prints them over the translation ea8b810fa70cd9b3… (all of the seat's roots in one cut). By AI agents, Wed Nov 11 2026. No macro, syntax, notation, axiom, sorry.
-/
import Derived.Test.YtmbhjcgikblpiaaGreatChecked
import GoSem.Claim
import GoSem.ClaimJoined
import GoSem.ClaimMapViews
import Derived.JoinedTies
import Derived.KernelRfl
namespace Go.Proofs.YtmbhjcgikblpiaaGreat
/- THE CELL 'sum', in the pinned program and in every row, IS THE sha256 OF THE DUMP (.gsa) THAT YtmbhjcgikblpiaaGreatProg.lean LOADS. Nothing in Lean hashes anything: it is a label: what it is worth is what the hold of that sum in a sandbox is worth. -/
noncomputable def Tryz.pinned : Pinned := { name := "ytmbhjcgikblpiaagreat", sum := "ea8b810fa70cd9b37f49088457a6e0c27ad0b93f435e2730adf1bdaebea3cba3", checked := Tryz.checked }
namespace Rows
def none {H : Type} : Left H := { results := [], args := [] }

/-- 'laws.FnExactAnalyseProgram': WHATEVER THE INPUT: true; the input reads as it did. -/
def fnExactAnalyseProgramSpec : ChangeSpec := { name := "fnExactAnalyseProgram", fn := fun _ => fun
  | [d] => { results := [.lit (.bool true)], args := [d] }
  | _ => none }
def fnExactAnalyseProgramRow : OpenClaim := { program := "ytmbhjcgikblpiaagreat", sum := "ea8b810fa70cd9b37f49088457a6e0c27ad0b93f435e2730adf1bdaebea3cba3", func := "loop.example/g00605/laws.FnExactAnalyseProgram", spec := "fnExactAnalyseProgram", apart := false }
def FnExactAnalyseProgramSaid : Prop := fnExactAnalyseProgramRow.holds Tryz.pinned (OpenSpec.ofChange fnExactAnalyseProgramSpec)

/-- ITS FALSE NEIGHBOUR: 'it returns false'. Refute it at one input. -/
def fnExactAnalyseProgramWrong : ChangeSpec := { name := "fnExactAnalyseProgram", fn := fun _ => fun
  | [d] => { results := [.lit (.bool false)], args := [d] }
  | _ => none }
def FnExactAnalyseProgramWrongFalsely : Prop := fnExactAnalyseProgramRow.holds Tryz.pinned (OpenSpec.ofChange fnExactAnalyseProgramWrong)

/-- 'laws.FnExactJudgeProgram': WHATEVER THE INPUT: true; the input reads as it did. -/
def fnExactJudgeProgramSpec : ChangeSpec := { name := "fnExactJudgeProgram", fn := fun _ => fun
  | [d] => { results := [.lit (.bool true)], args := [d] }
  | _ => none }
def fnExactJudgeProgramRow : OpenClaim := { program := "ytmbhjcgikblpiaagreat", sum := "ea8b810fa70cd9b37f49088457a6e0c27ad0b93f435e2730adf1bdaebea3cba3", func := "loop.example/g00605/laws.FnExactJudgeProgram", spec := "fnExactJudgeProgram", apart := false }
def FnExactJudgeProgramSaid : Prop := fnExactJudgeProgramRow.holds Tryz.pinned (OpenSpec.ofChange fnExactJudgeProgramSpec)

/-- ITS FALSE NEIGHBOUR: 'it returns false'. Refute it at one input. -/
def fnExactJudgeProgramWrong : ChangeSpec := { name := "fnExactJudgeProgram", fn := fun _ => fun
  | [d] => { results := [.lit (.bool false)], args := [d] }
  | _ => none }
def FnExactJudgeProgramWrongFalsely : Prop := fnExactJudgeProgramRow.holds Tryz.pinned (OpenSpec.ofChange fnExactJudgeProgramWrong)

/-- 'laws.FnExactCheckVerdict': WHATEVER THE INPUT: true; the input reads as it did. -/
def fnExactCheckVerdictSpec : ChangeSpec := { name := "fnExactCheckVerdict", fn := fun _ => fun
  | [d1, d2] => { results := [.lit (.bool true)], args := [d1, d2] }
  | _ => none }
def fnExactCheckVerdictRow : OpenClaim := { program := "ytmbhjcgikblpiaagreat", sum := "ea8b810fa70cd9b37f49088457a6e0c27ad0b93f435e2730adf1bdaebea3cba3", func := "loop.example/g00605/laws.FnExactCheckVerdict", spec := "fnExactCheckVerdict", unfollowed := true, recurses := true, apart := false }
def FnExactCheckVerdictSaid : Prop := fnExactCheckVerdictRow.holds Tryz.pinned (OpenSpec.ofChange fnExactCheckVerdictSpec)

/-- ITS FALSE NEIGHBOUR: 'it returns false'. Refute it at one input. -/
def fnExactCheckVerdictWrong : ChangeSpec := { name := "fnExactCheckVerdict", fn := fun _ => fun
  | [d1, d2] => { results := [.lit (.bool false)], args := [d1, d2] }
  | _ => none }
def FnExactCheckVerdictWrongFalsely : Prop := fnExactCheckVerdictRow.holds Tryz.pinned (OpenSpec.ofChange fnExactCheckVerdictWrong)

/-- 'laws.FnExactJudgeBytes': WHATEVER THE INPUT: true; the input reads as it did. -/
def fnExactJudgeBytesSpec : ChangeSpec := { name := "fnExactJudgeBytes", fn := fun _ => fun
  | [d] => { results := [.lit (.bool true)], args := [d] }
  | _ => none }
def fnExactJudgeBytesRow : OpenClaim := { program := "ytmbhjcgikblpiaagreat", sum := "ea8b810fa70cd9b37f49088457a6e0c27ad0b93f435e2730adf1bdaebea3cba3", func := "loop.example/g00605/laws.FnExactJudgeBytes", spec := "fnExactJudgeBytes", apart := false }
def FnExactJudgeBytesSaid : Prop := fnExactJudgeBytesRow.holds Tryz.pinned (OpenSpec.ofChange fnExactJudgeBytesSpec)

/-- ITS FALSE NEIGHBOUR: 'it returns false'. Refute it at one input. -/
def fnExactJudgeBytesWrong : ChangeSpec := { name := "fnExactJudgeBytes", fn := fun _ => fun
  | [d] => { results := [.lit (.bool false)], args := [d] }
  | _ => none }
def FnExactJudgeBytesWrongFalsely : Prop := fnExactJudgeBytesRow.holds Tryz.pinned (OpenSpec.ofChange fnExactJudgeBytesWrong)

/-- 'laws.FnExactRunLet': WHATEVER THE INPUT: true; the input reads as it did. -/
def fnExactRunLetSpec : ChangeSpec := { name := "fnExactRunLet", fn := fun _ => fun
  | [d1, d2] => { results := [.lit (.bool true)], args := [d1, d2] }
  | _ => none }
def fnExactRunLetRow : OpenClaim := { program := "ytmbhjcgikblpiaagreat", sum := "ea8b810fa70cd9b37f49088457a6e0c27ad0b93f435e2730adf1bdaebea3cba3", func := "loop.example/g00605/laws.FnExactRunLet", spec := "fnExactRunLet", unfollowed := true, recurses := true, apart := false }
def FnExactRunLetSaid : Prop := fnExactRunLetRow.holds Tryz.pinned (OpenSpec.ofChange fnExactRunLetSpec)

/-- ITS FALSE NEIGHBOUR: 'it returns false'. Refute it at one input. -/
def fnExactRunLetWrong : ChangeSpec := { name := "fnExactRunLet", fn := fun _ => fun
  | [d1, d2] => { results := [.lit (.bool false)], args := [d1, d2] }
  | _ => none }
def FnExactRunLetWrongFalsely : Prop := fnExactRunLetRow.holds Tryz.pinned (OpenSpec.ofChange fnExactRunLetWrong)

/-- 'laws.FnMay': WHATEVER THE INPUT: true; the input reads as it did. -/
def fnMaySpec : ChangeSpec := { name := "fnMay", fn := fun _ => fun
  | [d1, d2] => { results := [.lit (.bool true)], args := [d1, d2] }
  | _ => none }
def fnMayRow : OpenClaim := { program := "ytmbhjcgikblpiaagreat", sum := "ea8b810fa70cd9b37f49088457a6e0c27ad0b93f435e2730adf1bdaebea3cba3", func := "loop.example/g00605/laws.FnMay", spec := "fnMay", unfollowed := true, recurses := true, apart := false }
def FnMaySaid : Prop := fnMayRow.holds Tryz.pinned (OpenSpec.ofChange fnMaySpec)

/-- ITS FALSE NEIGHBOUR: 'it returns false'. Refute it at one input. -/
def fnMayWrong : ChangeSpec := { name := "fnMay", fn := fun _ => fun
  | [d1, d2] => { results := [.lit (.bool false)], args := [d1, d2] }
  | _ => none }
def FnMayWrongFalsely : Prop := fnMayRow.holds Tryz.pinned (OpenSpec.ofChange fnMayWrong)

/-- 'laws.FnGate': WHATEVER THE INPUT: true; the input reads as it did. -/
def fnGateSpec : ChangeSpec := { name := "fnGate", fn := fun _ => fun
  | [d1, d2] => { results := [.lit (.bool true)], args := [d1, d2] }
  | _ => none }
def fnGateRow : OpenClaim := { program := "ytmbhjcgikblpiaagreat", sum := "ea8b810fa70cd9b37f49088457a6e0c27ad0b93f435e2730adf1bdaebea3cba3", func := "loop.example/g00605/laws.FnGate", spec := "fnGate", unfollowed := true, recurses := true, apart := false }
def FnGateSaid : Prop := fnGateRow.holds Tryz.pinned (OpenSpec.ofChange fnGateSpec)

/-- ITS FALSE NEIGHBOUR: 'it returns false'. Refute it at one input. -/
def fnGateWrong : ChangeSpec := { name := "fnGate", fn := fun _ => fun
  | [d1, d2] => { results := [.lit (.bool false)], args := [d1, d2] }
  | _ => none }
def FnGateWrongFalsely : Prop := fnGateRow.holds Tryz.pinned (OpenSpec.ofChange fnGateWrong)

/-- 'laws.FnVerdicts': WHATEVER THE INPUT: true; the input reads as it did. -/
def fnVerdictsSpec : ChangeSpec := { name := "fnVerdicts", fn := fun _ => fun
  | [d1, d2] => { results := [.lit (.bool true)], args := [d1, d2] }
  | _ => none }
def fnVerdictsRow : OpenClaim := { program := "ytmbhjcgikblpiaagreat", sum := "ea8b810fa70cd9b37f49088457a6e0c27ad0b93f435e2730adf1bdaebea3cba3", func := "loop.example/g00605/laws.FnVerdicts", spec := "fnVerdicts", unfollowed := true, recurses := true, apart := false }
def FnVerdictsSaid : Prop := fnVerdictsRow.holds Tryz.pinned (OpenSpec.ofChange fnVerdictsSpec)

/-- ITS FALSE NEIGHBOUR: 'it returns false'. Refute it at one input. -/
def fnVerdictsWrong : ChangeSpec := { name := "fnVerdicts", fn := fun _ => fun
  | [d1, d2] => { results := [.lit (.bool false)], args := [d1, d2] }
  | _ => none }
def FnVerdictsWrongFalsely : Prop := fnVerdictsRow.holds Tryz.pinned (OpenSpec.ofChange fnVerdictsWrong)

/-- 'laws.FnTaken': WHATEVER THE INPUT: true; the input reads as it did. -/
def fnTakenSpec : ChangeSpec := { name := "fnTaken", fn := fun _ => fun
  | [d1, d2] => { results := [.lit (.bool true)], args := [d1, d2] }
  | _ => none }
def fnTakenRow : OpenClaim := { program := "ytmbhjcgikblpiaagreat", sum := "ea8b810fa70cd9b37f49088457a6e0c27ad0b93f435e2730adf1bdaebea3cba3", func := "loop.example/g00605/laws.FnTaken", spec := "fnTaken", unfollowed := true, recurses := true, apart := false }
def FnTakenSaid : Prop := fnTakenRow.holds Tryz.pinned (OpenSpec.ofChange fnTakenSpec)

/-- ITS FALSE NEIGHBOUR: 'it returns false'. Refute it at one input. -/
def fnTakenWrong : ChangeSpec := { name := "fnTaken", fn := fun _ => fun
  | [d1, d2] => { results := [.lit (.bool false)], args := [d1, d2] }
  | _ => none }
def FnTakenWrongFalsely : Prop := fnTakenRow.holds Tryz.pinned (OpenSpec.ofChange fnTakenWrong)

/- THE SECOND FORM. 'bulk': how many values and letters a reading holds, each counted each time it is reached (what is shared counts as often as it is met; a slice's spare places count too). A statement '..UptoSaid' is the law's where the arguments, and the package variables that the reading takes, are together of bulk at most 1048576: NARROWER than '..Said'. Prove '..Said' where nothing that the law and all that it calls make is longer than what came in: it says more and counts as full. Else prove '..UptoSaid'. A law counts once. -/
mutual
def uptoBulk {H : Type} : DataW H → Nat
  | .lit (.string bytes) => bytes.length + 1
  | .lit _ => 1
  | .nil => 1
  | .ptr d => uptoBulk d + 1
  | .slice elems spare => uptoBulkAll elems + uptoBulkAll spare + 1
  | .agg parts => uptoBulkAll parts + 1
  | .iface _ d => uptoBulk d + 1
  | .map entries => uptoBulkEntries entries + 1
  | .held _ => 1
def uptoBulkAll {H : Type} : List (DataW H) → Nat
  | [] => 0
  | d :: r => uptoBulk d + uptoBulkAll r
def uptoBulkEntries {H : Type} : List (Lit × DataW H) → Nat
  | [] => 0
  | x :: r => uptoBulkEntry x + uptoBulkEntries r
def uptoBulkEntry {H : Type} : Lit × DataW H → Nat
  | (.string bytes, d) => bytes.length + uptoBulk d + 1
  | (_, d) => uptoBulk d + 1
 end
def uptoSmall : (H : Type) → List (DataW H) → Bool := fun _ ds => decide (uptoBulkAll ds ≤ 1048576)
def OpenSpec.upto (s : _root_.Go.ChangeSpec) : _root_.Go.OpenSpec := { _root_.Go.OpenSpec.ofChange s with cond := some uptoSmall }

/-- 'laws.FnExactAnalyseProgram', WHERE WHAT IT READS IS OF BULK AT MOST 1048576: true; the input reads as it did. -/
def fnExactAnalyseProgramUptoRow : OpenClaim := { program := "ytmbhjcgikblpiaagreat", sum := "ea8b810fa70cd9b37f49088457a6e0c27ad0b93f435e2730adf1bdaebea3cba3", func := "loop.example/g00605/laws.FnExactAnalyseProgram", spec := "fnExactAnalyseProgram", apart := false, narrowed := true }
def FnExactAnalyseProgramUptoSaid : Prop := fnExactAnalyseProgramUptoRow.holds Tryz.pinned (OpenSpec.upto fnExactAnalyseProgramSpec)

/-- 'laws.FnExactJudgeProgram', WHERE WHAT IT READS IS OF BULK AT MOST 1048576: true; the input reads as it did. -/
def fnExactJudgeProgramUptoRow : OpenClaim := { program := "ytmbhjcgikblpiaagreat", sum := "ea8b810fa70cd9b37f49088457a6e0c27ad0b93f435e2730adf1bdaebea3cba3", func := "loop.example/g00605/laws.FnExactJudgeProgram", spec := "fnExactJudgeProgram", apart := false, narrowed := true }
def FnExactJudgeProgramUptoSaid : Prop := fnExactJudgeProgramUptoRow.holds Tryz.pinned (OpenSpec.upto fnExactJudgeProgramSpec)

/-- 'laws.FnExactCheckVerdict', WHERE WHAT IT READS IS OF BULK AT MOST 1048576: true; the input reads as it did. -/
def fnExactCheckVerdictUptoRow : OpenClaim := { program := "ytmbhjcgikblpiaagreat", sum := "ea8b810fa70cd9b37f49088457a6e0c27ad0b93f435e2730adf1bdaebea3cba3", func := "loop.example/g00605/laws.FnExactCheckVerdict", spec := "fnExactCheckVerdict", unfollowed := true, recurses := true, apart := false, narrowed := true }
def FnExactCheckVerdictUptoSaid : Prop := fnExactCheckVerdictUptoRow.holds Tryz.pinned (OpenSpec.upto fnExactCheckVerdictSpec)

/-- 'laws.FnExactJudgeBytes', WHERE WHAT IT READS IS OF BULK AT MOST 1048576: true; the input reads as it did. -/
def fnExactJudgeBytesUptoRow : OpenClaim := { program := "ytmbhjcgikblpiaagreat", sum := "ea8b810fa70cd9b37f49088457a6e0c27ad0b93f435e2730adf1bdaebea3cba3", func := "loop.example/g00605/laws.FnExactJudgeBytes", spec := "fnExactJudgeBytes", apart := false, narrowed := true }
def FnExactJudgeBytesUptoSaid : Prop := fnExactJudgeBytesUptoRow.holds Tryz.pinned (OpenSpec.upto fnExactJudgeBytesSpec)

/-- 'laws.FnExactRunLet', WHERE WHAT IT READS IS OF BULK AT MOST 1048576: true; the input reads as it did. -/
def fnExactRunLetUptoRow : OpenClaim := { program := "ytmbhjcgikblpiaagreat", sum := "ea8b810fa70cd9b37f49088457a6e0c27ad0b93f435e2730adf1bdaebea3cba3", func := "loop.example/g00605/laws.FnExactRunLet", spec := "fnExactRunLet", unfollowed := true, recurses := true, apart := false, narrowed := true }
def FnExactRunLetUptoSaid : Prop := fnExactRunLetUptoRow.holds Tryz.pinned (OpenSpec.upto fnExactRunLetSpec)

/-- 'laws.FnMay', WHERE WHAT IT READS IS OF BULK AT MOST 1048576: true; the input reads as it did. -/
def fnMayUptoRow : OpenClaim := { program := "ytmbhjcgikblpiaagreat", sum := "ea8b810fa70cd9b37f49088457a6e0c27ad0b93f435e2730adf1bdaebea3cba3", func := "loop.example/g00605/laws.FnMay", spec := "fnMay", unfollowed := true, recurses := true, apart := false, narrowed := true }
def FnMayUptoSaid : Prop := fnMayUptoRow.holds Tryz.pinned (OpenSpec.upto fnMaySpec)

/-- 'laws.FnGate', WHERE WHAT IT READS IS OF BULK AT MOST 1048576: true; the input reads as it did. -/
def fnGateUptoRow : OpenClaim := { program := "ytmbhjcgikblpiaagreat", sum := "ea8b810fa70cd9b37f49088457a6e0c27ad0b93f435e2730adf1bdaebea3cba3", func := "loop.example/g00605/laws.FnGate", spec := "fnGate", unfollowed := true, recurses := true, apart := false, narrowed := true }
def FnGateUptoSaid : Prop := fnGateUptoRow.holds Tryz.pinned (OpenSpec.upto fnGateSpec)

/-- 'laws.FnVerdicts', WHERE WHAT IT READS IS OF BULK AT MOST 1048576: true; the input reads as it did. -/
def fnVerdictsUptoRow : OpenClaim := { program := "ytmbhjcgikblpiaagreat", sum := "ea8b810fa70cd9b37f49088457a6e0c27ad0b93f435e2730adf1bdaebea3cba3", func := "loop.example/g00605/laws.FnVerdicts", spec := "fnVerdicts", unfollowed := true, recurses := true, apart := false, narrowed := true }
def FnVerdictsUptoSaid : Prop := fnVerdictsUptoRow.holds Tryz.pinned (OpenSpec.upto fnVerdictsSpec)

/-- 'laws.FnTaken', WHERE WHAT IT READS IS OF BULK AT MOST 1048576: true; the input reads as it did. -/
def fnTakenUptoRow : OpenClaim := { program := "ytmbhjcgikblpiaagreat", sum := "ea8b810fa70cd9b37f49088457a6e0c27ad0b93f435e2730adf1bdaebea3cba3", func := "loop.example/g00605/laws.FnTaken", spec := "fnTaken", unfollowed := true, recurses := true, apart := false, narrowed := true }
def FnTakenUptoSaid : Prop := fnTakenUptoRow.holds Tryz.pinned (OpenSpec.upto fnTakenSpec)

end Rows
end Go.Proofs.YtmbhjcgikblpiaaGreat
