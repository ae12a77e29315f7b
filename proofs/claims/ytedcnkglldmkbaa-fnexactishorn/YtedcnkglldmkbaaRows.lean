/-
  No cell of these rows narrows 'for every input' (looked for: loops, veiled, ifaces, maps, wideKeys, modest, calm, conditions, laid).
  DERIVED. THE GIVEN ROWS OF THIS SEAT. 12 by the template 'for every input the law returns true; each argument reads behind the call as it read before'; 0 by the template 'total and deterministic' (their statements: YtedcnkglldmkbaaTotals.lean).
  GIVEN WITH THE SEED: the statements are not yours to turn. If you find one false, say at which input.
  Laid BY PROGRAM, IN A SANDBOX (cutbox-rows.mjs): the forced cells as the released guide's own fill.sh prints them over the translation afab76cc652e6e7f… (all of the seat's roots in one cut). By AI agents, Wed Nov 11 2026. No macro, syntax, notation, axiom, sorry.
-/
import Derived.Test.YtedcnkglldmkbaaChecked
import GoSem.Claim
import GoSem.ClaimJoined
import GoSem.ClaimMapViews
import Derived.JoinedTies
import Derived.KernelRfl
namespace Go.Proofs.Ytedcnkglldmkbaa
/- THE CELL 'sum', in the pinned program and in every row, IS THE sha256 OF THE DUMP (.gsa) THAT YtedcnkglldmkbaaProg.lean LOADS. Nothing in Lean hashes anything: it is a label: what it is worth is what the hold of that sum in a sandbox is worth. -/
noncomputable def Try.pinned : Pinned := { name := "ytedcnkglldmkbaa", sum := "afab76cc652e6e7facc6caf4162b63673e2f46642ef21fb3d7c581df665915a5", checked := Try.checked }
namespace Rows
def none {H : Type} : Left H := { results := [], args := [] }

/-- 'laws.FnExactReduceBoth': WHATEVER THE INPUT: true; the input reads as it did. -/
def fnExactReduceBothSpec : ChangeSpec := { name := "fnExactReduceBoth", fn := fun _ => fun
  | [d1, d2] => { results := [.lit (.bool true)], args := [d1, d2] }
  | _ => none }
def fnExactReduceBothRow : OpenClaim := { program := "ytedcnkglldmkbaa", sum := "afab76cc652e6e7facc6caf4162b63673e2f46642ef21fb3d7c581df665915a5", func := "loop.example/g00605/laws.FnExactReduceBoth", spec := "fnExactReduceBoth", apart := false }
def FnExactReduceBothSaid : Prop := fnExactReduceBothRow.holds Try.pinned (OpenSpec.ofChange fnExactReduceBothSpec)

/-- ITS FALSE NEIGHBOUR: 'it returns false'. Refute it at one input. -/
def fnExactReduceBothWrong : ChangeSpec := { name := "fnExactReduceBoth", fn := fun _ => fun
  | [d1, d2] => { results := [.lit (.bool false)], args := [d1, d2] }
  | _ => none }
def FnExactReduceBothWrongFalsely : Prop := fnExactReduceBothRow.holds Try.pinned (OpenSpec.ofChange fnExactReduceBothWrong)

/-- 'laws.FnExactGoodRules': WHATEVER THE INPUT: true; the input reads as it did. -/
def fnExactGoodRulesSpec : ChangeSpec := { name := "fnExactGoodRules", fn := fun _ => fun
  | [d1, d2] => { results := [.lit (.bool true)], args := [d1, d2] }
  | _ => none }
def fnExactGoodRulesRow : OpenClaim := { program := "ytedcnkglldmkbaa", sum := "afab76cc652e6e7facc6caf4162b63673e2f46642ef21fb3d7c581df665915a5", func := "loop.example/g00605/laws.FnExactGoodRules", spec := "fnExactGoodRules", unfollowed := true, recurses := true, apart := false }
def FnExactGoodRulesSaid : Prop := fnExactGoodRulesRow.holds Try.pinned (OpenSpec.ofChange fnExactGoodRulesSpec)

/-- ITS FALSE NEIGHBOUR: 'it returns false'. Refute it at one input. -/
def fnExactGoodRulesWrong : ChangeSpec := { name := "fnExactGoodRules", fn := fun _ => fun
  | [d1, d2] => { results := [.lit (.bool false)], args := [d1, d2] }
  | _ => none }
def FnExactGoodRulesWrongFalsely : Prop := fnExactGoodRulesRow.holds Try.pinned (OpenSpec.ofChange fnExactGoodRulesWrong)

/-- 'laws.FnExactMeetOf': WHATEVER THE INPUT: true; the input reads as it did. -/
def fnExactMeetOfSpec : ChangeSpec := { name := "fnExactMeetOf", fn := fun _ => fun
  | [d1, d2] => { results := [.lit (.bool true)], args := [d1, d2] }
  | _ => none }
def fnExactMeetOfRow : OpenClaim := { program := "ytedcnkglldmkbaa", sum := "afab76cc652e6e7facc6caf4162b63673e2f46642ef21fb3d7c581df665915a5", func := "loop.example/g00605/laws.FnExactMeetOf", spec := "fnExactMeetOf", unfollowed := true, recurses := true, apart := false }
def FnExactMeetOfSaid : Prop := fnExactMeetOfRow.holds Try.pinned (OpenSpec.ofChange fnExactMeetOfSpec)

/-- ITS FALSE NEIGHBOUR: 'it returns false'. Refute it at one input. -/
def fnExactMeetOfWrong : ChangeSpec := { name := "fnExactMeetOf", fn := fun _ => fun
  | [d1, d2] => { results := [.lit (.bool false)], args := [d1, d2] }
  | _ => none }
def FnExactMeetOfWrongFalsely : Prop := fnExactMeetOfRow.holds Try.pinned (OpenSpec.ofChange fnExactMeetOfWrong)

/-- 'laws.FnExactIsTwo': WHATEVER THE INPUT: true; the input reads as it did. -/
def fnExactIsTwoSpec : ChangeSpec := { name := "fnExactIsTwo", fn := fun _ => fun
  | [d1, d2] => { results := [.lit (.bool true)], args := [d1, d2] }
  | _ => none }
def fnExactIsTwoRow : OpenClaim := { program := "ytedcnkglldmkbaa", sum := "afab76cc652e6e7facc6caf4162b63673e2f46642ef21fb3d7c581df665915a5", func := "loop.example/g00605/laws.FnExactIsTwo", spec := "fnExactIsTwo", unfollowed := true, recurses := true, apart := false }
def FnExactIsTwoSaid : Prop := fnExactIsTwoRow.holds Try.pinned (OpenSpec.ofChange fnExactIsTwoSpec)

/-- ITS FALSE NEIGHBOUR: 'it returns false'. Refute it at one input. -/
def fnExactIsTwoWrong : ChangeSpec := { name := "fnExactIsTwo", fn := fun _ => fun
  | [d1, d2] => { results := [.lit (.bool false)], args := [d1, d2] }
  | _ => none }
def FnExactIsTwoWrongFalsely : Prop := fnExactIsTwoRow.holds Try.pinned (OpenSpec.ofChange fnExactIsTwoWrong)

/-- 'laws.FnExactTwoOf': WHATEVER THE INPUT: true; the input reads as it did. -/
def fnExactTwoOfSpec : ChangeSpec := { name := "fnExactTwoOf", fn := fun _ => fun
  | [d1, d2] => { results := [.lit (.bool true)], args := [d1, d2] }
  | _ => none }
def fnExactTwoOfRow : OpenClaim := { program := "ytedcnkglldmkbaa", sum := "afab76cc652e6e7facc6caf4162b63673e2f46642ef21fb3d7c581df665915a5", func := "loop.example/g00605/laws.FnExactTwoOf", spec := "fnExactTwoOf", unfollowed := true, recurses := true, apart := false }
def FnExactTwoOfSaid : Prop := fnExactTwoOfRow.holds Try.pinned (OpenSpec.ofChange fnExactTwoOfSpec)

/-- ITS FALSE NEIGHBOUR: 'it returns false'. Refute it at one input. -/
def fnExactTwoOfWrong : ChangeSpec := { name := "fnExactTwoOf", fn := fun _ => fun
  | [d1, d2] => { results := [.lit (.bool false)], args := [d1, d2] }
  | _ => none }
def FnExactTwoOfWrongFalsely : Prop := fnExactTwoOfRow.holds Try.pinned (OpenSpec.ofChange fnExactTwoOfWrong)

/-- 'laws.FnExactHoldsIn': WHATEVER THE INPUT: true; the input reads as it did. -/
def fnExactHoldsInSpec : ChangeSpec := { name := "fnExactHoldsIn", fn := fun _ => fun
  | [d1, d2, d3] => { results := [.lit (.bool true)], args := [d1, d2, d3] }
  | _ => none }
def fnExactHoldsInRow : OpenClaim := { program := "ytedcnkglldmkbaa", sum := "afab76cc652e6e7facc6caf4162b63673e2f46642ef21fb3d7c581df665915a5", func := "loop.example/g00605/laws.FnExactHoldsIn", spec := "fnExactHoldsIn", unfollowed := true, recurses := true, apart := false }
def FnExactHoldsInSaid : Prop := fnExactHoldsInRow.holds Try.pinned (OpenSpec.ofChange fnExactHoldsInSpec)

/-- ITS FALSE NEIGHBOUR: 'it returns false'. Refute it at one input. -/
def fnExactHoldsInWrong : ChangeSpec := { name := "fnExactHoldsIn", fn := fun _ => fun
  | [d1, d2, d3] => { results := [.lit (.bool false)], args := [d1, d2, d3] }
  | _ => none }
def FnExactHoldsInWrongFalsely : Prop := fnExactHoldsInRow.holds Try.pinned (OpenSpec.ofChange fnExactHoldsInWrong)

/-- 'laws.FnExactIsHorn': WHATEVER THE INPUT: true; the input reads as it did. -/
def fnExactIsHornSpec : ChangeSpec := { name := "fnExactIsHorn", fn := fun _ => fun
  | [d1, d2] => { results := [.lit (.bool true)], args := [d1, d2] }
  | _ => none }
def fnExactIsHornRow : OpenClaim := { program := "ytedcnkglldmkbaa", sum := "afab76cc652e6e7facc6caf4162b63673e2f46642ef21fb3d7c581df665915a5", func := "loop.example/g00605/laws.FnExactIsHorn", spec := "fnExactIsHorn", unfollowed := true, recurses := true, apart := false }
def FnExactIsHornSaid : Prop := fnExactIsHornRow.holds Try.pinned (OpenSpec.ofChange fnExactIsHornSpec)

/-- ITS FALSE NEIGHBOUR: 'it returns false'. Refute it at one input. -/
def fnExactIsHornWrong : ChangeSpec := { name := "fnExactIsHorn", fn := fun _ => fun
  | [d1, d2] => { results := [.lit (.bool false)], args := [d1, d2] }
  | _ => none }
def FnExactIsHornWrongFalsely : Prop := fnExactIsHornRow.holds Try.pinned (OpenSpec.ofChange fnExactIsHornWrong)

/-- 'laws.FnExactReachWithin': WHATEVER THE INPUT: true; the input reads as it did. -/
def fnExactReachWithinSpec : ChangeSpec := { name := "fnExactReachWithin", fn := fun _ => fun
  | [d1, d2, d3, d4] => { results := [.lit (.bool true)], args := [d1, d2, d3, d4] }
  | _ => none }
def fnExactReachWithinRow : OpenClaim := { program := "ytedcnkglldmkbaa", sum := "afab76cc652e6e7facc6caf4162b63673e2f46642ef21fb3d7c581df665915a5", func := "loop.example/g00605/laws.FnExactReachWithin", spec := "fnExactReachWithin", unfollowed := true, recurses := true, apart := false }
def FnExactReachWithinSaid : Prop := fnExactReachWithinRow.holds Try.pinned (OpenSpec.ofChange fnExactReachWithinSpec)

/-- ITS FALSE NEIGHBOUR: 'it returns false'. Refute it at one input. -/
def fnExactReachWithinWrong : ChangeSpec := { name := "fnExactReachWithin", fn := fun _ => fun
  | [d1, d2, d3, d4] => { results := [.lit (.bool false)], args := [d1, d2, d3, d4] }
  | _ => none }
def FnExactReachWithinWrongFalsely : Prop := fnExactReachWithinRow.holds Try.pinned (OpenSpec.ofChange fnExactReachWithinWrong)

/-- 'laws.FnExactBackArcs': WHATEVER THE INPUT: true; the input reads as it did. -/
def fnExactBackArcsSpec : ChangeSpec := { name := "fnExactBackArcs", fn := fun _ => fun
  | [d1, d2] => { results := [.lit (.bool true)], args := [d1, d2] }
  | _ => none }
def fnExactBackArcsRow : OpenClaim := { program := "ytedcnkglldmkbaa", sum := "afab76cc652e6e7facc6caf4162b63673e2f46642ef21fb3d7c581df665915a5", func := "loop.example/g00605/laws.FnExactBackArcs", spec := "fnExactBackArcs", unfollowed := true, recurses := true, apart := false }
def FnExactBackArcsSaid : Prop := fnExactBackArcsRow.holds Try.pinned (OpenSpec.ofChange fnExactBackArcsSpec)

/-- ITS FALSE NEIGHBOUR: 'it returns false'. Refute it at one input. -/
def fnExactBackArcsWrong : ChangeSpec := { name := "fnExactBackArcs", fn := fun _ => fun
  | [d1, d2] => { results := [.lit (.bool false)], args := [d1, d2] }
  | _ => none }
def FnExactBackArcsWrongFalsely : Prop := fnExactBackArcsRow.holds Try.pinned (OpenSpec.ofChange fnExactBackArcsWrong)

/-- 'laws.FnExactWhyOf': WHATEVER THE INPUT: true; the input reads as it did. -/
def fnExactWhyOfSpec : ChangeSpec := { name := "fnExactWhyOf", fn := fun _ => fun
  | [d1, d2, d3] => { results := [.lit (.bool true)], args := [d1, d2, d3] }
  | _ => none }
def fnExactWhyOfRow : OpenClaim := { program := "ytedcnkglldmkbaa", sum := "afab76cc652e6e7facc6caf4162b63673e2f46642ef21fb3d7c581df665915a5", func := "loop.example/g00605/laws.FnExactWhyOf", spec := "fnExactWhyOf", unfollowed := true, recurses := true, apart := false }
def FnExactWhyOfSaid : Prop := fnExactWhyOfRow.holds Try.pinned (OpenSpec.ofChange fnExactWhyOfSpec)

/-- ITS FALSE NEIGHBOUR: 'it returns false'. Refute it at one input. -/
def fnExactWhyOfWrong : ChangeSpec := { name := "fnExactWhyOf", fn := fun _ => fun
  | [d1, d2, d3] => { results := [.lit (.bool false)], args := [d1, d2, d3] }
  | _ => none }
def FnExactWhyOfWrongFalsely : Prop := fnExactWhyOfRow.holds Try.pinned (OpenSpec.ofChange fnExactWhyOfWrong)

/-- 'laws.FnExactLeastOf': WHATEVER THE INPUT: true; the input reads as it did. -/
def fnExactLeastOfSpec : ChangeSpec := { name := "fnExactLeastOf", fn := fun _ => fun
  | [d1, d2] => { results := [.lit (.bool true)], args := [d1, d2] }
  | _ => none }
def fnExactLeastOfRow : OpenClaim := { program := "ytedcnkglldmkbaa", sum := "afab76cc652e6e7facc6caf4162b63673e2f46642ef21fb3d7c581df665915a5", func := "loop.example/g00605/laws.FnExactLeastOf", spec := "fnExactLeastOf", unfollowed := true, recurses := true, apart := false }
def FnExactLeastOfSaid : Prop := fnExactLeastOfRow.holds Try.pinned (OpenSpec.ofChange fnExactLeastOfSpec)

/-- ITS FALSE NEIGHBOUR: 'it returns false'. Refute it at one input. -/
def fnExactLeastOfWrong : ChangeSpec := { name := "fnExactLeastOf", fn := fun _ => fun
  | [d1, d2] => { results := [.lit (.bool false)], args := [d1, d2] }
  | _ => none }
def FnExactLeastOfWrongFalsely : Prop := fnExactLeastOfRow.holds Try.pinned (OpenSpec.ofChange fnExactLeastOfWrong)

/-- 'laws.FnExactRulesAsClauses': WHATEVER THE INPUT: true; the input reads as it did. -/
def fnExactRulesAsClausesSpec : ChangeSpec := { name := "fnExactRulesAsClauses", fn := fun _ => fun
  | [d1, d2] => { results := [.lit (.bool true)], args := [d1, d2] }
  | _ => none }
def fnExactRulesAsClausesRow : OpenClaim := { program := "ytedcnkglldmkbaa", sum := "afab76cc652e6e7facc6caf4162b63673e2f46642ef21fb3d7c581df665915a5", func := "loop.example/g00605/laws.FnExactRulesAsClauses", spec := "fnExactRulesAsClauses", unfollowed := true, recurses := true, apart := false }
def FnExactRulesAsClausesSaid : Prop := fnExactRulesAsClausesRow.holds Try.pinned (OpenSpec.ofChange fnExactRulesAsClausesSpec)

/-- ITS FALSE NEIGHBOUR: 'it returns false'. Refute it at one input. -/
def fnExactRulesAsClausesWrong : ChangeSpec := { name := "fnExactRulesAsClauses", fn := fun _ => fun
  | [d1, d2] => { results := [.lit (.bool false)], args := [d1, d2] }
  | _ => none }
def FnExactRulesAsClausesWrongFalsely : Prop := fnExactRulesAsClausesRow.holds Try.pinned (OpenSpec.ofChange fnExactRulesAsClausesWrong)

/- THE SECOND FORM. 'bulk': how many values and letters a reading holds, each counted each time it is reached (what is shared counts as often as it is met; a slice's spare places count too). A statement '..UptoSaid' is the law's where the arguments, and the package variables that the reading takes, are together of bulk at most 1048576: NARROWER than '..Said'. Prove '..Said' where nothing that the law and all that it calls make is longer than what came in: it says more and counts as full. Else prove '..UptoSaid'. A law counts once. -/
mutual
def uptoBulk {H : Type} : DataW H → Nat
  | .lit (.string bytes) => bytes.length + 1
  | .lit _ => 1
  | .nil => 1
  | .ptr d => uptoBulk d + 1
  | .slice elems spare => uptoBulkAll elems + uptoBulkAll spare + 1
  | .agg parts => uptoBulkAll parts + 1
  | .iface _ d => uptoBulk d + 1
  | .map entries => uptoBulkEntries entries + 1
  | .held _ => 1
def uptoBulkAll {H : Type} : List (DataW H) → Nat
  | [] => 0
  | d :: r => uptoBulk d + uptoBulkAll r
def uptoBulkEntries {H : Type} : List (Lit × DataW H) → Nat
  | [] => 0
  | x :: r => uptoBulkEntry x + uptoBulkEntries r
def uptoBulkEntry {H : Type} : Lit × DataW H → Nat
  | (.string bytes, d) => bytes.length + uptoBulk d + 1
  | (_, d) => uptoBulk d + 1
 end
def uptoSmall : (H : Type) → List (DataW H) → Bool := fun _ ds => decide (uptoBulkAll ds ≤ 1048576)
def OpenSpec.upto (s : _root_.Go.ChangeSpec) : _root_.Go.OpenSpec := { _root_.Go.OpenSpec.ofChange s with cond := some uptoSmall }

/-- 'laws.FnExactReduceBoth', WHERE WHAT IT READS IS OF BULK AT MOST 1048576: true; the input reads as it did. -/
def fnExactReduceBothUptoRow : OpenClaim := { program := "ytedcnkglldmkbaa", sum := "afab76cc652e6e7facc6caf4162b63673e2f46642ef21fb3d7c581df665915a5", func := "loop.example/g00605/laws.FnExactReduceBoth", spec := "fnExactReduceBoth", apart := false, narrowed := true }
def FnExactReduceBothUptoSaid : Prop := fnExactReduceBothUptoRow.holds Try.pinned (OpenSpec.upto fnExactReduceBothSpec)

/-- 'laws.FnExactGoodRules', WHERE WHAT IT READS IS OF BULK AT MOST 1048576: true; the input reads as it did. -/
def fnExactGoodRulesUptoRow : OpenClaim := { program := "ytedcnkglldmkbaa", sum := "afab76cc652e6e7facc6caf4162b63673e2f46642ef21fb3d7c581df665915a5", func := "loop.example/g00605/laws.FnExactGoodRules", spec := "fnExactGoodRules", unfollowed := true, recurses := true, apart := false, narrowed := true }
def FnExactGoodRulesUptoSaid : Prop := fnExactGoodRulesUptoRow.holds Try.pinned (OpenSpec.upto fnExactGoodRulesSpec)

/-- 'laws.FnExactMeetOf', WHERE WHAT IT READS IS OF BULK AT MOST 1048576: true; the input reads as it did. -/
def fnExactMeetOfUptoRow : OpenClaim := { program := "ytedcnkglldmkbaa", sum := "afab76cc652e6e7facc6caf4162b63673e2f46642ef21fb3d7c581df665915a5", func := "loop.example/g00605/laws.FnExactMeetOf", spec := "fnExactMeetOf", unfollowed := true, recurses := true, apart := false, narrowed := true }
def FnExactMeetOfUptoSaid : Prop := fnExactMeetOfUptoRow.holds Try.pinned (OpenSpec.upto fnExactMeetOfSpec)

/-- 'laws.FnExactIsTwo', WHERE WHAT IT READS IS OF BULK AT MOST 1048576: true; the input reads as it did. -/
def fnExactIsTwoUptoRow : OpenClaim := { program := "ytedcnkglldmkbaa", sum := "afab76cc652e6e7facc6caf4162b63673e2f46642ef21fb3d7c581df665915a5", func := "loop.example/g00605/laws.FnExactIsTwo", spec := "fnExactIsTwo", unfollowed := true, recurses := true, apart := false, narrowed := true }
def FnExactIsTwoUptoSaid : Prop := fnExactIsTwoUptoRow.holds Try.pinned (OpenSpec.upto fnExactIsTwoSpec)

/-- 'laws.FnExactTwoOf', WHERE WHAT IT READS IS OF BULK AT MOST 1048576: true; the input reads as it did. -/
def fnExactTwoOfUptoRow : OpenClaim := { program := "ytedcnkglldmkbaa", sum := "afab76cc652e6e7facc6caf4162b63673e2f46642ef21fb3d7c581df665915a5", func := "loop.example/g00605/laws.FnExactTwoOf", spec := "fnExactTwoOf", unfollowed := true, recurses := true, apart := false, narrowed := true }
def FnExactTwoOfUptoSaid : Prop := fnExactTwoOfUptoRow.holds Try.pinned (OpenSpec.upto fnExactTwoOfSpec)

/-- 'laws.FnExactHoldsIn', WHERE WHAT IT READS IS OF BULK AT MOST 1048576: true; the input reads as it did. -/
def fnExactHoldsInUptoRow : OpenClaim := { program := "ytedcnkglldmkbaa", sum := "afab76cc652e6e7facc6caf4162b63673e2f46642ef21fb3d7c581df665915a5", func := "loop.example/g00605/laws.FnExactHoldsIn", spec := "fnExactHoldsIn", unfollowed := true, recurses := true, apart := false, narrowed := true }
def FnExactHoldsInUptoSaid : Prop := fnExactHoldsInUptoRow.holds Try.pinned (OpenSpec.upto fnExactHoldsInSpec)

/-- 'laws.FnExactIsHorn', WHERE WHAT IT READS IS OF BULK AT MOST 1048576: true; the input reads as it did. -/
def fnExactIsHornUptoRow : OpenClaim := { program := "ytedcnkglldmkbaa", sum := "afab76cc652e6e7facc6caf4162b63673e2f46642ef21fb3d7c581df665915a5", func := "loop.example/g00605/laws.FnExactIsHorn", spec := "fnExactIsHorn", unfollowed := true, recurses := true, apart := false, narrowed := true }
def FnExactIsHornUptoSaid : Prop := fnExactIsHornUptoRow.holds Try.pinned (OpenSpec.upto fnExactIsHornSpec)

/-- 'laws.FnExactReachWithin', WHERE WHAT IT READS IS OF BULK AT MOST 1048576: true; the input reads as it did. -/
def fnExactReachWithinUptoRow : OpenClaim := { program := "ytedcnkglldmkbaa", sum := "afab76cc652e6e7facc6caf4162b63673e2f46642ef21fb3d7c581df665915a5", func := "loop.example/g00605/laws.FnExactReachWithin", spec := "fnExactReachWithin", unfollowed := true, recurses := true, apart := false, narrowed := true }
def FnExactReachWithinUptoSaid : Prop := fnExactReachWithinUptoRow.holds Try.pinned (OpenSpec.upto fnExactReachWithinSpec)

/-- 'laws.FnExactBackArcs', WHERE WHAT IT READS IS OF BULK AT MOST 1048576: true; the input reads as it did. -/
def fnExactBackArcsUptoRow : OpenClaim := { program := "ytedcnkglldmkbaa", sum := "afab76cc652e6e7facc6caf4162b63673e2f46642ef21fb3d7c581df665915a5", func := "loop.example/g00605/laws.FnExactBackArcs", spec := "fnExactBackArcs", unfollowed := true, recurses := true, apart := false, narrowed := true }
def FnExactBackArcsUptoSaid : Prop := fnExactBackArcsUptoRow.holds Try.pinned (OpenSpec.upto fnExactBackArcsSpec)

/-- 'laws.FnExactWhyOf', WHERE WHAT IT READS IS OF BULK AT MOST 1048576: true; the input reads as it did. -/
def fnExactWhyOfUptoRow : OpenClaim := { program := "ytedcnkglldmkbaa", sum := "afab76cc652e6e7facc6caf4162b63673e2f46642ef21fb3d7c581df665915a5", func := "loop.example/g00605/laws.FnExactWhyOf", spec := "fnExactWhyOf", unfollowed := true, recurses := true, apart := false, narrowed := true }
def FnExactWhyOfUptoSaid : Prop := fnExactWhyOfUptoRow.holds Try.pinned (OpenSpec.upto fnExactWhyOfSpec)

/-- 'laws.FnExactLeastOf', WHERE WHAT IT READS IS OF BULK AT MOST 1048576: true; the input reads as it did. -/
def fnExactLeastOfUptoRow : OpenClaim := { program := "ytedcnkglldmkbaa", sum := "afab76cc652e6e7facc6caf4162b63673e2f46642ef21fb3d7c581df665915a5", func := "loop.example/g00605/laws.FnExactLeastOf", spec := "fnExactLeastOf", unfollowed := true, recurses := true, apart := false, narrowed := true }
def FnExactLeastOfUptoSaid : Prop := fnExactLeastOfUptoRow.holds Try.pinned (OpenSpec.upto fnExactLeastOfSpec)

/-- 'laws.FnExactRulesAsClauses', WHERE WHAT IT READS IS OF BULK AT MOST 1048576: true; the input reads as it did. -/
def fnExactRulesAsClausesUptoRow : OpenClaim := { program := "ytedcnkglldmkbaa", sum := "afab76cc652e6e7facc6caf4162b63673e2f46642ef21fb3d7c581df665915a5", func := "loop.example/g00605/laws.FnExactRulesAsClauses", spec := "fnExactRulesAsClauses", unfollowed := true, recurses := true, apart := false, narrowed := true }
def FnExactRulesAsClausesUptoSaid : Prop := fnExactRulesAsClausesUptoRow.holds Try.pinned (OpenSpec.upto fnExactRulesAsClausesSpec)

end Rows
end Go.Proofs.Ytedcnkglldmkbaa
