/-
  No cell of these rows narrows 'for every input' (looked for: loops, veiled, ifaces, maps, wideKeys, modest, calm, conditions, laid).
  DERIVED. THE GIVEN ROWS OF THIS SEAT. 8 by the template 'for every input the law returns true; each argument reads behind the call as it read before'; 0 by the template 'total and deterministic' (their statements: YtdembjfpgfaheaaTotals.lean).
  GIVEN WITH THE SEED: the statements are not yours to turn. If you find one false, say at which input.
  Laid BY PROGRAM, IN A SANDBOX (cutbox-rows.mjs): the forced cells as the released guide's own fill.sh prints them over the translation 7ed854663018ee79… (all of the seat's roots in one cut). By AI agents, Wed Nov 11 2026. No macro, syntax, notation, axiom, sorry.
-/
import Derived.Test.YtdembjfpgfaheaaChecked
import GoSem.Claim
import GoSem.ClaimJoined
import GoSem.ClaimMapViews
import Derived.JoinedTies
import Derived.KernelRfl
namespace Go.Proofs.Ytdembjfpgfaheaa
/- THE CELL 'sum', in the pinned program and in every row, IS THE sha256 OF THE DUMP (.gsa) THAT YtdembjfpgfaheaaProg.lean LOADS. Nothing in Lean hashes anything: it is a label: what it is worth is what the hold of that sum in a sandbox is worth. -/
noncomputable def Try.pinned : Pinned := { name := "ytdembjfpgfaheaa", sum := "7ed854663018ee797da2d7fe3bc575f6301429698e371eff846e2145ca572c8a", checked := Try.checked }
namespace Rows
def none {H : Type} : Left H := { results := [], args := [] }

/-- 'laws.FnExactGoodWay': WHATEVER THE INPUT: true; the input reads as it did. -/
def fnExactGoodWaySpec : ChangeSpec := { name := "fnExactGoodWay", fn := fun _ => fun
  | [d1, d2] => { results := [.lit (.bool true)], args := [d1, d2] }
  | _ => none }
def fnExactGoodWayRow : OpenClaim := { program := "ytdembjfpgfaheaa", sum := "7ed854663018ee797da2d7fe3bc575f6301429698e371eff846e2145ca572c8a", func := "loop.example/g00605/laws.FnExactGoodWay", spec := "fnExactGoodWay", apart := false }
def FnExactGoodWaySaid : Prop := fnExactGoodWayRow.holds Try.pinned (OpenSpec.ofChange fnExactGoodWaySpec)

/-- ITS FALSE NEIGHBOUR: 'it returns false'. Refute it at one input. -/
def fnExactGoodWayWrong : ChangeSpec := { name := "fnExactGoodWay", fn := fun _ => fun
  | [d1, d2] => { results := [.lit (.bool false)], args := [d1, d2] }
  | _ => none }
def FnExactGoodWayWrongFalsely : Prop := fnExactGoodWayRow.holds Try.pinned (OpenSpec.ofChange fnExactGoodWayWrong)

/-- 'laws.FnExactTurnsIn': WHATEVER THE INPUT: true; the input reads as it did. -/
def fnExactTurnsInSpec : ChangeSpec := { name := "fnExactTurnsIn", fn := fun _ => fun
  | [d1, d2] => { results := [.lit (.bool true)], args := [d1, d2] }
  | _ => none }
def fnExactTurnsInRow : OpenClaim := { program := "ytdembjfpgfaheaa", sum := "7ed854663018ee797da2d7fe3bc575f6301429698e371eff846e2145ca572c8a", func := "loop.example/g00605/laws.FnExactTurnsIn", spec := "fnExactTurnsIn", apart := false }
def FnExactTurnsInSaid : Prop := fnExactTurnsInRow.holds Try.pinned (OpenSpec.ofChange fnExactTurnsInSpec)

/-- ITS FALSE NEIGHBOUR: 'it returns false'. Refute it at one input. -/
def fnExactTurnsInWrong : ChangeSpec := { name := "fnExactTurnsIn", fn := fun _ => fun
  | [d1, d2] => { results := [.lit (.bool false)], args := [d1, d2] }
  | _ => none }
def FnExactTurnsInWrongFalsely : Prop := fnExactTurnsInRow.holds Try.pinned (OpenSpec.ofChange fnExactTurnsInWrong)

/-- 'laws.FnExactWaysThrough': WHATEVER THE INPUT: true; the input reads as it did. -/
def fnExactWaysThroughSpec : ChangeSpec := { name := "fnExactWaysThrough", fn := fun _ => fun
  | [d] => { results := [.lit (.bool true)], args := [d] }
  | _ => none }
def fnExactWaysThroughRow : OpenClaim := { program := "ytdembjfpgfaheaa", sum := "7ed854663018ee797da2d7fe3bc575f6301429698e371eff846e2145ca572c8a", func := "loop.example/g00605/laws.FnExactWaysThrough", spec := "fnExactWaysThrough", recurses := true, apart := false }
def FnExactWaysThroughSaid : Prop := fnExactWaysThroughRow.holds Try.pinned (OpenSpec.ofChange fnExactWaysThroughSpec)

/-- ITS FALSE NEIGHBOUR: 'it returns false'. Refute it at one input. -/
def fnExactWaysThroughWrong : ChangeSpec := { name := "fnExactWaysThrough", fn := fun _ => fun
  | [d] => { results := [.lit (.bool false)], args := [d] }
  | _ => none }
def FnExactWaysThroughWrongFalsely : Prop := fnExactWaysThroughRow.holds Try.pinned (OpenSpec.ofChange fnExactWaysThroughWrong)

/-- 'laws.FnExactHarmIn': WHATEVER THE INPUT: true; the input reads as it did. -/
def fnExactHarmInSpec : ChangeSpec := { name := "fnExactHarmIn", fn := fun _ => fun
  | [d] => { results := [.lit (.bool true)], args := [d] }
  | _ => none }
def fnExactHarmInRow : OpenClaim := { program := "ytdembjfpgfaheaa", sum := "7ed854663018ee797da2d7fe3bc575f6301429698e371eff846e2145ca572c8a", func := "loop.example/g00605/laws.FnExactHarmIn", spec := "fnExactHarmIn", apart := false }
def FnExactHarmInSaid : Prop := fnExactHarmInRow.holds Try.pinned (OpenSpec.ofChange fnExactHarmInSpec)

/-- ITS FALSE NEIGHBOUR: 'it returns false'. Refute it at one input. -/
def fnExactHarmInWrong : ChangeSpec := { name := "fnExactHarmIn", fn := fun _ => fun
  | [d] => { results := [.lit (.bool false)], args := [d] }
  | _ => none }
def FnExactHarmInWrongFalsely : Prop := fnExactHarmInRow.holds Try.pinned (OpenSpec.ofChange fnExactHarmInWrong)

/-- 'laws.FnExactWayOf': WHATEVER THE INPUT: true; the input reads as it did. -/
def fnExactWayOfSpec : ChangeSpec := { name := "fnExactWayOf", fn := fun _ => fun
  | [d1, d2] => { results := [.lit (.bool true)], args := [d1, d2] }
  | _ => none }
def fnExactWayOfRow : OpenClaim := { program := "ytdembjfpgfaheaa", sum := "7ed854663018ee797da2d7fe3bc575f6301429698e371eff846e2145ca572c8a", func := "loop.example/g00605/laws.FnExactWayOf", spec := "fnExactWayOf", unfollowed := true, recurses := true, apart := false }
def FnExactWayOfSaid : Prop := fnExactWayOfRow.holds Try.pinned (OpenSpec.ofChange fnExactWayOfSpec)

/-- ITS FALSE NEIGHBOUR: 'it returns false'. Refute it at one input. -/
def fnExactWayOfWrong : ChangeSpec := { name := "fnExactWayOf", fn := fun _ => fun
  | [d1, d2] => { results := [.lit (.bool false)], args := [d1, d2] }
  | _ => none }
def FnExactWayOfWrongFalsely : Prop := fnExactWayOfRow.holds Try.pinned (OpenSpec.ofChange fnExactWayOfWrong)

/-- 'laws.FnExactFollowWay': WHATEVER THE INPUT: true; the input reads as it did. -/
def fnExactFollowWaySpec : ChangeSpec := { name := "fnExactFollowWay", fn := fun _ => fun
  | [d1, d2, d3] => { results := [.lit (.bool true)], args := [d1, d2, d3] }
  | _ => none }
def fnExactFollowWayRow : OpenClaim := { program := "ytdembjfpgfaheaa", sum := "7ed854663018ee797da2d7fe3bc575f6301429698e371eff846e2145ca572c8a", func := "loop.example/g00605/laws.FnExactFollowWay", spec := "fnExactFollowWay", unfollowed := true, recurses := true, apart := false }
def FnExactFollowWaySaid : Prop := fnExactFollowWayRow.holds Try.pinned (OpenSpec.ofChange fnExactFollowWaySpec)

/-- ITS FALSE NEIGHBOUR: 'it returns false'. Refute it at one input. -/
def fnExactFollowWayWrong : ChangeSpec := { name := "fnExactFollowWay", fn := fun _ => fun
  | [d1, d2, d3] => { results := [.lit (.bool false)], args := [d1, d2, d3] }
  | _ => none }
def FnExactFollowWayWrongFalsely : Prop := fnExactFollowWayRow.holds Try.pinned (OpenSpec.ofChange fnExactFollowWayWrong)

/-- 'laws.FnExactPlacesRead': WHATEVER THE INPUT: true; the input reads as it did. -/
def fnExactPlacesReadSpec : ChangeSpec := { name := "fnExactPlacesRead", fn := fun _ => fun
  | [d1, d2] => { results := [.lit (.bool true)], args := [d1, d2] }
  | _ => none }
def fnExactPlacesReadRow : OpenClaim := { program := "ytdembjfpgfaheaa", sum := "7ed854663018ee797da2d7fe3bc575f6301429698e371eff846e2145ca572c8a", func := "loop.example/g00605/laws.FnExactPlacesRead", spec := "fnExactPlacesRead", recurses := true, apart := false }
def FnExactPlacesReadSaid : Prop := fnExactPlacesReadRow.holds Try.pinned (OpenSpec.ofChange fnExactPlacesReadSpec)

/-- ITS FALSE NEIGHBOUR: 'it returns false'. Refute it at one input. -/
def fnExactPlacesReadWrong : ChangeSpec := { name := "fnExactPlacesRead", fn := fun _ => fun
  | [d1, d2] => { results := [.lit (.bool false)], args := [d1, d2] }
  | _ => none }
def FnExactPlacesReadWrongFalsely : Prop := fnExactPlacesReadRow.holds Try.pinned (OpenSpec.ofChange fnExactPlacesReadWrong)

/-- 'laws.FnWays': WHATEVER THE INPUT: true; the input reads as it did. -/
def fnWaysSpec : ChangeSpec := { name := "fnWays", fn := fun _ => fun
  | [d1, d2] => { results := [.lit (.bool true)], args := [d1, d2] }
  | _ => none }
def fnWaysRow : OpenClaim := { program := "ytdembjfpgfaheaa", sum := "7ed854663018ee797da2d7fe3bc575f6301429698e371eff846e2145ca572c8a", func := "loop.example/g00605/laws.FnWays", spec := "fnWays", unfollowed := true, recurses := true, apart := false }
def FnWaysSaid : Prop := fnWaysRow.holds Try.pinned (OpenSpec.ofChange fnWaysSpec)

/-- ITS FALSE NEIGHBOUR: 'it returns false'. Refute it at one input. -/
def fnWaysWrong : ChangeSpec := { name := "fnWays", fn := fun _ => fun
  | [d1, d2] => { results := [.lit (.bool false)], args := [d1, d2] }
  | _ => none }
def FnWaysWrongFalsely : Prop := fnWaysRow.holds Try.pinned (OpenSpec.ofChange fnWaysWrong)

/- THE SECOND FORM. 'bulk': how many values and letters a reading holds, each counted each time it is reached (what is shared counts as often as it is met; a slice's spare places count too). A statement '..UptoSaid' is the law's where the arguments, and the package variables that the reading takes, are together of bulk at most 1048576: NARROWER than '..Said'. Prove '..Said' where nothing that the law and all that it calls make is longer than what came in: it says more and counts as full. Else prove '..UptoSaid'. A law counts once. -/
mutual
def uptoBulk {H : Type} : DataW H → Nat
  | .lit (.string bytes) => bytes.length + 1
  | .lit _ => 1
  | .nil => 1
  | .ptr d => uptoBulk d + 1
  | .slice elems spare => uptoBulkAll elems + uptoBulkAll spare + 1
  | .agg parts => uptoBulkAll parts + 1
  | .iface _ d => uptoBulk d + 1
  | .map entries => uptoBulkEntries entries + 1
  | .held _ => 1
def uptoBulkAll {H : Type} : List (DataW H) → Nat
  | [] => 0
  | d :: r => uptoBulk d + uptoBulkAll r
def uptoBulkEntries {H : Type} : List (Lit × DataW H) → Nat
  | [] => 0
  | x :: r => uptoBulkEntry x + uptoBulkEntries r
def uptoBulkEntry {H : Type} : Lit × DataW H → Nat
  | (.string bytes, d) => bytes.length + uptoBulk d + 1
  | (_, d) => uptoBulk d + 1
 end
def uptoSmall : (H : Type) → List (DataW H) → Bool := fun _ ds => decide (uptoBulkAll ds ≤ 1048576)
def OpenSpec.upto (s : _root_.Go.ChangeSpec) : _root_.Go.OpenSpec := { _root_.Go.OpenSpec.ofChange s with cond := some uptoSmall }

/-- 'laws.FnExactGoodWay', WHERE WHAT IT READS IS OF BULK AT MOST 1048576: true; the input reads as it did. -/
def fnExactGoodWayUptoRow : OpenClaim := { program := "ytdembjfpgfaheaa", sum := "7ed854663018ee797da2d7fe3bc575f6301429698e371eff846e2145ca572c8a", func := "loop.example/g00605/laws.FnExactGoodWay", spec := "fnExactGoodWay", apart := false, narrowed := true }
def FnExactGoodWayUptoSaid : Prop := fnExactGoodWayUptoRow.holds Try.pinned (OpenSpec.upto fnExactGoodWaySpec)

/-- 'laws.FnExactTurnsIn', WHERE WHAT IT READS IS OF BULK AT MOST 1048576: true; the input reads as it did. -/
def fnExactTurnsInUptoRow : OpenClaim := { program := "ytdembjfpgfaheaa", sum := "7ed854663018ee797da2d7fe3bc575f6301429698e371eff846e2145ca572c8a", func := "loop.example/g00605/laws.FnExactTurnsIn", spec := "fnExactTurnsIn", apart := false, narrowed := true }
def FnExactTurnsInUptoSaid : Prop := fnExactTurnsInUptoRow.holds Try.pinned (OpenSpec.upto fnExactTurnsInSpec)

/-- 'laws.FnExactWaysThrough', WHERE WHAT IT READS IS OF BULK AT MOST 1048576: true; the input reads as it did. -/
def fnExactWaysThroughUptoRow : OpenClaim := { program := "ytdembjfpgfaheaa", sum := "7ed854663018ee797da2d7fe3bc575f6301429698e371eff846e2145ca572c8a", func := "loop.example/g00605/laws.FnExactWaysThrough", spec := "fnExactWaysThrough", recurses := true, apart := false, narrowed := true }
def FnExactWaysThroughUptoSaid : Prop := fnExactWaysThroughUptoRow.holds Try.pinned (OpenSpec.upto fnExactWaysThroughSpec)

/-- 'laws.FnExactHarmIn', WHERE WHAT IT READS IS OF BULK AT MOST 1048576: true; the input reads as it did. -/
def fnExactHarmInUptoRow : OpenClaim := { program := "ytdembjfpgfaheaa", sum := "7ed854663018ee797da2d7fe3bc575f6301429698e371eff846e2145ca572c8a", func := "loop.example/g00605/laws.FnExactHarmIn", spec := "fnExactHarmIn", apart := false, narrowed := true }
def FnExactHarmInUptoSaid : Prop := fnExactHarmInUptoRow.holds Try.pinned (OpenSpec.upto fnExactHarmInSpec)

/-- 'laws.FnExactWayOf', WHERE WHAT IT READS IS OF BULK AT MOST 1048576: true; the input reads as it did. -/
def fnExactWayOfUptoRow : OpenClaim := { program := "ytdembjfpgfaheaa", sum := "7ed854663018ee797da2d7fe3bc575f6301429698e371eff846e2145ca572c8a", func := "loop.example/g00605/laws.FnExactWayOf", spec := "fnExactWayOf", unfollowed := true, recurses := true, apart := false, narrowed := true }
def FnExactWayOfUptoSaid : Prop := fnExactWayOfUptoRow.holds Try.pinned (OpenSpec.upto fnExactWayOfSpec)

/-- 'laws.FnExactFollowWay', WHERE WHAT IT READS IS OF BULK AT MOST 1048576: true; the input reads as it did. -/
def fnExactFollowWayUptoRow : OpenClaim := { program := "ytdembjfpgfaheaa", sum := "7ed854663018ee797da2d7fe3bc575f6301429698e371eff846e2145ca572c8a", func := "loop.example/g00605/laws.FnExactFollowWay", spec := "fnExactFollowWay", unfollowed := true, recurses := true, apart := false, narrowed := true }
def FnExactFollowWayUptoSaid : Prop := fnExactFollowWayUptoRow.holds Try.pinned (OpenSpec.upto fnExactFollowWaySpec)

/-- 'laws.FnExactPlacesRead', WHERE WHAT IT READS IS OF BULK AT MOST 1048576: true; the input reads as it did. -/
def fnExactPlacesReadUptoRow : OpenClaim := { program := "ytdembjfpgfaheaa", sum := "7ed854663018ee797da2d7fe3bc575f6301429698e371eff846e2145ca572c8a", func := "loop.example/g00605/laws.FnExactPlacesRead", spec := "fnExactPlacesRead", recurses := true, apart := false, narrowed := true }
def FnExactPlacesReadUptoSaid : Prop := fnExactPlacesReadUptoRow.holds Try.pinned (OpenSpec.upto fnExactPlacesReadSpec)

/-- 'laws.FnWays', WHERE WHAT IT READS IS OF BULK AT MOST 1048576: true; the input reads as it did. -/
def fnWaysUptoRow : OpenClaim := { program := "ytdembjfpgfaheaa", sum := "7ed854663018ee797da2d7fe3bc575f6301429698e371eff846e2145ca572c8a", func := "loop.example/g00605/laws.FnWays", spec := "fnWays", unfollowed := true, recurses := true, apart := false, narrowed := true }
def FnWaysUptoSaid : Prop := fnWaysUptoRow.holds Try.pinned (OpenSpec.upto fnWaysSpec)

end Rows
end Go.Proofs.Ytdembjfpgfaheaa
