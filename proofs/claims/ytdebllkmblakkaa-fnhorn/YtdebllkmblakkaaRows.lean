/-
  No cell of these rows narrows 'for every input' (looked for: loops, veiled, ifaces, maps, wideKeys, modest, calm, conditions, laid).
  DERIVED. THE GIVEN ROWS OF THIS SEAT. 11 by the template 'for every input the law returns true; each argument reads behind the call as it read before'; 0 by the template 'total and deterministic' (their statements: YtdebllkmblakkaaTotals.lean).
  GIVEN WITH THE SEED: the statements are not yours to turn. If you find one false, say at which input.
  Laid BY PROGRAM, IN A SANDBOX (cutbox-rows.mjs): the forced cells as the released guide's own fill.sh prints them over the translation 33c3dffad40b4b83… (all of the seat's roots in one cut). By AI agents, Wed Nov 11 2026. No macro, syntax, notation, axiom, sorry.
-/
import Derived.Test.YtdebllkmblakkaaChecked
import GoSem.Claim
import GoSem.ClaimJoined
import GoSem.ClaimMapViews
import Derived.JoinedTies
import Derived.KernelRfl
namespace Go.Proofs.Ytdebllkmblakkaa
/- THE CELL 'sum', in the pinned program and in every row, IS THE sha256 OF THE DUMP (.gsa) THAT YtdebllkmblakkaaProg.lean LOADS. Nothing in Lean hashes anything: it is a label: what it is worth is what the hold of that sum in a sandbox is worth. -/
noncomputable def Try.pinned : Pinned := { name := "ytdebllkmblakkaa", sum := "33c3dffad40b4b833f86d0692757a56690f51f3c1bc5020f13b3fab53750a5d6", checked := Try.checked }
namespace Rows
def none {H : Type} : Left H := { results := [], args := [] }

/-- 'laws.FnExactOpposed': WHATEVER THE INPUT: true; the input reads as it did. -/
def fnExactOpposedSpec : ChangeSpec := { name := "fnExactOpposed", fn := fun _ => fun
  | [d1, d2] => { results := [.lit (.bool true)], args := [d1, d2] }
  | _ => none }
def fnExactOpposedRow : OpenClaim := { program := "ytdebllkmblakkaa", sum := "33c3dffad40b4b833f86d0692757a56690f51f3c1bc5020f13b3fab53750a5d6", func := "loop.example/g00605/laws.FnExactOpposed", spec := "fnExactOpposed", unfollowed := true, recurses := true, apart := false }
def FnExactOpposedSaid : Prop := fnExactOpposedRow.holds Try.pinned (OpenSpec.ofChange fnExactOpposedSpec)

/-- ITS FALSE NEIGHBOUR: 'it returns false'. Refute it at one input. -/
def fnExactOpposedWrong : ChangeSpec := { name := "fnExactOpposed", fn := fun _ => fun
  | [d1, d2] => { results := [.lit (.bool false)], args := [d1, d2] }
  | _ => none }
def FnExactOpposedWrongFalsely : Prop := fnExactOpposedRow.holds Try.pinned (OpenSpec.ofChange fnExactOpposedWrong)

/-- 'laws.FnExactLeadsTo': WHATEVER THE INPUT: true; the input reads as it did. -/
def fnExactLeadsToSpec : ChangeSpec := { name := "fnExactLeadsTo", fn := fun _ => fun
  | [d1, d2, d3] => { results := [.lit (.bool true)], args := [d1, d2, d3] }
  | _ => none }
def fnExactLeadsToRow : OpenClaim := { program := "ytdebllkmblakkaa", sum := "33c3dffad40b4b833f86d0692757a56690f51f3c1bc5020f13b3fab53750a5d6", func := "loop.example/g00605/laws.FnExactLeadsTo", spec := "fnExactLeadsTo", unfollowed := true, recurses := true, apart := false }
def FnExactLeadsToSaid : Prop := fnExactLeadsToRow.holds Try.pinned (OpenSpec.ofChange fnExactLeadsToSpec)

/-- ITS FALSE NEIGHBOUR: 'it returns false'. Refute it at one input. -/
def fnExactLeadsToWrong : ChangeSpec := { name := "fnExactLeadsTo", fn := fun _ => fun
  | [d1, d2, d3] => { results := [.lit (.bool false)], args := [d1, d2, d3] }
  | _ => none }
def FnExactLeadsToWrongFalsely : Prop := fnExactLeadsToRow.holds Try.pinned (OpenSpec.ofChange fnExactLeadsToWrong)

/-- 'laws.FnExactFixed': WHATEVER THE INPUT: true; the input reads as it did. -/
def fnExactFixedSpec : ChangeSpec := { name := "fnExactFixed", fn := fun _ => fun
  | [d1, d2] => { results := [.lit (.bool true)], args := [d1, d2] }
  | _ => none }
def fnExactFixedRow : OpenClaim := { program := "ytdebllkmblakkaa", sum := "33c3dffad40b4b833f86d0692757a56690f51f3c1bc5020f13b3fab53750a5d6", func := "loop.example/g00605/laws.FnExactFixed", spec := "fnExactFixed", unfollowed := true, recurses := true, apart := false }
def FnExactFixedSaid : Prop := fnExactFixedRow.holds Try.pinned (OpenSpec.ofChange fnExactFixedSpec)

/-- ITS FALSE NEIGHBOUR: 'it returns false'. Refute it at one input. -/
def fnExactFixedWrong : ChangeSpec := { name := "fnExactFixed", fn := fun _ => fun
  | [d1, d2] => { results := [.lit (.bool false)], args := [d1, d2] }
  | _ => none }
def FnExactFixedWrongFalsely : Prop := fnExactFixedRow.holds Try.pinned (OpenSpec.ofChange fnExactFixedWrong)

/-- 'laws.FnExactLoopsOf': WHATEVER THE INPUT: true; the input reads as it did. -/
def fnExactLoopsOfSpec : ChangeSpec := { name := "fnExactLoopsOf", fn := fun _ => fun
  | [d1, d2] => { results := [.lit (.bool true)], args := [d1, d2] }
  | _ => none }
def fnExactLoopsOfRow : OpenClaim := { program := "ytdebllkmblakkaa", sum := "33c3dffad40b4b833f86d0692757a56690f51f3c1bc5020f13b3fab53750a5d6", func := "loop.example/g00605/laws.FnExactLoopsOf", spec := "fnExactLoopsOf", unfollowed := true, recurses := true, apart := false }
def FnExactLoopsOfSaid : Prop := fnExactLoopsOfRow.holds Try.pinned (OpenSpec.ofChange fnExactLoopsOfSpec)

/-- ITS FALSE NEIGHBOUR: 'it returns false'. Refute it at one input. -/
def fnExactLoopsOfWrong : ChangeSpec := { name := "fnExactLoopsOf", fn := fun _ => fun
  | [d1, d2] => { results := [.lit (.bool false)], args := [d1, d2] }
  | _ => none }
def FnExactLoopsOfWrongFalsely : Prop := fnExactLoopsOfRow.holds Try.pinned (OpenSpec.ofChange fnExactLoopsOfWrong)

/-- 'laws.FnExactSolveTwo': WHATEVER THE INPUT: true; the input reads as it did. -/
def fnExactSolveTwoSpec : ChangeSpec := { name := "fnExactSolveTwo", fn := fun _ => fun
  | [d1, d2] => { results := [.lit (.bool true)], args := [d1, d2] }
  | _ => none }
def fnExactSolveTwoRow : OpenClaim := { program := "ytdebllkmblakkaa", sum := "33c3dffad40b4b833f86d0692757a56690f51f3c1bc5020f13b3fab53750a5d6", func := "loop.example/g00605/laws.FnExactSolveTwo", spec := "fnExactSolveTwo", unfollowed := true, recurses := true, apart := false }
def FnExactSolveTwoSaid : Prop := fnExactSolveTwoRow.holds Try.pinned (OpenSpec.ofChange fnExactSolveTwoSpec)

/-- ITS FALSE NEIGHBOUR: 'it returns false'. Refute it at one input. -/
def fnExactSolveTwoWrong : ChangeSpec := { name := "fnExactSolveTwo", fn := fun _ => fun
  | [d1, d2] => { results := [.lit (.bool false)], args := [d1, d2] }
  | _ => none }
def FnExactSolveTwoWrongFalsely : Prop := fnExactSolveTwoRow.holds Try.pinned (OpenSpec.ofChange fnExactSolveTwoWrong)

/-- 'laws.FnLeads': WHATEVER THE INPUT: true; the input reads as it did. -/
def fnLeadsSpec : ChangeSpec := { name := "fnLeads", fn := fun _ => fun
  | [d1, d2] => { results := [.lit (.bool true)], args := [d1, d2] }
  | _ => none }
def fnLeadsRow : OpenClaim := { program := "ytdebllkmblakkaa", sum := "33c3dffad40b4b833f86d0692757a56690f51f3c1bc5020f13b3fab53750a5d6", func := "loop.example/g00605/laws.FnLeads", spec := "fnLeads", unfollowed := true, recurses := true, apart := false }
def FnLeadsSaid : Prop := fnLeadsRow.holds Try.pinned (OpenSpec.ofChange fnLeadsSpec)

/-- ITS FALSE NEIGHBOUR: 'it returns false'. Refute it at one input. -/
def fnLeadsWrong : ChangeSpec := { name := "fnLeads", fn := fun _ => fun
  | [d1, d2] => { results := [.lit (.bool false)], args := [d1, d2] }
  | _ => none }
def FnLeadsWrongFalsely : Prop := fnLeadsRow.holds Try.pinned (OpenSpec.ofChange fnLeadsWrong)

/-- 'laws.FnTwos': WHATEVER THE INPUT: true; the input reads as it did. -/
def fnTwosSpec : ChangeSpec := { name := "fnTwos", fn := fun _ => fun
  | [d1, d2] => { results := [.lit (.bool true)], args := [d1, d2] }
  | _ => none }
def fnTwosRow : OpenClaim := { program := "ytdebllkmblakkaa", sum := "33c3dffad40b4b833f86d0692757a56690f51f3c1bc5020f13b3fab53750a5d6", func := "loop.example/g00605/laws.FnTwos", spec := "fnTwos", unfollowed := true, recurses := true, apart := false }
def FnTwosSaid : Prop := fnTwosRow.holds Try.pinned (OpenSpec.ofChange fnTwosSpec)

/-- ITS FALSE NEIGHBOUR: 'it returns false'. Refute it at one input. -/
def fnTwosWrong : ChangeSpec := { name := "fnTwos", fn := fun _ => fun
  | [d1, d2] => { results := [.lit (.bool false)], args := [d1, d2] }
  | _ => none }
def FnTwosWrongFalsely : Prop := fnTwosRow.holds Try.pinned (OpenSpec.ofChange fnTwosWrong)

/-- 'laws.FnLeast': WHATEVER THE INPUT: true; the input reads as it did. -/
def fnLeastSpec : ChangeSpec := { name := "fnLeast", fn := fun _ => fun
  | [d1, d2] => { results := [.lit (.bool true)], args := [d1, d2] }
  | _ => none }
def fnLeastRow : OpenClaim := { program := "ytdebllkmblakkaa", sum := "33c3dffad40b4b833f86d0692757a56690f51f3c1bc5020f13b3fab53750a5d6", func := "loop.example/g00605/laws.FnLeast", spec := "fnLeast", unfollowed := true, recurses := true, apart := false }
def FnLeastSaid : Prop := fnLeastRow.holds Try.pinned (OpenSpec.ofChange fnLeastSpec)

/-- ITS FALSE NEIGHBOUR: 'it returns false'. Refute it at one input. -/
def fnLeastWrong : ChangeSpec := { name := "fnLeast", fn := fun _ => fun
  | [d1, d2] => { results := [.lit (.bool false)], args := [d1, d2] }
  | _ => none }
def FnLeastWrongFalsely : Prop := fnLeastRow.holds Try.pinned (OpenSpec.ofChange fnLeastWrong)

/-- 'laws.FnHorn': WHATEVER THE INPUT: true; the input reads as it did. -/
def fnHornSpec : ChangeSpec := { name := "fnHorn", fn := fun _ => fun
  | [d1, d2] => { results := [.lit (.bool true)], args := [d1, d2] }
  | _ => none }
def fnHornRow : OpenClaim := { program := "ytdebllkmblakkaa", sum := "33c3dffad40b4b833f86d0692757a56690f51f3c1bc5020f13b3fab53750a5d6", func := "loop.example/g00605/laws.FnHorn", spec := "fnHorn", unfollowed := true, recurses := true, apart := false }
def FnHornSaid : Prop := fnHornRow.holds Try.pinned (OpenSpec.ofChange fnHornSpec)

/-- ITS FALSE NEIGHBOUR: 'it returns false'. Refute it at one input. -/
def fnHornWrong : ChangeSpec := { name := "fnHorn", fn := fun _ => fun
  | [d1, d2] => { results := [.lit (.bool false)], args := [d1, d2] }
  | _ => none }
def FnHornWrongFalsely : Prop := fnHornRow.holds Try.pinned (OpenSpec.ofChange fnHornWrong)

/-- 'laws.FnEnough': WHATEVER THE INPUT: true; the input reads as it did. -/
def fnEnoughSpec : ChangeSpec := { name := "fnEnough", fn := fun _ => fun
  | [d1, d2] => { results := [.lit (.bool true)], args := [d1, d2] }
  | _ => none }
def fnEnoughRow : OpenClaim := { program := "ytdebllkmblakkaa", sum := "33c3dffad40b4b833f86d0692757a56690f51f3c1bc5020f13b3fab53750a5d6", func := "loop.example/g00605/laws.FnEnough", spec := "fnEnough", unfollowed := true, recurses := true, apart := false }
def FnEnoughSaid : Prop := fnEnoughRow.holds Try.pinned (OpenSpec.ofChange fnEnoughSpec)

/-- ITS FALSE NEIGHBOUR: 'it returns false'. Refute it at one input. -/
def fnEnoughWrong : ChangeSpec := { name := "fnEnough", fn := fun _ => fun
  | [d1, d2] => { results := [.lit (.bool false)], args := [d1, d2] }
  | _ => none }
def FnEnoughWrongFalsely : Prop := fnEnoughRow.holds Try.pinned (OpenSpec.ofChange fnEnoughWrong)

/-- 'laws.FnLaidOut': WHATEVER THE INPUT: true; the input reads as it did. -/
def fnLaidOutSpec : ChangeSpec := { name := "fnLaidOut", fn := fun _ => fun
  | [d1, d2] => { results := [.lit (.bool true)], args := [d1, d2] }
  | _ => none }
def fnLaidOutRow : OpenClaim := { program := "ytdebllkmblakkaa", sum := "33c3dffad40b4b833f86d0692757a56690f51f3c1bc5020f13b3fab53750a5d6", func := "loop.example/g00605/laws.FnLaidOut", spec := "fnLaidOut", unfollowed := true, recurses := true, apart := false }
def FnLaidOutSaid : Prop := fnLaidOutRow.holds Try.pinned (OpenSpec.ofChange fnLaidOutSpec)

/-- ITS FALSE NEIGHBOUR: 'it returns false'. Refute it at one input. -/
def fnLaidOutWrong : ChangeSpec := { name := "fnLaidOut", fn := fun _ => fun
  | [d1, d2] => { results := [.lit (.bool false)], args := [d1, d2] }
  | _ => none }
def FnLaidOutWrongFalsely : Prop := fnLaidOutRow.holds Try.pinned (OpenSpec.ofChange fnLaidOutWrong)

/- THE SECOND FORM. 'bulk': how many values and letters a reading holds, each counted each time it is reached (what is shared counts as often as it is met; a slice's spare places count too). A statement '..UptoSaid' is the law's where the arguments, and the package variables that the reading takes, are together of bulk at most 1048576: NARROWER than '..Said'. Prove '..Said' where nothing that the law and all that it calls make is longer than what came in: it says more and counts as full. Else prove '..UptoSaid'. A law counts once. -/
mutual
def uptoBulk {H : Type} : DataW H → Nat
  | .lit (.string bytes) => bytes.length + 1
  | .lit _ => 1
  | .nil => 1
  | .ptr d => uptoBulk d + 1
  | .slice elems spare => uptoBulkAll elems + uptoBulkAll spare + 1
  | .agg parts => uptoBulkAll parts + 1
  | .iface _ d => uptoBulk d + 1
  | .map entries => uptoBulkEntries entries + 1
  | .held _ => 1
def uptoBulkAll {H : Type} : List (DataW H) → Nat
  | [] => 0
  | d :: r => uptoBulk d + uptoBulkAll r
def uptoBulkEntries {H : Type} : List (Lit × DataW H) → Nat
  | [] => 0
  | x :: r => uptoBulkEntry x + uptoBulkEntries r
def uptoBulkEntry {H : Type} : Lit × DataW H → Nat
  | (.string bytes, d) => bytes.length + uptoBulk d + 1
  | (_, d) => uptoBulk d + 1
 end
def uptoSmall : (H : Type) → List (DataW H) → Bool := fun _ ds => decide (uptoBulkAll ds ≤ 1048576)
def OpenSpec.upto (s : _root_.Go.ChangeSpec) : _root_.Go.OpenSpec := { _root_.Go.OpenSpec.ofChange s with cond := some uptoSmall }

/-- 'laws.FnExactOpposed', WHERE WHAT IT READS IS OF BULK AT MOST 1048576: true; the input reads as it did. -/
def fnExactOpposedUptoRow : OpenClaim := { program := "ytdebllkmblakkaa", sum := "33c3dffad40b4b833f86d0692757a56690f51f3c1bc5020f13b3fab53750a5d6", func := "loop.example/g00605/laws.FnExactOpposed", spec := "fnExactOpposed", unfollowed := true, recurses := true, apart := false, narrowed := true }
def FnExactOpposedUptoSaid : Prop := fnExactOpposedUptoRow.holds Try.pinned (OpenSpec.upto fnExactOpposedSpec)

/-- 'laws.FnExactLeadsTo', WHERE WHAT IT READS IS OF BULK AT MOST 1048576: true; the input reads as it did. -/
def fnExactLeadsToUptoRow : OpenClaim := { program := "ytdebllkmblakkaa", sum := "33c3dffad40b4b833f86d0692757a56690f51f3c1bc5020f13b3fab53750a5d6", func := "loop.example/g00605/laws.FnExactLeadsTo", spec := "fnExactLeadsTo", unfollowed := true, recurses := true, apart := false, narrowed := true }
def FnExactLeadsToUptoSaid : Prop := fnExactLeadsToUptoRow.holds Try.pinned (OpenSpec.upto fnExactLeadsToSpec)

/-- 'laws.FnExactFixed', WHERE WHAT IT READS IS OF BULK AT MOST 1048576: true; the input reads as it did. -/
def fnExactFixedUptoRow : OpenClaim := { program := "ytdebllkmblakkaa", sum := "33c3dffad40b4b833f86d0692757a56690f51f3c1bc5020f13b3fab53750a5d6", func := "loop.example/g00605/laws.FnExactFixed", spec := "fnExactFixed", unfollowed := true, recurses := true, apart := false, narrowed := true }
def FnExactFixedUptoSaid : Prop := fnExactFixedUptoRow.holds Try.pinned (OpenSpec.upto fnExactFixedSpec)

/-- 'laws.FnExactLoopsOf', WHERE WHAT IT READS IS OF BULK AT MOST 1048576: true; the input reads as it did. -/
def fnExactLoopsOfUptoRow : OpenClaim := { program := "ytdebllkmblakkaa", sum := "33c3dffad40b4b833f86d0692757a56690f51f3c1bc5020f13b3fab53750a5d6", func := "loop.example/g00605/laws.FnExactLoopsOf", spec := "fnExactLoopsOf", unfollowed := true, recurses := true, apart := false, narrowed := true }
def FnExactLoopsOfUptoSaid : Prop := fnExactLoopsOfUptoRow.holds Try.pinned (OpenSpec.upto fnExactLoopsOfSpec)

/-- 'laws.FnExactSolveTwo', WHERE WHAT IT READS IS OF BULK AT MOST 1048576: true; the input reads as it did. -/
def fnExactSolveTwoUptoRow : OpenClaim := { program := "ytdebllkmblakkaa", sum := "33c3dffad40b4b833f86d0692757a56690f51f3c1bc5020f13b3fab53750a5d6", func := "loop.example/g00605/laws.FnExactSolveTwo", spec := "fnExactSolveTwo", unfollowed := true, recurses := true, apart := false, narrowed := true }
def FnExactSolveTwoUptoSaid : Prop := fnExactSolveTwoUptoRow.holds Try.pinned (OpenSpec.upto fnExactSolveTwoSpec)

/-- 'laws.FnLeads', WHERE WHAT IT READS IS OF BULK AT MOST 1048576: true; the input reads as it did. -/
def fnLeadsUptoRow : OpenClaim := { program := "ytdebllkmblakkaa", sum := "33c3dffad40b4b833f86d0692757a56690f51f3c1bc5020f13b3fab53750a5d6", func := "loop.example/g00605/laws.FnLeads", spec := "fnLeads", unfollowed := true, recurses := true, apart := false, narrowed := true }
def FnLeadsUptoSaid : Prop := fnLeadsUptoRow.holds Try.pinned (OpenSpec.upto fnLeadsSpec)

/-- 'laws.FnTwos', WHERE WHAT IT READS IS OF BULK AT MOST 1048576: true; the input reads as it did. -/
def fnTwosUptoRow : OpenClaim := { program := "ytdebllkmblakkaa", sum := "33c3dffad40b4b833f86d0692757a56690f51f3c1bc5020f13b3fab53750a5d6", func := "loop.example/g00605/laws.FnTwos", spec := "fnTwos", unfollowed := true, recurses := true, apart := false, narrowed := true }
def FnTwosUptoSaid : Prop := fnTwosUptoRow.holds Try.pinned (OpenSpec.upto fnTwosSpec)

/-- 'laws.FnLeast', WHERE WHAT IT READS IS OF BULK AT MOST 1048576: true; the input reads as it did. -/
def fnLeastUptoRow : OpenClaim := { program := "ytdebllkmblakkaa", sum := "33c3dffad40b4b833f86d0692757a56690f51f3c1bc5020f13b3fab53750a5d6", func := "loop.example/g00605/laws.FnLeast", spec := "fnLeast", unfollowed := true, recurses := true, apart := false, narrowed := true }
def FnLeastUptoSaid : Prop := fnLeastUptoRow.holds Try.pinned (OpenSpec.upto fnLeastSpec)

/-- 'laws.FnHorn', WHERE WHAT IT READS IS OF BULK AT MOST 1048576: true; the input reads as it did. -/
def fnHornUptoRow : OpenClaim := { program := "ytdebllkmblakkaa", sum := "33c3dffad40b4b833f86d0692757a56690f51f3c1bc5020f13b3fab53750a5d6", func := "loop.example/g00605/laws.FnHorn", spec := "fnHorn", unfollowed := true, recurses := true, apart := false, narrowed := true }
def FnHornUptoSaid : Prop := fnHornUptoRow.holds Try.pinned (OpenSpec.upto fnHornSpec)

/-- 'laws.FnEnough', WHERE WHAT IT READS IS OF BULK AT MOST 1048576: true; the input reads as it did. -/
def fnEnoughUptoRow : OpenClaim := { program := "ytdebllkmblakkaa", sum := "33c3dffad40b4b833f86d0692757a56690f51f3c1bc5020f13b3fab53750a5d6", func := "loop.example/g00605/laws.FnEnough", spec := "fnEnough", unfollowed := true, recurses := true, apart := false, narrowed := true }
def FnEnoughUptoSaid : Prop := fnEnoughUptoRow.holds Try.pinned (OpenSpec.upto fnEnoughSpec)

/-- 'laws.FnLaidOut', WHERE WHAT IT READS IS OF BULK AT MOST 1048576: true; the input reads as it did. -/
def fnLaidOutUptoRow : OpenClaim := { program := "ytdebllkmblakkaa", sum := "33c3dffad40b4b833f86d0692757a56690f51f3c1bc5020f13b3fab53750a5d6", func := "loop.example/g00605/laws.FnLaidOut", spec := "fnLaidOut", unfollowed := true, recurses := true, apart := false, narrowed := true }
def FnLaidOutUptoSaid : Prop := fnLaidOutUptoRow.holds Try.pinned (OpenSpec.upto fnLaidOutSpec)

end Rows
end Go.Proofs.Ytdebllkmblakkaa
