/-
  No cell of these rows narrows 'for every input' (looked for: loops, veiled, ifaces, maps, wideKeys, modest, calm, conditions, laid).
  DERIVED. THE GIVEN ROWS OF THIS SEAT. 6 by the template 'for every input the law returns true; each argument reads behind the call as it read before'; 0 by the template 'total and deterministic' (their statements: YtgnpljdhhliemaaTotals.lean).
  GIVEN WITH THE SEED: the statements are not yours to turn. If you find one false, say at which input.
  Laid BY PROGRAM, IN A SANDBOX (cutbox-rows.mjs): the forced cells as the released guide's own fill.sh prints them over the translation b16142a4f171b9cf… (all of the seat's roots in one cut). By AI agents, Wed Nov 11 2026. No macro, syntax, notation, axiom, sorry.
-/
import Derived.Test.YtgnpljdhhliemaaChecked
import GoSem.Claim
import GoSem.ClaimJoined
import GoSem.ClaimMapViews
import Derived.JoinedTies
import Derived.KernelRfl
namespace Go.Proofs.Ytgnpljdhhliemaa
/- THE CELL 'sum', in the pinned program and in every row, IS THE sha256 OF THE DUMP (.gsa) THAT YtgnpljdhhliemaaProg.lean LOADS. Nothing in Lean hashes anything: it is a label: what it is worth is what the hold of that sum in a sandbox is worth. -/
noncomputable def Try.pinned : Pinned := { name := "ytgnpljdhhliemaa", sum := "b16142a4f171b9cf0e4876cc08b8aebc2264f9549aca567b3ddf8bcba850a0a8", checked := Try.checked }
namespace Rows
def none {H : Type} : Left H := { results := [], args := [] }

/-- 'interpreterlaw17.RefragFour': WHATEVER THE INPUT: true; the input reads as it did. -/
def refragFourSpec : ChangeSpec := { name := "refragFour", fn := fun _ => fun
  | [d1, d2] => { results := [.lit (.bool true)], args := [d1, d2] }
  | _ => none }
def refragFourRow : OpenClaim := { program := "ytgnpljdhhliemaa", sum := "b16142a4f171b9cf0e4876cc08b8aebc2264f9549aca567b3ddf8bcba850a0a8", func := "interpreter/interpreterlaw17.RefragFour", spec := "refragFour", apart := false }
def RefragFourSaid : Prop := refragFourRow.holds Try.pinned (OpenSpec.ofChange refragFourSpec)

/-- ITS FALSE NEIGHBOUR: 'it returns false'. Refute it at one input. -/
def refragFourWrong : ChangeSpec := { name := "refragFour", fn := fun _ => fun
  | [d1, d2] => { results := [.lit (.bool false)], args := [d1, d2] }
  | _ => none }
def RefragFourWrongFalsely : Prop := refragFourRow.holds Try.pinned (OpenSpec.ofChange refragFourWrong)

/-- 'interpreterlaw17.RefragSix': WHATEVER THE INPUT: true; the input reads as it did. -/
def refragSixSpec : ChangeSpec := { name := "refragSix", fn := fun _ => fun
  | [d1, d2, d3] => { results := [.lit (.bool true)], args := [d1, d2, d3] }
  | _ => none }
def refragSixRow : OpenClaim := { program := "ytgnpljdhhliemaa", sum := "b16142a4f171b9cf0e4876cc08b8aebc2264f9549aca567b3ddf8bcba850a0a8", func := "interpreter/interpreterlaw17.RefragSix", spec := "refragSix", apart := false }
def RefragSixSaid : Prop := refragSixRow.holds Try.pinned (OpenSpec.ofChange refragSixSpec)

/-- ITS FALSE NEIGHBOUR: 'it returns false'. Refute it at one input. -/
def refragSixWrong : ChangeSpec := { name := "refragSix", fn := fun _ => fun
  | [d1, d2, d3] => { results := [.lit (.bool false)], args := [d1, d2, d3] }
  | _ => none }
def RefragSixWrongFalsely : Prop := refragSixRow.holds Try.pinned (OpenSpec.ofChange refragSixWrong)

/-- 'interpreterlaw17.RefragAgain': WHATEVER THE INPUT: true; the input reads as it did. -/
def refragAgainSpec : ChangeSpec := { name := "refragAgain", fn := fun _ => fun
  | [d1, d2, d3] => { results := [.lit (.bool true)], args := [d1, d2, d3] }
  | _ => none }
def refragAgainRow : OpenClaim := { program := "ytgnpljdhhliemaa", sum := "b16142a4f171b9cf0e4876cc08b8aebc2264f9549aca567b3ddf8bcba850a0a8", func := "interpreter/interpreterlaw17.RefragAgain", spec := "refragAgain", apart := false }
def RefragAgainSaid : Prop := refragAgainRow.holds Try.pinned (OpenSpec.ofChange refragAgainSpec)

/-- ITS FALSE NEIGHBOUR: 'it returns false'. Refute it at one input. -/
def refragAgainWrong : ChangeSpec := { name := "refragAgain", fn := fun _ => fun
  | [d1, d2, d3] => { results := [.lit (.bool false)], args := [d1, d2, d3] }
  | _ => none }
def RefragAgainWrongFalsely : Prop := refragAgainRow.holds Try.pinned (OpenSpec.ofChange refragAgainWrong)

/-- 'interpreterlaw17.RefragKnown': WHATEVER THE INPUT: true; the input reads as it did. -/
def refragKnownSpec : ChangeSpec := { name := "refragKnown", fn := fun _ => fun
  | [] => { results := [.lit (.bool true)], args := [] }
  | _ => none }
def refragKnownRow : OpenClaim := { program := "ytgnpljdhhliemaa", sum := "b16142a4f171b9cf0e4876cc08b8aebc2264f9549aca567b3ddf8bcba850a0a8", func := "interpreter/interpreterlaw17.RefragKnown", spec := "refragKnown", apart := false }
def RefragKnownSaid : Prop := refragKnownRow.holds Try.pinned (OpenSpec.ofChange refragKnownSpec)

/-- ITS FALSE NEIGHBOUR: 'it returns false'. Refute it at one input. -/
def refragKnownWrong : ChangeSpec := { name := "refragKnown", fn := fun _ => fun
  | [] => { results := [.lit (.bool false)], args := [] }
  | _ => none }
def RefragKnownWrongFalsely : Prop := refragKnownRow.holds Try.pinned (OpenSpec.ofChange refragKnownWrong)

/-- 'interpreterlaw17.RefragJoins': WHATEVER THE INPUT: true; the input reads as it did. -/
def refragJoinsSpec : ChangeSpec := { name := "refragJoins", fn := fun _ => fun
  | [d1, d2, d3] => { results := [.lit (.bool true)], args := [d1, d2, d3] }
  | _ => none }
def refragJoinsRow : OpenClaim := { program := "ytgnpljdhhliemaa", sum := "b16142a4f171b9cf0e4876cc08b8aebc2264f9549aca567b3ddf8bcba850a0a8", func := "interpreter/interpreterlaw17.RefragJoins", spec := "refragJoins", unfollowed := true, recurses := true, apart := false }
def RefragJoinsSaid : Prop := refragJoinsRow.holds Try.pinned (OpenSpec.ofChange refragJoinsSpec)

/-- ITS FALSE NEIGHBOUR: 'it returns false'. Refute it at one input. -/
def refragJoinsWrong : ChangeSpec := { name := "refragJoins", fn := fun _ => fun
  | [d1, d2, d3] => { results := [.lit (.bool false)], args := [d1, d2, d3] }
  | _ => none }
def RefragJoinsWrongFalsely : Prop := refragJoinsRow.holds Try.pinned (OpenSpec.ofChange refragJoinsWrong)

/-- 'interpreterlaw17.RefragJoinsSix': WHATEVER THE INPUT: true; the input reads as it did. -/
def refragJoinsSixSpec : ChangeSpec := { name := "refragJoinsSix", fn := fun _ => fun
  | [d1, d2, d3, d4] => { results := [.lit (.bool true)], args := [d1, d2, d3, d4] }
  | _ => none }
def refragJoinsSixRow : OpenClaim := { program := "ytgnpljdhhliemaa", sum := "b16142a4f171b9cf0e4876cc08b8aebc2264f9549aca567b3ddf8bcba850a0a8", func := "interpreter/interpreterlaw17.RefragJoinsSix", spec := "refragJoinsSix", unfollowed := true, recurses := true, apart := false }
def RefragJoinsSixSaid : Prop := refragJoinsSixRow.holds Try.pinned (OpenSpec.ofChange refragJoinsSixSpec)

/-- ITS FALSE NEIGHBOUR: 'it returns false'. Refute it at one input. -/
def refragJoinsSixWrong : ChangeSpec := { name := "refragJoinsSix", fn := fun _ => fun
  | [d1, d2, d3, d4] => { results := [.lit (.bool false)], args := [d1, d2, d3, d4] }
  | _ => none }
def RefragJoinsSixWrongFalsely : Prop := refragJoinsSixRow.holds Try.pinned (OpenSpec.ofChange refragJoinsSixWrong)

/- THE SECOND FORM. 'bulk': how many values and letters a reading holds, each counted each time it is reached (what is shared counts as often as it is met; a slice's spare places count too). A statement '..UptoSaid' is the law's where the arguments, and the package variables that the reading takes, are together of bulk at most 1048576: NARROWER than '..Said'. Prove '..Said' where nothing that the law and all that it calls make is longer than what came in: it says more and counts as full. Else prove '..UptoSaid'. A law counts once. -/
mutual
def uptoBulk {H : Type} : DataW H → Nat
  | .lit (.string bytes) => bytes.length + 1
  | .lit _ => 1
  | .nil => 1
  | .ptr d => uptoBulk d + 1
  | .slice elems spare => uptoBulkAll elems + uptoBulkAll spare + 1
  | .agg parts => uptoBulkAll parts + 1
  | .iface _ d => uptoBulk d + 1
  | .map entries => uptoBulkEntries entries + 1
  | .held _ => 1
def uptoBulkAll {H : Type} : List (DataW H) → Nat
  | [] => 0
  | d :: r => uptoBulk d + uptoBulkAll r
def uptoBulkEntries {H : Type} : List (Lit × DataW H) → Nat
  | [] => 0
  | x :: r => uptoBulkEntry x + uptoBulkEntries r
def uptoBulkEntry {H : Type} : Lit × DataW H → Nat
  | (.string bytes, d) => bytes.length + uptoBulk d + 1
  | (_, d) => uptoBulk d + 1
 end
def uptoSmall : (H : Type) → List (DataW H) → Bool := fun _ ds => decide (uptoBulkAll ds ≤ 1048576)
def OpenSpec.upto (s : _root_.Go.ChangeSpec) : _root_.Go.OpenSpec := { _root_.Go.OpenSpec.ofChange s with cond := some uptoSmall }

/-- 'interpreterlaw17.RefragFour', WHERE WHAT IT READS IS OF BULK AT MOST 1048576: true; the input reads as it did. -/
def refragFourUptoRow : OpenClaim := { program := "ytgnpljdhhliemaa", sum := "b16142a4f171b9cf0e4876cc08b8aebc2264f9549aca567b3ddf8bcba850a0a8", func := "interpreter/interpreterlaw17.RefragFour", spec := "refragFour", apart := false, narrowed := true }
def RefragFourUptoSaid : Prop := refragFourUptoRow.holds Try.pinned (OpenSpec.upto refragFourSpec)

/-- 'interpreterlaw17.RefragSix', WHERE WHAT IT READS IS OF BULK AT MOST 1048576: true; the input reads as it did. -/
def refragSixUptoRow : OpenClaim := { program := "ytgnpljdhhliemaa", sum := "b16142a4f171b9cf0e4876cc08b8aebc2264f9549aca567b3ddf8bcba850a0a8", func := "interpreter/interpreterlaw17.RefragSix", spec := "refragSix", apart := false, narrowed := true }
def RefragSixUptoSaid : Prop := refragSixUptoRow.holds Try.pinned (OpenSpec.upto refragSixSpec)

/-- 'interpreterlaw17.RefragAgain', WHERE WHAT IT READS IS OF BULK AT MOST 1048576: true; the input reads as it did. -/
def refragAgainUptoRow : OpenClaim := { program := "ytgnpljdhhliemaa", sum := "b16142a4f171b9cf0e4876cc08b8aebc2264f9549aca567b3ddf8bcba850a0a8", func := "interpreter/interpreterlaw17.RefragAgain", spec := "refragAgain", apart := false, narrowed := true }
def RefragAgainUptoSaid : Prop := refragAgainUptoRow.holds Try.pinned (OpenSpec.upto refragAgainSpec)

/-- 'interpreterlaw17.RefragKnown', WHERE WHAT IT READS IS OF BULK AT MOST 1048576: true; the input reads as it did. -/
def refragKnownUptoRow : OpenClaim := { program := "ytgnpljdhhliemaa", sum := "b16142a4f171b9cf0e4876cc08b8aebc2264f9549aca567b3ddf8bcba850a0a8", func := "interpreter/interpreterlaw17.RefragKnown", spec := "refragKnown", apart := false, narrowed := true }
def RefragKnownUptoSaid : Prop := refragKnownUptoRow.holds Try.pinned (OpenSpec.upto refragKnownSpec)

/-- 'interpreterlaw17.RefragJoins', WHERE WHAT IT READS IS OF BULK AT MOST 1048576: true; the input reads as it did. -/
def refragJoinsUptoRow : OpenClaim := { program := "ytgnpljdhhliemaa", sum := "b16142a4f171b9cf0e4876cc08b8aebc2264f9549aca567b3ddf8bcba850a0a8", func := "interpreter/interpreterlaw17.RefragJoins", spec := "refragJoins", unfollowed := true, recurses := true, apart := false, narrowed := true }
def RefragJoinsUptoSaid : Prop := refragJoinsUptoRow.holds Try.pinned (OpenSpec.upto refragJoinsSpec)

/-- 'interpreterlaw17.RefragJoinsSix', WHERE WHAT IT READS IS OF BULK AT MOST 1048576: true; the input reads as it did. -/
def refragJoinsSixUptoRow : OpenClaim := { program := "ytgnpljdhhliemaa", sum := "b16142a4f171b9cf0e4876cc08b8aebc2264f9549aca567b3ddf8bcba850a0a8", func := "interpreter/interpreterlaw17.RefragJoinsSix", spec := "refragJoinsSix", unfollowed := true, recurses := true, apart := false, narrowed := true }
def RefragJoinsSixUptoSaid : Prop := refragJoinsSixUptoRow.holds Try.pinned (OpenSpec.upto refragJoinsSixSpec)

end Rows
end Go.Proofs.Ytgnpljdhhliemaa
