/-
  No cell of these rows narrows 'for every input' (looked for: loops, veiled, ifaces, maps, wideKeys, modest, calm, conditions, laid).
  DERIVED. THE GIVEN ROWS OF THIS SEAT. 7 by the template 'for every input the law returns true; each argument reads behind the call as it read before'; 0 by the template 'total and deterministic' (their statements: YtbdkfdkmefebnaaTotals.lean).
  GIVEN WITH THE SEED: the statements are not yours to turn. If you find one false, say at which input.
  Laid BY PROGRAM, IN A SANDBOX (cutbox-rows.mjs): the forced cells as the released guide's own fill.sh prints them over the translation c9c5cc37684704a1… (all of the seat's roots in one cut). By AI agents, Wed Nov 11 2026. No macro, syntax, notation, axiom, sorry.
-/
import Derived.Test.YtbdkfdkmefebnaaChecked
import GoSem.Claim
import GoSem.ClaimJoined
import GoSem.ClaimMapViews
import Derived.JoinedTies
import Derived.KernelRfl
namespace Go.Proofs.Ytbdkfdkmefebnaa
/- THE CELL 'sum', in the pinned program and in every row, IS THE sha256 OF THE DUMP (.gsa) THAT YtbdkfdkmefebnaaProg.lean LOADS. Nothing in Lean hashes anything: it is a label: what it is worth is what the hold of that sum in a sandbox is worth. -/
noncomputable def Try.pinned : Pinned := { name := "ytbdkfdkmefebnaa", sum := "c9c5cc37684704a1521d282a3d52abe9617121daf0e88d0093cf438e06db6df7", checked := Try.checked }
namespace Rows
def none {H : Type} : Left H := { results := [], args := [] }

/-- 'interpreterlaw15.FaultKnown': WHATEVER THE INPUT: true; the input reads as it did. -/
def faultKnownSpec : ChangeSpec := { name := "faultKnown", fn := fun _ => fun
  | [] => { results := [.lit (.bool true)], args := [] }
  | _ => none }
def faultKnownRow : OpenClaim := { program := "ytbdkfdkmefebnaa", sum := "c9c5cc37684704a1521d282a3d52abe9617121daf0e88d0093cf438e06db6df7", func := "interpreter/interpreterlaw15.FaultKnown", spec := "faultKnown", inPlace := ["internal/abi.NoEscape", "internal/bytealg.MakeNoZero"], unfollowed := true, recurses := true, apart := false }
def FaultKnownSaid : Prop := faultKnownRow.holds Try.pinned (OpenSpec.ofChange faultKnownSpec)

/-- ITS FALSE NEIGHBOUR: 'it returns false'. Refute it at one input. -/
def faultKnownWrong : ChangeSpec := { name := "faultKnown", fn := fun _ => fun
  | [] => { results := [.lit (.bool false)], args := [] }
  | _ => none }
def FaultKnownWrongFalsely : Prop := faultKnownRow.holds Try.pinned (OpenSpec.ofChange faultKnownWrong)

/-- 'interpreterlaw15.FaultBegins': WHATEVER THE INPUT: true; the input reads as it did. -/
def faultBeginsSpec : ChangeSpec := { name := "faultBegins", fn := fun _ => fun
  | [d1, d2, d3, d4, d5, d6] => { results := [.lit (.bool true)], args := [d1, d2, d3, d4, d5, d6] }
  | _ => none }
def faultBeginsRow : OpenClaim := { program := "ytbdkfdkmefebnaa", sum := "c9c5cc37684704a1521d282a3d52abe9617121daf0e88d0093cf438e06db6df7", func := "interpreter/interpreterlaw15.FaultBegins", spec := "faultBegins", inPlace := ["internal/abi.NoEscape", "internal/bytealg.MakeNoZero"], unfollowed := true, recurses := true, apart := false }
def FaultBeginsSaid : Prop := faultBeginsRow.holds Try.pinned (OpenSpec.ofChange faultBeginsSpec)

/-- ITS FALSE NEIGHBOUR: 'it returns false'. Refute it at one input. -/
def faultBeginsWrong : ChangeSpec := { name := "faultBegins", fn := fun _ => fun
  | [d1, d2, d3, d4, d5, d6] => { results := [.lit (.bool false)], args := [d1, d2, d3, d4, d5, d6] }
  | _ => none }
def FaultBeginsWrongFalsely : Prop := faultBeginsRow.holds Try.pinned (OpenSpec.ofChange faultBeginsWrong)

/-- 'interpreterlaw15.FaultInside': WHATEVER THE INPUT: true; the input reads as it did. -/
def faultInsideSpec : ChangeSpec := { name := "faultInside", fn := fun _ => fun
  | [d] => { results := [.lit (.bool true)], args := [d] }
  | _ => none }
def faultInsideRow : OpenClaim := { program := "ytbdkfdkmefebnaa", sum := "c9c5cc37684704a1521d282a3d52abe9617121daf0e88d0093cf438e06db6df7", func := "interpreter/interpreterlaw15.FaultInside", spec := "faultInside", inPlace := ["internal/abi.NoEscape", "internal/bytealg.MakeNoZero"], unfollowed := true, recurses := true, apart := false }
def FaultInsideSaid : Prop := faultInsideRow.holds Try.pinned (OpenSpec.ofChange faultInsideSpec)

/-- ITS FALSE NEIGHBOUR: 'it returns false'. Refute it at one input. -/
def faultInsideWrong : ChangeSpec := { name := "faultInside", fn := fun _ => fun
  | [d] => { results := [.lit (.bool false)], args := [d] }
  | _ => none }
def FaultInsideWrongFalsely : Prop := faultInsideRow.holds Try.pinned (OpenSpec.ofChange faultInsideWrong)

/-- 'interpreterlaw15.FaultBack': WHATEVER THE INPUT: true; the input reads as it did. -/
def faultBackSpec : ChangeSpec := { name := "faultBack", fn := fun _ => fun
  | [d1, d2, d3, d4, d5] => { results := [.lit (.bool true)], args := [d1, d2, d3, d4, d5] }
  | _ => none }
def faultBackRow : OpenClaim := { program := "ytbdkfdkmefebnaa", sum := "c9c5cc37684704a1521d282a3d52abe9617121daf0e88d0093cf438e06db6df7", func := "interpreter/interpreterlaw15.FaultBack", spec := "faultBack", inPlace := ["internal/abi.NoEscape", "internal/bytealg.MakeNoZero"], unfollowed := true, recurses := true, apart := false }
def FaultBackSaid : Prop := faultBackRow.holds Try.pinned (OpenSpec.ofChange faultBackSpec)

/-- ITS FALSE NEIGHBOUR: 'it returns false'. Refute it at one input. -/
def faultBackWrong : ChangeSpec := { name := "faultBack", fn := fun _ => fun
  | [d1, d2, d3, d4, d5] => { results := [.lit (.bool false)], args := [d1, d2, d3, d4, d5] }
  | _ => none }
def FaultBackWrongFalsely : Prop := faultBackRow.holds Try.pinned (OpenSpec.ofChange faultBackWrong)

/-- 'interpreterlaw15.FaultBeginsSix': WHATEVER THE INPUT: true; the input reads as it did. -/
def faultBeginsSixSpec : ChangeSpec := { name := "faultBeginsSix", fn := fun _ => fun
  | [d1, d2, d3, d4, d5, d6] => { results := [.lit (.bool true)], args := [d1, d2, d3, d4, d5, d6] }
  | _ => none }
def faultBeginsSixRow : OpenClaim := { program := "ytbdkfdkmefebnaa", sum := "c9c5cc37684704a1521d282a3d52abe9617121daf0e88d0093cf438e06db6df7", func := "interpreter/interpreterlaw15.FaultBeginsSix", spec := "faultBeginsSix", inPlace := ["internal/abi.NoEscape", "internal/bytealg.MakeNoZero"], unfollowed := true, recurses := true, apart := false }
def FaultBeginsSixSaid : Prop := faultBeginsSixRow.holds Try.pinned (OpenSpec.ofChange faultBeginsSixSpec)

/-- ITS FALSE NEIGHBOUR: 'it returns false'. Refute it at one input. -/
def faultBeginsSixWrong : ChangeSpec := { name := "faultBeginsSix", fn := fun _ => fun
  | [d1, d2, d3, d4, d5, d6] => { results := [.lit (.bool false)], args := [d1, d2, d3, d4, d5, d6] }
  | _ => none }
def FaultBeginsSixWrongFalsely : Prop := faultBeginsSixRow.holds Try.pinned (OpenSpec.ofChange faultBeginsSixWrong)

/-- 'interpreterlaw15.FaultFits': WHATEVER THE INPUT: true; the input reads as it did. -/
def faultFitsSpec : ChangeSpec := { name := "faultFits", fn := fun _ => fun
  | [d1, d2, d3, d4, d5, d6, d7] => { results := [.lit (.bool true)], args := [d1, d2, d3, d4, d5, d6, d7] }
  | _ => none }
def faultFitsRow : OpenClaim := { program := "ytbdkfdkmefebnaa", sum := "c9c5cc37684704a1521d282a3d52abe9617121daf0e88d0093cf438e06db6df7", func := "interpreter/interpreterlaw15.FaultFits", spec := "faultFits", inPlace := ["internal/abi.NoEscape", "internal/bytealg.MakeNoZero"], unfollowed := true, recurses := true, apart := false }
def FaultFitsSaid : Prop := faultFitsRow.holds Try.pinned (OpenSpec.ofChange faultFitsSpec)

/-- ITS FALSE NEIGHBOUR: 'it returns false'. Refute it at one input. -/
def faultFitsWrong : ChangeSpec := { name := "faultFits", fn := fun _ => fun
  | [d1, d2, d3, d4, d5, d6, d7] => { results := [.lit (.bool false)], args := [d1, d2, d3, d4, d5, d6, d7] }
  | _ => none }
def FaultFitsWrongFalsely : Prop := faultFitsRow.holds Try.pinned (OpenSpec.ofChange faultFitsWrong)

/-- 'interpreterlaw15.FaultCut': WHATEVER THE INPUT: true; the input reads as it did. -/
def faultCutSpec : ChangeSpec := { name := "faultCut", fn := fun _ => fun
  | [d1, d2, d3, d4, d5, d6, d7, d8] => { results := [.lit (.bool true)], args := [d1, d2, d3, d4, d5, d6, d7, d8] }
  | _ => none }
def faultCutRow : OpenClaim := { program := "ytbdkfdkmefebnaa", sum := "c9c5cc37684704a1521d282a3d52abe9617121daf0e88d0093cf438e06db6df7", func := "interpreter/interpreterlaw15.FaultCut", spec := "faultCut", inPlace := ["internal/abi.NoEscape", "internal/bytealg.MakeNoZero"], unfollowed := true, recurses := true, apart := false }
def FaultCutSaid : Prop := faultCutRow.holds Try.pinned (OpenSpec.ofChange faultCutSpec)

/-- ITS FALSE NEIGHBOUR: 'it returns false'. Refute it at one input. -/
def faultCutWrong : ChangeSpec := { name := "faultCut", fn := fun _ => fun
  | [d1, d2, d3, d4, d5, d6, d7, d8] => { results := [.lit (.bool false)], args := [d1, d2, d3, d4, d5, d6, d7, d8] }
  | _ => none }
def FaultCutWrongFalsely : Prop := faultCutRow.holds Try.pinned (OpenSpec.ofChange faultCutWrong)

/- THE SECOND FORM. 'bulk': how many values and letters a reading holds, each counted each time it is reached (what is shared counts as often as it is met; a slice's spare places count too). A statement '..UptoSaid' is the law's where the arguments, and the package variables that the reading takes, are together of bulk at most 1048576: NARROWER than '..Said'. Prove '..Said' where nothing that the law and all that it calls make is longer than what came in: it says more and counts as full. Else prove '..UptoSaid'. A law counts once. -/
mutual
def uptoBulk {H : Type} : DataW H → Nat
  | .lit (.string bytes) => bytes.length + 1
  | .lit _ => 1
  | .nil => 1
  | .ptr d => uptoBulk d + 1
  | .slice elems spare => uptoBulkAll elems + uptoBulkAll spare + 1
  | .agg parts => uptoBulkAll parts + 1
  | .iface _ d => uptoBulk d + 1
  | .map entries => uptoBulkEntries entries + 1
  | .held _ => 1
def uptoBulkAll {H : Type} : List (DataW H) → Nat
  | [] => 0
  | d :: r => uptoBulk d + uptoBulkAll r
def uptoBulkEntries {H : Type} : List (Lit × DataW H) → Nat
  | [] => 0
  | x :: r => uptoBulkEntry x + uptoBulkEntries r
def uptoBulkEntry {H : Type} : Lit × DataW H → Nat
  | (.string bytes, d) => bytes.length + uptoBulk d + 1
  | (_, d) => uptoBulk d + 1
 end
def uptoSmall : (H : Type) → List (DataW H) → Bool := fun _ ds => decide (uptoBulkAll ds ≤ 1048576)
def OpenSpec.upto (s : _root_.Go.ChangeSpec) : _root_.Go.OpenSpec := { _root_.Go.OpenSpec.ofChange s with cond := some uptoSmall }

/-- 'interpreterlaw15.FaultKnown', WHERE WHAT IT READS IS OF BULK AT MOST 1048576: true; the input reads as it did. -/
def faultKnownUptoRow : OpenClaim := { program := "ytbdkfdkmefebnaa", sum := "c9c5cc37684704a1521d282a3d52abe9617121daf0e88d0093cf438e06db6df7", func := "interpreter/interpreterlaw15.FaultKnown", spec := "faultKnown", inPlace := ["internal/abi.NoEscape", "internal/bytealg.MakeNoZero"], unfollowed := true, recurses := true, apart := false, narrowed := true }
def FaultKnownUptoSaid : Prop := faultKnownUptoRow.holds Try.pinned (OpenSpec.upto faultKnownSpec)

/-- 'interpreterlaw15.FaultBegins', WHERE WHAT IT READS IS OF BULK AT MOST 1048576: true; the input reads as it did. -/
def faultBeginsUptoRow : OpenClaim := { program := "ytbdkfdkmefebnaa", sum := "c9c5cc37684704a1521d282a3d52abe9617121daf0e88d0093cf438e06db6df7", func := "interpreter/interpreterlaw15.FaultBegins", spec := "faultBegins", inPlace := ["internal/abi.NoEscape", "internal/bytealg.MakeNoZero"], unfollowed := true, recurses := true, apart := false, narrowed := true }
def FaultBeginsUptoSaid : Prop := faultBeginsUptoRow.holds Try.pinned (OpenSpec.upto faultBeginsSpec)

/-- 'interpreterlaw15.FaultInside', WHERE WHAT IT READS IS OF BULK AT MOST 1048576: true; the input reads as it did. -/
def faultInsideUptoRow : OpenClaim := { program := "ytbdkfdkmefebnaa", sum := "c9c5cc37684704a1521d282a3d52abe9617121daf0e88d0093cf438e06db6df7", func := "interpreter/interpreterlaw15.FaultInside", spec := "faultInside", inPlace := ["internal/abi.NoEscape", "internal/bytealg.MakeNoZero"], unfollowed := true, recurses := true, apart := false, narrowed := true }
def FaultInsideUptoSaid : Prop := faultInsideUptoRow.holds Try.pinned (OpenSpec.upto faultInsideSpec)

/-- 'interpreterlaw15.FaultBack', WHERE WHAT IT READS IS OF BULK AT MOST 1048576: true; the input reads as it did. -/
def faultBackUptoRow : OpenClaim := { program := "ytbdkfdkmefebnaa", sum := "c9c5cc37684704a1521d282a3d52abe9617121daf0e88d0093cf438e06db6df7", func := "interpreter/interpreterlaw15.FaultBack", spec := "faultBack", inPlace := ["internal/abi.NoEscape", "internal/bytealg.MakeNoZero"], unfollowed := true, recurses := true, apart := false, narrowed := true }
def FaultBackUptoSaid : Prop := faultBackUptoRow.holds Try.pinned (OpenSpec.upto faultBackSpec)

/-- 'interpreterlaw15.FaultBeginsSix', WHERE WHAT IT READS IS OF BULK AT MOST 1048576: true; the input reads as it did. -/
def faultBeginsSixUptoRow : OpenClaim := { program := "ytbdkfdkmefebnaa", sum := "c9c5cc37684704a1521d282a3d52abe9617121daf0e88d0093cf438e06db6df7", func := "interpreter/interpreterlaw15.FaultBeginsSix", spec := "faultBeginsSix", inPlace := ["internal/abi.NoEscape", "internal/bytealg.MakeNoZero"], unfollowed := true, recurses := true, apart := false, narrowed := true }
def FaultBeginsSixUptoSaid : Prop := faultBeginsSixUptoRow.holds Try.pinned (OpenSpec.upto faultBeginsSixSpec)

/-- 'interpreterlaw15.FaultFits', WHERE WHAT IT READS IS OF BULK AT MOST 1048576: true; the input reads as it did. -/
def faultFitsUptoRow : OpenClaim := { program := "ytbdkfdkmefebnaa", sum := "c9c5cc37684704a1521d282a3d52abe9617121daf0e88d0093cf438e06db6df7", func := "interpreter/interpreterlaw15.FaultFits", spec := "faultFits", inPlace := ["internal/abi.NoEscape", "internal/bytealg.MakeNoZero"], unfollowed := true, recurses := true, apart := false, narrowed := true }
def FaultFitsUptoSaid : Prop := faultFitsUptoRow.holds Try.pinned (OpenSpec.upto faultFitsSpec)

/-- 'interpreterlaw15.FaultCut', WHERE WHAT IT READS IS OF BULK AT MOST 1048576: true; the input reads as it did. -/
def faultCutUptoRow : OpenClaim := { program := "ytbdkfdkmefebnaa", sum := "c9c5cc37684704a1521d282a3d52abe9617121daf0e88d0093cf438e06db6df7", func := "interpreter/interpreterlaw15.FaultCut", spec := "faultCut", inPlace := ["internal/abi.NoEscape", "internal/bytealg.MakeNoZero"], unfollowed := true, recurses := true, apart := false, narrowed := true }
def FaultCutUptoSaid : Prop := faultCutUptoRow.holds Try.pinned (OpenSpec.upto faultCutSpec)

end Rows
end Go.Proofs.Ytbdkfdkmefebnaa
