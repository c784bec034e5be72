/-
  No cell of these rows narrows 'for every input' (looked for: loops, veiled, ifaces, maps, wideKeys, modest, calm, conditions, laid).
  DERIVED. THE GIVEN ROWS OF THIS SEAT. 10 by the template 'for every input the law returns true; each argument reads behind the call as it read before'; 0 by the template 'total and deterministic' (their statements: YtpjbapmhahlekaaTotals.lean).
  GIVEN WITH THE SEED: the statements are not yours to turn. If you find one false, say at which input.
  Laid BY PROGRAM, IN A SANDBOX (cutbox-rows.mjs): the forced cells as the released guide's own fill.sh prints them over the translation 47b04f9b2e40693b… (all of the seat's roots in one cut). By AI agents, Wed Nov 11 2026. No macro, syntax, notation, axiom, sorry.
-/
import Derived.Test.YtpjbapmhahlekaaChecked
import GoSem.Claim
import GoSem.ClaimJoined
import GoSem.ClaimMapViews
import Derived.JoinedTies
import Derived.KernelRfl
namespace Go.Proofs.Ytpjbapmhahlekaa
/- THE CELL 'sum', in the pinned program and in every row, IS THE sha256 OF THE DUMP (.gsa) THAT YtpjbapmhahlekaaProg.lean LOADS. Nothing in Lean hashes anything: it is a label: what it is worth is what the hold of that sum in a sandbox is worth. -/
noncomputable def Try.pinned : Pinned := { name := "ytpjbapmhahlekaa", sum := "47b04f9b2e40693b83c18738e3df4c1c501e807066687e81024b66d0534de4e8", checked := Try.checked }
namespace Rows
def none {H : Type} : Left H := { results := [], args := [] }

/-- 'interpreterlaw03.Ip4Writes': WHATEVER THE INPUT: true; the input reads as it did. -/
def ip4WritesSpec : ChangeSpec := { name := "ip4Writes", fn := fun _ => fun
  | [d] => { results := [.lit (.bool true)], args := [d] }
  | _ => none }
def ip4WritesRow : OpenClaim := { program := "ytpjbapmhahlekaa", sum := "47b04f9b2e40693b83c18738e3df4c1c501e807066687e81024b66d0534de4e8", func := "interpreter/interpreterlaw03.Ip4Writes", spec := "ip4Writes", unfollowed := true, recurses := true, apart := false }
def Ip4WritesSaid : Prop := ip4WritesRow.holds Try.pinned (OpenSpec.ofChange ip4WritesSpec)

/-- ITS FALSE NEIGHBOUR: 'it returns false'. Refute it at one input. -/
def ip4WritesWrong : ChangeSpec := { name := "ip4Writes", fn := fun _ => fun
  | [d] => { results := [.lit (.bool false)], args := [d] }
  | _ => none }
def Ip4WritesWrongFalsely : Prop := ip4WritesRow.holds Try.pinned (OpenSpec.ofChange ip4WritesWrong)

/-- 'interpreterlaw03.Ip4Reads': WHATEVER THE INPUT: true; the input reads as it did. -/
def ip4ReadsSpec : ChangeSpec := { name := "ip4Reads", fn := fun _ => fun
  | [d] => { results := [.lit (.bool true)], args := [d] }
  | _ => none }
def ip4ReadsRow : OpenClaim := { program := "ytpjbapmhahlekaa", sum := "47b04f9b2e40693b83c18738e3df4c1c501e807066687e81024b66d0534de4e8", func := "interpreter/interpreterlaw03.Ip4Reads", spec := "ip4Reads", unfollowed := true, recurses := true, apart := false }
def Ip4ReadsSaid : Prop := ip4ReadsRow.holds Try.pinned (OpenSpec.ofChange ip4ReadsSpec)

/-- ITS FALSE NEIGHBOUR: 'it returns false'. Refute it at one input. -/
def ip4ReadsWrong : ChangeSpec := { name := "ip4Reads", fn := fun _ => fun
  | [d] => { results := [.lit (.bool false)], args := [d] }
  | _ => none }
def Ip4ReadsWrongFalsely : Prop := ip4ReadsRow.holds Try.pinned (OpenSpec.ofChange ip4ReadsWrong)

/-- 'interpreterlaw03.Ip4Heads': WHATEVER THE INPUT: true; the input reads as it did. -/
def ip4HeadsSpec : ChangeSpec := { name := "ip4Heads", fn := fun _ => fun
  | [d] => { results := [.lit (.bool true)], args := [d] }
  | _ => none }
def ip4HeadsRow : OpenClaim := { program := "ytpjbapmhahlekaa", sum := "47b04f9b2e40693b83c18738e3df4c1c501e807066687e81024b66d0534de4e8", func := "interpreter/interpreterlaw03.Ip4Heads", spec := "ip4Heads", unfollowed := true, recurses := true, apart := false }
def Ip4HeadsSaid : Prop := ip4HeadsRow.holds Try.pinned (OpenSpec.ofChange ip4HeadsSpec)

/-- ITS FALSE NEIGHBOUR: 'it returns false'. Refute it at one input. -/
def ip4HeadsWrong : ChangeSpec := { name := "ip4Heads", fn := fun _ => fun
  | [d] => { results := [.lit (.bool false)], args := [d] }
  | _ => none }
def Ip4HeadsWrongFalsely : Prop := ip4HeadsRow.holds Try.pinned (OpenSpec.ofChange ip4HeadsWrong)

/-- 'interpreterlaw03.Ip4Back': WHATEVER THE INPUT: true; the input reads as it did. -/
def ip4BackSpec : ChangeSpec := { name := "ip4Back", fn := fun _ => fun
  | [d1, d2, d3, d4] => { results := [.lit (.bool true)], args := [d1, d2, d3, d4] }
  | _ => none }
def ip4BackRow : OpenClaim := { program := "ytpjbapmhahlekaa", sum := "47b04f9b2e40693b83c18738e3df4c1c501e807066687e81024b66d0534de4e8", func := "interpreter/interpreterlaw03.Ip4Back", spec := "ip4Back", unfollowed := true, recurses := true, apart := false }
def Ip4BackSaid : Prop := ip4BackRow.holds Try.pinned (OpenSpec.ofChange ip4BackSpec)

/-- ITS FALSE NEIGHBOUR: 'it returns false'. Refute it at one input. -/
def ip4BackWrong : ChangeSpec := { name := "ip4Back", fn := fun _ => fun
  | [d1, d2, d3, d4] => { results := [.lit (.bool false)], args := [d1, d2, d3, d4] }
  | _ => none }
def Ip4BackWrongFalsely : Prop := ip4BackRow.holds Try.pinned (OpenSpec.ofChange ip4BackWrong)

/-- 'interpreterlaw03.Ip4Again': WHATEVER THE INPUT: true; the input reads as it did. -/
def ip4AgainSpec : ChangeSpec := { name := "ip4Again", fn := fun _ => fun
  | [d] => { results := [.lit (.bool true)], args := [d] }
  | _ => none }
def ip4AgainRow : OpenClaim := { program := "ytpjbapmhahlekaa", sum := "47b04f9b2e40693b83c18738e3df4c1c501e807066687e81024b66d0534de4e8", func := "interpreter/interpreterlaw03.Ip4Again", spec := "ip4Again", unfollowed := true, recurses := true, apart := false }
def Ip4AgainSaid : Prop := ip4AgainRow.holds Try.pinned (OpenSpec.ofChange ip4AgainSpec)

/-- ITS FALSE NEIGHBOUR: 'it returns false'. Refute it at one input. -/
def ip4AgainWrong : ChangeSpec := { name := "ip4Again", fn := fun _ => fun
  | [d] => { results := [.lit (.bool false)], args := [d] }
  | _ => none }
def Ip4AgainWrongFalsely : Prop := ip4AgainRow.holds Try.pinned (OpenSpec.ofChange ip4AgainWrong)

/-- 'interpreterlaw03.Ip4Fields': WHATEVER THE INPUT: true; the input reads as it did. -/
def ip4FieldsSpec : ChangeSpec := { name := "ip4Fields", fn := fun _ => fun
  | [d1, d2] => { results := [.lit (.bool true)], args := [d1, d2] }
  | _ => none }
def ip4FieldsRow : OpenClaim := { program := "ytpjbapmhahlekaa", sum := "47b04f9b2e40693b83c18738e3df4c1c501e807066687e81024b66d0534de4e8", func := "interpreter/interpreterlaw03.Ip4Fields", spec := "ip4Fields", unfollowed := true, recurses := true, apart := false }
def Ip4FieldsSaid : Prop := ip4FieldsRow.holds Try.pinned (OpenSpec.ofChange ip4FieldsSpec)

/-- ITS FALSE NEIGHBOUR: 'it returns false'. Refute it at one input. -/
def ip4FieldsWrong : ChangeSpec := { name := "ip4Fields", fn := fun _ => fun
  | [d1, d2] => { results := [.lit (.bool false)], args := [d1, d2] }
  | _ => none }
def Ip4FieldsWrongFalsely : Prop := ip4FieldsRow.holds Try.pinned (OpenSpec.ofChange ip4FieldsWrong)

/-- 'interpreterlaw03.Ip4Cut': WHATEVER THE INPUT: true; the input reads as it did. -/
def ip4CutSpec : ChangeSpec := { name := "ip4Cut", fn := fun _ => fun
  | [d1, d2, d3] => { results := [.lit (.bool true)], args := [d1, d2, d3] }
  | _ => none }
def ip4CutRow : OpenClaim := { program := "ytpjbapmhahlekaa", sum := "47b04f9b2e40693b83c18738e3df4c1c501e807066687e81024b66d0534de4e8", func := "interpreter/interpreterlaw03.Ip4Cut", spec := "ip4Cut", unfollowed := true, recurses := true, apart := false }
def Ip4CutSaid : Prop := ip4CutRow.holds Try.pinned (OpenSpec.ofChange ip4CutSpec)

/-- ITS FALSE NEIGHBOUR: 'it returns false'. Refute it at one input. -/
def ip4CutWrong : ChangeSpec := { name := "ip4Cut", fn := fun _ => fun
  | [d1, d2, d3] => { results := [.lit (.bool false)], args := [d1, d2, d3] }
  | _ => none }
def Ip4CutWrongFalsely : Prop := ip4CutRow.holds Try.pinned (OpenSpec.ofChange ip4CutWrong)

/-- 'interpreterlaw03.Ip4Routes': WHATEVER THE INPUT: true; the input reads as it did. -/
def ip4RoutesSpec : ChangeSpec := { name := "ip4Routes", fn := fun _ => fun
  | [d] => { results := [.lit (.bool true)], args := [d] }
  | _ => none }
def ip4RoutesRow : OpenClaim := { program := "ytpjbapmhahlekaa", sum := "47b04f9b2e40693b83c18738e3df4c1c501e807066687e81024b66d0534de4e8", func := "interpreter/interpreterlaw03.Ip4Routes", spec := "ip4Routes", unfollowed := true, recurses := true, apart := false }
def Ip4RoutesSaid : Prop := ip4RoutesRow.holds Try.pinned (OpenSpec.ofChange ip4RoutesSpec)

/-- ITS FALSE NEIGHBOUR: 'it returns false'. Refute it at one input. -/
def ip4RoutesWrong : ChangeSpec := { name := "ip4Routes", fn := fun _ => fun
  | [d] => { results := [.lit (.bool false)], args := [d] }
  | _ => none }
def Ip4RoutesWrongFalsely : Prop := ip4RoutesRow.holds Try.pinned (OpenSpec.ofChange ip4RoutesWrong)

/-- 'interpreterlaw03.Ip4Used': WHATEVER THE INPUT: true; the input reads as it did. -/
def ip4UsedSpec : ChangeSpec := { name := "ip4Used", fn := fun _ => fun
  | [d1, d2, d3] => { results := [.lit (.bool true)], args := [d1, d2, d3] }
  | _ => none }
def ip4UsedRow : OpenClaim := { program := "ytpjbapmhahlekaa", sum := "47b04f9b2e40693b83c18738e3df4c1c501e807066687e81024b66d0534de4e8", func := "interpreter/interpreterlaw03.Ip4Used", spec := "ip4Used", unfollowed := true, recurses := true, apart := false }
def Ip4UsedSaid : Prop := ip4UsedRow.holds Try.pinned (OpenSpec.ofChange ip4UsedSpec)

/-- ITS FALSE NEIGHBOUR: 'it returns false'. Refute it at one input. -/
def ip4UsedWrong : ChangeSpec := { name := "ip4Used", fn := fun _ => fun
  | [d1, d2, d3] => { results := [.lit (.bool false)], args := [d1, d2, d3] }
  | _ => none }
def Ip4UsedWrongFalsely : Prop := ip4UsedRow.holds Try.pinned (OpenSpec.ofChange ip4UsedWrong)

/-- 'interpreterlaw03.Ip4Known': WHATEVER THE INPUT: true; the input reads as it did. -/
def ip4KnownSpec : ChangeSpec := { name := "ip4Known", fn := fun _ => fun
  | [] => { results := [.lit (.bool true)], args := [] }
  | _ => none }
def ip4KnownRow : OpenClaim := { program := "ytpjbapmhahlekaa", sum := "47b04f9b2e40693b83c18738e3df4c1c501e807066687e81024b66d0534de4e8", func := "interpreter/interpreterlaw03.Ip4Known", spec := "ip4Known", inPlace := ["internal/abi.NoEscape", "internal/bytealg.MakeNoZero"], unfollowed := true, recurses := true, apart := false }
def Ip4KnownSaid : Prop := ip4KnownRow.holds Try.pinned (OpenSpec.ofChange ip4KnownSpec)

/-- ITS FALSE NEIGHBOUR: 'it returns false'. Refute it at one input. -/
def ip4KnownWrong : ChangeSpec := { name := "ip4Known", fn := fun _ => fun
  | [] => { results := [.lit (.bool false)], args := [] }
  | _ => none }
def Ip4KnownWrongFalsely : Prop := ip4KnownRow.holds Try.pinned (OpenSpec.ofChange ip4KnownWrong)

/- THE SECOND FORM. 'bulk': how many values and letters a reading holds, each counted each time it is reached (what is shared counts as often as it is met; a slice's spare places count too). A statement '..UptoSaid' is the law's where the arguments, and the package variables that the reading takes, are together of bulk at most 1048576: NARROWER than '..Said'. Prove '..Said' where nothing that the law and all that it calls make is longer than what came in: it says more and counts as full. Else prove '..UptoSaid'. A law counts once. -/
mutual
def uptoBulk {H : Type} : DataW H → Nat
  | .lit (.string bytes) => bytes.length + 1
  | .lit _ => 1
  | .nil => 1
  | .ptr d => uptoBulk d + 1
  | .slice elems spare => uptoBulkAll elems + uptoBulkAll spare + 1
  | .agg parts => uptoBulkAll parts + 1
  | .iface _ d => uptoBulk d + 1
  | .map entries => uptoBulkEntries entries + 1
  | .held _ => 1
def uptoBulkAll {H : Type} : List (DataW H) → Nat
  | [] => 0
  | d :: r => uptoBulk d + uptoBulkAll r
def uptoBulkEntries {H : Type} : List (Lit × DataW H) → Nat
  | [] => 0
  | x :: r => uptoBulkEntry x + uptoBulkEntries r
def uptoBulkEntry {H : Type} : Lit × DataW H → Nat
  | (.string bytes, d) => bytes.length + uptoBulk d + 1
  | (_, d) => uptoBulk d + 1
 end
def uptoSmall : (H : Type) → List (DataW H) → Bool := fun _ ds => decide (uptoBulkAll ds ≤ 1048576)
def OpenSpec.upto (s : _root_.Go.ChangeSpec) : _root_.Go.OpenSpec := { _root_.Go.OpenSpec.ofChange s with cond := some uptoSmall }

/-- 'interpreterlaw03.Ip4Writes', WHERE WHAT IT READS IS OF BULK AT MOST 1048576: true; the input reads as it did. -/
def ip4WritesUptoRow : OpenClaim := { program := "ytpjbapmhahlekaa", sum := "47b04f9b2e40693b83c18738e3df4c1c501e807066687e81024b66d0534de4e8", func := "interpreter/interpreterlaw03.Ip4Writes", spec := "ip4Writes", unfollowed := true, recurses := true, apart := false, narrowed := true }
def Ip4WritesUptoSaid : Prop := ip4WritesUptoRow.holds Try.pinned (OpenSpec.upto ip4WritesSpec)

/-- 'interpreterlaw03.Ip4Reads', WHERE WHAT IT READS IS OF BULK AT MOST 1048576: true; the input reads as it did. -/
def ip4ReadsUptoRow : OpenClaim := { program := "ytpjbapmhahlekaa", sum := "47b04f9b2e40693b83c18738e3df4c1c501e807066687e81024b66d0534de4e8", func := "interpreter/interpreterlaw03.Ip4Reads", spec := "ip4Reads", unfollowed := true, recurses := true, apart := false, narrowed := true }
def Ip4ReadsUptoSaid : Prop := ip4ReadsUptoRow.holds Try.pinned (OpenSpec.upto ip4ReadsSpec)

/-- 'interpreterlaw03.Ip4Heads', WHERE WHAT IT READS IS OF BULK AT MOST 1048576: true; the input reads as it did. -/
def ip4HeadsUptoRow : OpenClaim := { program := "ytpjbapmhahlekaa", sum := "47b04f9b2e40693b83c18738e3df4c1c501e807066687e81024b66d0534de4e8", func := "interpreter/interpreterlaw03.Ip4Heads", spec := "ip4Heads", unfollowed := true, recurses := true, apart := false, narrowed := true }
def Ip4HeadsUptoSaid : Prop := ip4HeadsUptoRow.holds Try.pinned (OpenSpec.upto ip4HeadsSpec)

/-- 'interpreterlaw03.Ip4Back', WHERE WHAT IT READS IS OF BULK AT MOST 1048576: true; the input reads as it did. -/
def ip4BackUptoRow : OpenClaim := { program := "ytpjbapmhahlekaa", sum := "47b04f9b2e40693b83c18738e3df4c1c501e807066687e81024b66d0534de4e8", func := "interpreter/interpreterlaw03.Ip4Back", spec := "ip4Back", unfollowed := true, recurses := true, apart := false, narrowed := true }
def Ip4BackUptoSaid : Prop := ip4BackUptoRow.holds Try.pinned (OpenSpec.upto ip4BackSpec)

/-- 'interpreterlaw03.Ip4Again', WHERE WHAT IT READS IS OF BULK AT MOST 1048576: true; the input reads as it did. -/
def ip4AgainUptoRow : OpenClaim := { program := "ytpjbapmhahlekaa", sum := "47b04f9b2e40693b83c18738e3df4c1c501e807066687e81024b66d0534de4e8", func := "interpreter/interpreterlaw03.Ip4Again", spec := "ip4Again", unfollowed := true, recurses := true, apart := false, narrowed := true }
def Ip4AgainUptoSaid : Prop := ip4AgainUptoRow.holds Try.pinned (OpenSpec.upto ip4AgainSpec)

/-- 'interpreterlaw03.Ip4Fields', WHERE WHAT IT READS IS OF BULK AT MOST 1048576: true; the input reads as it did. -/
def ip4FieldsUptoRow : OpenClaim := { program := "ytpjbapmhahlekaa", sum := "47b04f9b2e40693b83c18738e3df4c1c501e807066687e81024b66d0534de4e8", func := "interpreter/interpreterlaw03.Ip4Fields", spec := "ip4Fields", unfollowed := true, recurses := true, apart := false, narrowed := true }
def Ip4FieldsUptoSaid : Prop := ip4FieldsUptoRow.holds Try.pinned (OpenSpec.upto ip4FieldsSpec)

/-- 'interpreterlaw03.Ip4Cut', WHERE WHAT IT READS IS OF BULK AT MOST 1048576: true; the input reads as it did. -/
def ip4CutUptoRow : OpenClaim := { program := "ytpjbapmhahlekaa", sum := "47b04f9b2e40693b83c18738e3df4c1c501e807066687e81024b66d0534de4e8", func := "interpreter/interpreterlaw03.Ip4Cut", spec := "ip4Cut", unfollowed := true, recurses := true, apart := false, narrowed := true }
def Ip4CutUptoSaid : Prop := ip4CutUptoRow.holds Try.pinned (OpenSpec.upto ip4CutSpec)

/-- 'interpreterlaw03.Ip4Routes', WHERE WHAT IT READS IS OF BULK AT MOST 1048576: true; the input reads as it did. -/
def ip4RoutesUptoRow : OpenClaim := { program := "ytpjbapmhahlekaa", sum := "47b04f9b2e40693b83c18738e3df4c1c501e807066687e81024b66d0534de4e8", func := "interpreter/interpreterlaw03.Ip4Routes", spec := "ip4Routes", unfollowed := true, recurses := true, apart := false, narrowed := true }
def Ip4RoutesUptoSaid : Prop := ip4RoutesUptoRow.holds Try.pinned (OpenSpec.upto ip4RoutesSpec)

/-- 'interpreterlaw03.Ip4Used', WHERE WHAT IT READS IS OF BULK AT MOST 1048576: true; the input reads as it did. -/
def ip4UsedUptoRow : OpenClaim := { program := "ytpjbapmhahlekaa", sum := "47b04f9b2e40693b83c18738e3df4c1c501e807066687e81024b66d0534de4e8", func := "interpreter/interpreterlaw03.Ip4Used", spec := "ip4Used", unfollowed := true, recurses := true, apart := false, narrowed := true }
def Ip4UsedUptoSaid : Prop := ip4UsedUptoRow.holds Try.pinned (OpenSpec.upto ip4UsedSpec)

/-- 'interpreterlaw03.Ip4Known', WHERE WHAT IT READS IS OF BULK AT MOST 1048576: true; the input reads as it did. -/
def ip4KnownUptoRow : OpenClaim := { program := "ytpjbapmhahlekaa", sum := "47b04f9b2e40693b83c18738e3df4c1c501e807066687e81024b66d0534de4e8", func := "interpreter/interpreterlaw03.Ip4Known", spec := "ip4Known", inPlace := ["internal/abi.NoEscape", "internal/bytealg.MakeNoZero"], unfollowed := true, recurses := true, apart := false, narrowed := true }
def Ip4KnownUptoSaid : Prop := ip4KnownUptoRow.holds Try.pinned (OpenSpec.upto ip4KnownSpec)

end Rows
end Go.Proofs.Ytpjbapmhahlekaa
