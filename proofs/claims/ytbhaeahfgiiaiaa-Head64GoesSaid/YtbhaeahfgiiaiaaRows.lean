/-
  No cell of these rows narrows 'for every input' (looked for: loops, veiled, ifaces, maps, wideKeys, modest, calm, conditions, laid).
  DERIVED. THE GIVEN ROWS OF THIS SEAT. 10 by the template 'for every input the law returns true; each argument reads behind the call as it read before'; 0 by the template 'total and deterministic' (their statements: YtbhaeahfgiiaiaaTotals.lean).
  GIVEN WITH THE SEED: the statements are not yours to turn. If you find one false, say at which input.
  Laid BY PROGRAM, IN A SANDBOX (cutbox-rows.mjs): the forced cells as the released guide's own fill.sh prints them over the translation d9624619844d8182… (all of the seat's roots in one cut). By AI agents, Wed Nov 11 2026. No macro, syntax, notation, axiom, sorry.
-/
import Derived.Test.YtbhaeahfgiiaiaaChecked
import GoSem.Claim
import GoSem.ClaimJoined
import GoSem.ClaimMapViews
import Derived.JoinedTies
import Derived.KernelRfl
namespace Go.Proofs.Ytbhaeahfgiiaiaa
/- THE CELL 'sum', in the pinned program and in every row, IS THE sha256 OF THE DUMP (.gsa) THAT YtbhaeahfgiiaiaaProg.lean LOADS. Nothing in Lean hashes anything: it is a label: what it is worth is what the hold of that sum in a sandbox is worth. -/
noncomputable def Try.pinned : Pinned := { name := "ytbhaeahfgiiaiaa", sum := "d9624619844d8182bd53fddc46dc6a2599ff7abb1b6753826806aa8e9e06fd14", checked := Try.checked }
namespace Rows
def none {H : Type} : Left H := { results := [], args := [] }

/-- 'interpreterlaw13.Head64Does': WHATEVER THE INPUT: true; the input reads as it did. -/
def head64DoesSpec : ChangeSpec := { name := "head64Does", fn := fun _ => fun
  | [d1, d2, d3, d4, d5] => { results := [.lit (.bool true)], args := [d1, d2, d3, d4, d5] }
  | _ => none }
def head64DoesRow : OpenClaim := { program := "ytbhaeahfgiiaiaa", sum := "d9624619844d8182bd53fddc46dc6a2599ff7abb1b6753826806aa8e9e06fd14", func := "interpreter/interpreterlaw13.Head64Does", spec := "head64Does", apart := false }
def Head64DoesSaid : Prop := head64DoesRow.holds Try.pinned (OpenSpec.ofChange head64DoesSpec)

/-- ITS FALSE NEIGHBOUR: 'it returns false'. Refute it at one input. -/
def head64DoesWrong : ChangeSpec := { name := "head64Does", fn := fun _ => fun
  | [d1, d2, d3, d4, d5] => { results := [.lit (.bool false)], args := [d1, d2, d3, d4, d5] }
  | _ => none }
def Head64DoesWrongFalsely : Prop := head64DoesRow.holds Try.pinned (OpenSpec.ofChange head64DoesWrong)

/-- 'interpreterlaw13.Head64Blind': WHATEVER THE INPUT: true; the input reads as it did. -/
def head64BlindSpec : ChangeSpec := { name := "head64Blind", fn := fun _ => fun
  | [d1, d2, d3, d4, d5, d6] => { results := [.lit (.bool true)], args := [d1, d2, d3, d4, d5, d6] }
  | _ => none }
def head64BlindRow : OpenClaim := { program := "ytbhaeahfgiiaiaa", sum := "d9624619844d8182bd53fddc46dc6a2599ff7abb1b6753826806aa8e9e06fd14", func := "interpreter/interpreterlaw13.Head64Blind", spec := "head64Blind", apart := false }
def Head64BlindSaid : Prop := head64BlindRow.holds Try.pinned (OpenSpec.ofChange head64BlindSpec)

/-- ITS FALSE NEIGHBOUR: 'it returns false'. Refute it at one input. -/
def head64BlindWrong : ChangeSpec := { name := "head64Blind", fn := fun _ => fun
  | [d1, d2, d3, d4, d5, d6] => { results := [.lit (.bool false)], args := [d1, d2, d3, d4, d5, d6] }
  | _ => none }
def Head64BlindWrongFalsely : Prop := head64BlindRow.holds Try.pinned (OpenSpec.ofChange head64BlindWrong)

/-- 'interpreterlaw12.Head46Known': WHATEVER THE INPUT: true; the input reads as it did. -/
def head46KnownSpec : ChangeSpec := { name := "head46Known", fn := fun _ => fun
  | [] => { results := [.lit (.bool true)], args := [] }
  | _ => none }
def head46KnownRow : OpenClaim := { program := "ytbhaeahfgiiaiaa", sum := "d9624619844d8182bd53fddc46dc6a2599ff7abb1b6753826806aa8e9e06fd14", func := "interpreter/interpreterlaw12.Head46Known", spec := "head46Known", apart := false }
def Head46KnownSaid : Prop := head46KnownRow.holds Try.pinned (OpenSpec.ofChange head46KnownSpec)

/-- ITS FALSE NEIGHBOUR: 'it returns false'. Refute it at one input. -/
def head46KnownWrong : ChangeSpec := { name := "head46Known", fn := fun _ => fun
  | [] => { results := [.lit (.bool false)], args := [] }
  | _ => none }
def Head46KnownWrongFalsely : Prop := head46KnownRow.holds Try.pinned (OpenSpec.ofChange head46KnownWrong)

/-- 'interpreterlaw12.Head46Does': WHATEVER THE INPUT: true; the input reads as it did. -/
def head46DoesSpec : ChangeSpec := { name := "head46Does", fn := fun _ => fun
  | [d1, d2, d3, d4] => { results := [.lit (.bool true)], args := [d1, d2, d3, d4] }
  | _ => none }
def head46DoesRow : OpenClaim := { program := "ytbhaeahfgiiaiaa", sum := "d9624619844d8182bd53fddc46dc6a2599ff7abb1b6753826806aa8e9e06fd14", func := "interpreter/interpreterlaw12.Head46Does", spec := "head46Does", apart := false }
def Head46DoesSaid : Prop := head46DoesRow.holds Try.pinned (OpenSpec.ofChange head46DoesSpec)

/-- ITS FALSE NEIGHBOUR: 'it returns false'. Refute it at one input. -/
def head46DoesWrong : ChangeSpec := { name := "head46Does", fn := fun _ => fun
  | [d1, d2, d3, d4] => { results := [.lit (.bool false)], args := [d1, d2, d3, d4] }
  | _ => none }
def Head46DoesWrongFalsely : Prop := head46DoesRow.holds Try.pinned (OpenSpec.ofChange head46DoesWrong)

/-- 'interpreterlaw13.Head64Again': WHATEVER THE INPUT: true; the input reads as it did. -/
def head64AgainSpec : ChangeSpec := { name := "head64Again", fn := fun _ => fun
  | [d1, d2, d3, d4] => { results := [.lit (.bool true)], args := [d1, d2, d3, d4] }
  | _ => none }
def head64AgainRow : OpenClaim := { program := "ytbhaeahfgiiaiaa", sum := "d9624619844d8182bd53fddc46dc6a2599ff7abb1b6753826806aa8e9e06fd14", func := "interpreter/interpreterlaw13.Head64Again", spec := "head64Again", apart := false }
def Head64AgainSaid : Prop := head64AgainRow.holds Try.pinned (OpenSpec.ofChange head64AgainSpec)

/-- ITS FALSE NEIGHBOUR: 'it returns false'. Refute it at one input. -/
def head64AgainWrong : ChangeSpec := { name := "head64Again", fn := fun _ => fun
  | [d1, d2, d3, d4] => { results := [.lit (.bool false)], args := [d1, d2, d3, d4] }
  | _ => none }
def Head64AgainWrongFalsely : Prop := head64AgainRow.holds Try.pinned (OpenSpec.ofChange head64AgainWrong)

/-- 'interpreterlaw13.Head64Proto': WHATEVER THE INPUT: true; the input reads as it did. -/
def head64ProtoSpec : ChangeSpec := { name := "head64Proto", fn := fun _ => fun
  | [d1, d2] => { results := [.lit (.bool true)], args := [d1, d2] }
  | _ => none }
def head64ProtoRow : OpenClaim := { program := "ytbhaeahfgiiaiaa", sum := "d9624619844d8182bd53fddc46dc6a2599ff7abb1b6753826806aa8e9e06fd14", func := "interpreter/interpreterlaw13.Head64Proto", spec := "head64Proto", apart := false }
def Head64ProtoSaid : Prop := head64ProtoRow.holds Try.pinned (OpenSpec.ofChange head64ProtoSpec)

/-- ITS FALSE NEIGHBOUR: 'it returns false'. Refute it at one input. -/
def head64ProtoWrong : ChangeSpec := { name := "head64Proto", fn := fun _ => fun
  | [d1, d2] => { results := [.lit (.bool false)], args := [d1, d2] }
  | _ => none }
def Head64ProtoWrongFalsely : Prop := head64ProtoRow.holds Try.pinned (OpenSpec.ofChange head64ProtoWrong)

/-- 'interpreterlaw12.Head46Blind': WHATEVER THE INPUT: true; the input reads as it did. -/
def head46BlindSpec : ChangeSpec := { name := "head46Blind", fn := fun _ => fun
  | [d1, d2, d3] => { results := [.lit (.bool true)], args := [d1, d2, d3] }
  | _ => none }
def head46BlindRow : OpenClaim := { program := "ytbhaeahfgiiaiaa", sum := "d9624619844d8182bd53fddc46dc6a2599ff7abb1b6753826806aa8e9e06fd14", func := "interpreter/interpreterlaw12.Head46Blind", spec := "head46Blind", apart := false }
def Head46BlindSaid : Prop := head46BlindRow.holds Try.pinned (OpenSpec.ofChange head46BlindSpec)

/-- ITS FALSE NEIGHBOUR: 'it returns false'. Refute it at one input. -/
def head46BlindWrong : ChangeSpec := { name := "head46Blind", fn := fun _ => fun
  | [d1, d2, d3] => { results := [.lit (.bool false)], args := [d1, d2, d3] }
  | _ => none }
def Head46BlindWrongFalsely : Prop := head46BlindRow.holds Try.pinned (OpenSpec.ofChange head46BlindWrong)

/-- 'interpreterlaw13.Head64Known': WHATEVER THE INPUT: true; the input reads as it did. -/
def head64KnownSpec : ChangeSpec := { name := "head64Known", fn := fun _ => fun
  | [] => { results := [.lit (.bool true)], args := [] }
  | _ => none }
def head64KnownRow : OpenClaim := { program := "ytbhaeahfgiiaiaa", sum := "d9624619844d8182bd53fddc46dc6a2599ff7abb1b6753826806aa8e9e06fd14", func := "interpreter/interpreterlaw13.Head64Known", spec := "head64Known", inPlace := ["internal/abi.NoEscape", "internal/bytealg.MakeNoZero"], apart := false }
def Head64KnownSaid : Prop := head64KnownRow.holds Try.pinned (OpenSpec.ofChange head64KnownSpec)

/-- ITS FALSE NEIGHBOUR: 'it returns false'. Refute it at one input. -/
def head64KnownWrong : ChangeSpec := { name := "head64Known", fn := fun _ => fun
  | [] => { results := [.lit (.bool false)], args := [] }
  | _ => none }
def Head64KnownWrongFalsely : Prop := head64KnownRow.holds Try.pinned (OpenSpec.ofChange head64KnownWrong)

/-- 'interpreterlaw12.Head46Goes': WHATEVER THE INPUT: true; the input reads as it did. -/
def head46GoesSpec : ChangeSpec := { name := "head46Goes", fn := fun _ => fun
  | [d1, d2, d3] => { results := [.lit (.bool true)], args := [d1, d2, d3] }
  | _ => none }
def head46GoesRow : OpenClaim := { program := "ytbhaeahfgiiaiaa", sum := "d9624619844d8182bd53fddc46dc6a2599ff7abb1b6753826806aa8e9e06fd14", func := "interpreter/interpreterlaw12.Head46Goes", spec := "head46Goes", unfollowed := true, recurses := true, apart := false }
def Head46GoesSaid : Prop := head46GoesRow.holds Try.pinned (OpenSpec.ofChange head46GoesSpec)

/-- ITS FALSE NEIGHBOUR: 'it returns false'. Refute it at one input. -/
def head46GoesWrong : ChangeSpec := { name := "head46Goes", fn := fun _ => fun
  | [d1, d2, d3] => { results := [.lit (.bool false)], args := [d1, d2, d3] }
  | _ => none }
def Head46GoesWrongFalsely : Prop := head46GoesRow.holds Try.pinned (OpenSpec.ofChange head46GoesWrong)

/-- 'interpreterlaw13.Head64Goes': WHATEVER THE INPUT: true; the input reads as it did. -/
def head64GoesSpec : ChangeSpec := { name := "head64Goes", fn := fun _ => fun
  | [d1, d2, d3, d4] => { results := [.lit (.bool true)], args := [d1, d2, d3, d4] }
  | _ => none }
def head64GoesRow : OpenClaim := { program := "ytbhaeahfgiiaiaa", sum := "d9624619844d8182bd53fddc46dc6a2599ff7abb1b6753826806aa8e9e06fd14", func := "interpreter/interpreterlaw13.Head64Goes", spec := "head64Goes", apart := false }
def Head64GoesSaid : Prop := head64GoesRow.holds Try.pinned (OpenSpec.ofChange head64GoesSpec)

/-- ITS FALSE NEIGHBOUR: 'it returns false'. Refute it at one input. -/
def head64GoesWrong : ChangeSpec := { name := "head64Goes", fn := fun _ => fun
  | [d1, d2, d3, d4] => { results := [.lit (.bool false)], args := [d1, d2, d3, d4] }
  | _ => none }
def Head64GoesWrongFalsely : Prop := head64GoesRow.holds Try.pinned (OpenSpec.ofChange head64GoesWrong)

/- THE SECOND FORM. 'bulk': how many values and letters a reading holds, each counted each time it is reached (what is shared counts as often as it is met; a slice's spare places count too). A statement '..UptoSaid' is the law's where the arguments, and the package variables that the reading takes, are together of bulk at most 1048576: NARROWER than '..Said'. Prove '..Said' where nothing that the law and all that it calls make is longer than what came in: it says more and counts as full. Else prove '..UptoSaid'. A law counts once. -/
mutual
def uptoBulk {H : Type} : DataW H → Nat
  | .lit (.string bytes) => bytes.length + 1
  | .lit _ => 1
  | .nil => 1
  | .ptr d => uptoBulk d + 1
  | .slice elems spare => uptoBulkAll elems + uptoBulkAll spare + 1
  | .agg parts => uptoBulkAll parts + 1
  | .iface _ d => uptoBulk d + 1
  | .map entries => uptoBulkEntries entries + 1
  | .held _ => 1
def uptoBulkAll {H : Type} : List (DataW H) → Nat
  | [] => 0
  | d :: r => uptoBulk d + uptoBulkAll r
def uptoBulkEntries {H : Type} : List (Lit × DataW H) → Nat
  | [] => 0
  | x :: r => uptoBulkEntry x + uptoBulkEntries r
def uptoBulkEntry {H : Type} : Lit × DataW H → Nat
  | (.string bytes, d) => bytes.length + uptoBulk d + 1
  | (_, d) => uptoBulk d + 1
 end
def uptoSmall : (H : Type) → List (DataW H) → Bool := fun _ ds => decide (uptoBulkAll ds ≤ 1048576)
def OpenSpec.upto (s : _root_.Go.ChangeSpec) : _root_.Go.OpenSpec := { _root_.Go.OpenSpec.ofChange s with cond := some uptoSmall }

/-- 'interpreterlaw13.Head64Does', WHERE WHAT IT READS IS OF BULK AT MOST 1048576: true; the input reads as it did. -/
def head64DoesUptoRow : OpenClaim := { program := "ytbhaeahfgiiaiaa", sum := "d9624619844d8182bd53fddc46dc6a2599ff7abb1b6753826806aa8e9e06fd14", func := "interpreter/interpreterlaw13.Head64Does", spec := "head64Does", apart := false, narrowed := true }
def Head64DoesUptoSaid : Prop := head64DoesUptoRow.holds Try.pinned (OpenSpec.upto head64DoesSpec)

/-- 'interpreterlaw13.Head64Blind', WHERE WHAT IT READS IS OF BULK AT MOST 1048576: true; the input reads as it did. -/
def head64BlindUptoRow : OpenClaim := { program := "ytbhaeahfgiiaiaa", sum := "d9624619844d8182bd53fddc46dc6a2599ff7abb1b6753826806aa8e9e06fd14", func := "interpreter/interpreterlaw13.Head64Blind", spec := "head64Blind", apart := false, narrowed := true }
def Head64BlindUptoSaid : Prop := head64BlindUptoRow.holds Try.pinned (OpenSpec.upto head64BlindSpec)

/-- 'interpreterlaw12.Head46Known', WHERE WHAT IT READS IS OF BULK AT MOST 1048576: true; the input reads as it did. -/
def head46KnownUptoRow : OpenClaim := { program := "ytbhaeahfgiiaiaa", sum := "d9624619844d8182bd53fddc46dc6a2599ff7abb1b6753826806aa8e9e06fd14", func := "interpreter/interpreterlaw12.Head46Known", spec := "head46Known", apart := false, narrowed := true }
def Head46KnownUptoSaid : Prop := head46KnownUptoRow.holds Try.pinned (OpenSpec.upto head46KnownSpec)

/-- 'interpreterlaw12.Head46Does', WHERE WHAT IT READS IS OF BULK AT MOST 1048576: true; the input reads as it did. -/
def head46DoesUptoRow : OpenClaim := { program := "ytbhaeahfgiiaiaa", sum := "d9624619844d8182bd53fddc46dc6a2599ff7abb1b6753826806aa8e9e06fd14", func := "interpreter/interpreterlaw12.Head46Does", spec := "head46Does", apart := false, narrowed := true }
def Head46DoesUptoSaid : Prop := head46DoesUptoRow.holds Try.pinned (OpenSpec.upto head46DoesSpec)

/-- 'interpreterlaw13.Head64Again', WHERE WHAT IT READS IS OF BULK AT MOST 1048576: true; the input reads as it did. -/
def head64AgainUptoRow : OpenClaim := { program := "ytbhaeahfgiiaiaa", sum := "d9624619844d8182bd53fddc46dc6a2599ff7abb1b6753826806aa8e9e06fd14", func := "interpreter/interpreterlaw13.Head64Again", spec := "head64Again", apart := false, narrowed := true }
def Head64AgainUptoSaid : Prop := head64AgainUptoRow.holds Try.pinned (OpenSpec.upto head64AgainSpec)

/-- 'interpreterlaw13.Head64Proto', WHERE WHAT IT READS IS OF BULK AT MOST 1048576: true; the input reads as it did. -/
def head64ProtoUptoRow : OpenClaim := { program := "ytbhaeahfgiiaiaa", sum := "d9624619844d8182bd53fddc46dc6a2599ff7abb1b6753826806aa8e9e06fd14", func := "interpreter/interpreterlaw13.Head64Proto", spec := "head64Proto", apart := false, narrowed := true }
def Head64ProtoUptoSaid : Prop := head64ProtoUptoRow.holds Try.pinned (OpenSpec.upto head64ProtoSpec)

/-- 'interpreterlaw12.Head46Blind', WHERE WHAT IT READS IS OF BULK AT MOST 1048576: true; the input reads as it did. -/
def head46BlindUptoRow : OpenClaim := { program := "ytbhaeahfgiiaiaa", sum := "d9624619844d8182bd53fddc46dc6a2599ff7abb1b6753826806aa8e9e06fd14", func := "interpreter/interpreterlaw12.Head46Blind", spec := "head46Blind", apart := false, narrowed := true }
def Head46BlindUptoSaid : Prop := head46BlindUptoRow.holds Try.pinned (OpenSpec.upto head46BlindSpec)

/-- 'interpreterlaw13.Head64Known', WHERE WHAT IT READS IS OF BULK AT MOST 1048576: true; the input reads as it did. -/
def head64KnownUptoRow : OpenClaim := { program := "ytbhaeahfgiiaiaa", sum := "d9624619844d8182bd53fddc46dc6a2599ff7abb1b6753826806aa8e9e06fd14", func := "interpreter/interpreterlaw13.Head64Known", spec := "head64Known", inPlace := ["internal/abi.NoEscape", "internal/bytealg.MakeNoZero"], apart := false, narrowed := true }
def Head64KnownUptoSaid : Prop := head64KnownUptoRow.holds Try.pinned (OpenSpec.upto head64KnownSpec)

/-- 'interpreterlaw12.Head46Goes', WHERE WHAT IT READS IS OF BULK AT MOST 1048576: true; the input reads as it did. -/
def head46GoesUptoRow : OpenClaim := { program := "ytbhaeahfgiiaiaa", sum := "d9624619844d8182bd53fddc46dc6a2599ff7abb1b6753826806aa8e9e06fd14", func := "interpreter/interpreterlaw12.Head46Goes", spec := "head46Goes", unfollowed := true, recurses := true, apart := false, narrowed := true }
def Head46GoesUptoSaid : Prop := head46GoesUptoRow.holds Try.pinned (OpenSpec.upto head46GoesSpec)

/-- 'interpreterlaw13.Head64Goes', WHERE WHAT IT READS IS OF BULK AT MOST 1048576: true; the input reads as it did. -/
def head64GoesUptoRow : OpenClaim := { program := "ytbhaeahfgiiaiaa", sum := "d9624619844d8182bd53fddc46dc6a2599ff7abb1b6753826806aa8e9e06fd14", func := "interpreter/interpreterlaw13.Head64Goes", spec := "head64Goes", apart := false, narrowed := true }
def Head64GoesUptoSaid : Prop := head64GoesUptoRow.holds Try.pinned (OpenSpec.upto head64GoesSpec)

end Rows
end Go.Proofs.Ytbhaeahfgiiaiaa
