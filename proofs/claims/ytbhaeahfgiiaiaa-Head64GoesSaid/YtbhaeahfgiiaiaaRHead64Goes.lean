/- For every input the law Head64Goes returns true and leaves its arguments as they were; no condition. Out of the evaluator (sound for this program's functions) and of what its functions yield. -/
import Derived.Test.YtbhaeahfgiiaiaaRows
import Derived.Test.YtbhaeahfgiiaiaaE9
import Derived.Test.YtbhaeahfgiiaiaaE7
import Derived.WalkKit
import Derived.ProofKit
import Derived.OpenShut
import Derived.ChangeOld
import Derived.Below
import Derived.SizedLaws
namespace Go.Proofs.Ytbhaeahfgiiaiaa.head64Goes
open Go.Ev
set_option linter.unusedVariables false
set_option maxRecDepth 100000
theorem own : ownKnob Try.prog.godebug = none := by kernel_rfl
theorem laidOut : laidOutB Try.prog = true := by kernel_rfl
theorem shaped : fitAll Try.prog [.str, .bytes 4, .bytes 4, .int .u16] Try.f12.params.toList = true := by kernel_rfl
theorem lifted (os : Os) (started : os.Started) (H : Type) (enc : TypeId × Value → H) :
    ReturnsInHanded {} Try.checked os 12 .any (Rows.head64GoesSpec.pre6 enc Try.prog Try.f12 Rows.head64GoesRow.domain false) (Rows.head64GoesSpec.post enc Try.prog Try.f12 false true false false) := by
  refine returnsInHanded_of_change_sized (C := Try.checked) own started (by kernel_rfl) Try.func12
    (ChangeSpec.witness6 (enc := enc) (C := Try.checked) false ⟨#[], #[.string ByteArray.empty, .agg #[.int .u8 0, .int .u8 0, .int .u8 0, .int .u8 0], .agg #[.int .u8 0, .int .u8 0, .int .u8 0, .int .u8 0], .int .u16 0], []⟩ 8 (by kernel_rfl) (by kernel_rfl) (by kernel_rfl) (by kernel_rfl)) ?_
  intro W base args ds gs before hval hW hcnd hsz _
  exact law_contract sysOk mixed laidOut [.str, .bytes 4, .bytes 4, .int .u16] shaped rfl
    (fun ds h => match ds, h with | [_, _, _, _], _ => rfl) (rt := ty_bool) (by kernel_rfl) (by kernel_rfl) (fun vs h => ⟨_, ev_Head64Goes sysHas 0 h⟩) W base args ds gs before hval hW hsz
theorem over : Rows.head64GoesRow.holds Try.pinned (OpenSpec.ofChange Rows.head64GoesSpec) :=
  OpenClaim.holds_of_wide 12 Try.f12 rfl rfl rfl rfl rfl rfl rfl ⟨rfl, rfl, rfl, rfl, rfl⟩ rfl rfl rfl rfl rfl (by kernel_rfl) Try.func12 (by kernel_rfl)
    (of_decide_eq_true (by kernel_rfl)) (by unfold Func.isWrapper; first | (rw [if_pos (by decide +kernel)]; kernel_rfl) | (rw [if_neg (by decide +kernel)]; exact ⟨rfl, rfl⟩))
    (fun os started H enc _ => lifted os started H enc)
theorem proved : Rows.Head64GoesSaid := over
end Go.Proofs.Ytbhaeahfgiiaiaa.head64Goes
namespace Go.Proofs.Ytbhaeahfgiiaiaa
/-- The row, under a short name, for the claim. -/
theorem head64Goes_holds : Rows.Head64GoesSaid := head64Goes.proved
end Go.Proofs.Ytbhaeahfgiiaiaa
#print axioms Go.Proofs.Ytbhaeahfgiiaiaa.head64Goes_holds
