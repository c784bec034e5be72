/- For every input the law Head64Proto returns true and leaves its arguments as they were; no condition. Out of the evaluator (sound for this program's functions) and of what its functions yield. -/
import Derived.Test.YtbhaeahfgiiaiaaRows
import Derived.Test.YtbhaeahfgiiaiaaE7
import Derived.Test.YtbhaeahfgiiaiaaE6
import Derived.WalkKit
import Derived.ProofKit
import Derived.OpenShut
import Derived.ChangeOld
import Derived.Below
import Derived.SizedLaws
namespace Go.Proofs.Ytbhaeahfgiiaiaa.head64Proto
open Go.Ev
set_option linter.unusedVariables false
set_option maxRecDepth 100000
theorem own : ownKnob Try.prog.godebug = none := by kernel_rfl
theorem laidOut : laidOutB Try.prog = true := by kernel_rfl
theorem shaped : fitAll Try.prog [.int .i64, shpIp4] Try.f8.params.toList = true := by kernel_rfl
theorem lifted (os : Os) (started : os.Started) (H : Type) (enc : TypeId × Value → H) :
    ReturnsInHanded {} Try.checked os 8 .any (Rows.head64ProtoSpec.pre6 enc Try.prog Try.f8 Rows.head64ProtoRow.domain false) (Rows.head64ProtoSpec.post enc Try.prog Try.f8 false true false false) := by
  refine returnsInHanded_of_change_sized (C := Try.checked) own started (by kernel_rfl) Try.func8
    (ChangeSpec.witness6 (enc := enc) (C := Try.checked) false ⟨#[], #[.int .i64 0, .agg #[.int .i64 0, .int .i64 0, .int .i64 0, .int .i64 0, .int .i64 0, .bool false, .bool false, .int .u8 0, .int .u8 0, .int .u8 0, .int .u8 0, .int .u8 0, .int .u8 0, .int .u8 0, .int .u8 0, .string ByteArray.empty, .string ByteArray.empty]], []⟩ 8 (by kernel_rfl) (by kernel_rfl) (by kernel_rfl) (by kernel_rfl)) ?_
  intro W base args ds gs before hval hW hcnd hsz _
  exact law_contract sysOk mixed laidOut [.int .i64, shpIp4] shaped rfl
    (fun ds h => match ds, h with | [_, _], _ => rfl) (rt := ty_bool) (by kernel_rfl) (by kernel_rfl) (fun vs h => ⟨_, ev_ProtoLaw sysHas 0 h⟩) W base args ds gs before hval hW hsz
theorem over : Rows.head64ProtoRow.holds Try.pinned (OpenSpec.ofChange Rows.head64ProtoSpec) :=
  OpenClaim.holds_of_wide 8 Try.f8 rfl rfl rfl rfl rfl rfl rfl ⟨rfl, rfl, rfl, rfl, rfl⟩ rfl rfl rfl rfl rfl (by kernel_rfl) Try.func8 (by kernel_rfl)
    (of_decide_eq_true (by kernel_rfl)) (by unfold Func.isWrapper; first | (rw [if_pos (by decide +kernel)]; kernel_rfl) | (rw [if_neg (by decide +kernel)]; exact ⟨rfl, rfl⟩))
    (fun os started H enc _ => lifted os started H enc)
theorem proved : Rows.Head64ProtoSaid := over
end Go.Proofs.Ytbhaeahfgiiaiaa.head64Proto
namespace Go.Proofs.Ytbhaeahfgiiaiaa
/-- The row, under a short name, for the claim. -/
theorem head64Proto_holds : Rows.Head64ProtoSaid := head64Proto.proved
end Go.Proofs.Ytbhaeahfgiiaiaa
#print axioms Go.Proofs.Ytbhaeahfgiiaiaa.head64Proto_holds
