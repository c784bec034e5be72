/- For every input the law FaultBack returns true and leaves its arguments as they were; no condition. Out of the evaluator (sound for this program's functions) and of what its functions yield. -/
import Derived.Test.YtbdkfdkmefebnaaRows
import Derived.Test.YtbdkfdkmefebnaaE8
import Derived.Test.YtbdkfdkmefebnaaE6
import Derived.WalkKit
import Derived.ProofKit
import Derived.OpenShut
import Derived.ChangeOld
import Derived.Below
import Derived.SizedLaws
namespace Go.Proofs.Ytbdkfdkmefebnaa.faultBack
open Go.Ev
set_option linter.unusedVariables false
set_option maxRecDepth 100000
theorem own : ownKnob Try.prog.godebug = none := by kernel_rfl
theorem laidOut : laidOutB Try.prog = true := by kernel_rfl
theorem shaped : fitAll Try.prog [.str, .bytes 16, .bytes 16, .int .u16, .int .u16] Try.f6.params.toList = true := by kernel_rfl
theorem lifted (os : Os) (started : os.Started) (H : Type) (enc : TypeId × Value → H) :
    ReturnsInHanded {} Try.checked os 6 .any (Rows.faultBackSpec.pre6 enc Try.prog Try.f6 Rows.faultBackRow.domain false) (Rows.faultBackSpec.post enc Try.prog Try.f6 false true false false) := by
  refine returnsInHanded_of_change_sized (C := Try.checked) own started (by kernel_rfl) Try.func6
    (ChangeSpec.witness6 (enc := enc) (C := Try.checked) false ⟨#[], #[.string ByteArray.empty, .agg #[.int .u8 0, .int .u8 0, .int .u8 0, .int .u8 0, .int .u8 0, .int .u8 0, .int .u8 0, .int .u8 0, .int .u8 0, .int .u8 0, .int .u8 0, .int .u8 0, .int .u8 0, .int .u8 0, .int .u8 0, .int .u8 0], .agg #[.int .u8 0, .int .u8 0, .int .u8 0, .int .u8 0, .int .u8 0, .int .u8 0, .int .u8 0, .int .u8 0, .int .u8 0, .int .u8 0, .int .u8 0, .int .u8 0, .int .u8 0, .int .u8 0, .int .u8 0, .int .u8 0], .int .u16 0, .int .u16 0], []⟩ 8 (by kernel_rfl) (by kernel_rfl) (by kernel_rfl) (by kernel_rfl)) ?_
  intro W base args ds gs before hval hW hcnd hsz _
  exact law_contract sysOk mixed laidOut [.str, .bytes 16, .bytes 16, .int .u16, .int .u16] shaped rfl
    (fun ds h => match ds, h with | [_, _, _, _, _], _ => rfl) (rt := ty_bool) (by kernel_rfl) (by kernel_rfl) (fun vs h => ⟨_, ev_FaultBack sysHas 0 h⟩) W base args ds gs before hval hW hsz
theorem over : Rows.faultBackRow.holds Try.pinned (OpenSpec.ofChange Rows.faultBackSpec) :=
  OpenClaim.holds_of_wide 6 Try.f6 rfl rfl rfl rfl rfl rfl rfl ⟨rfl, rfl, rfl, rfl, rfl⟩ rfl rfl rfl rfl rfl (by kernel_rfl) Try.func6 (by kernel_rfl)
    (of_decide_eq_true (by kernel_rfl)) (by unfold Func.isWrapper; first | (rw [if_pos (by decide +kernel)]; kernel_rfl) | (rw [if_neg (by decide +kernel)]; exact ⟨rfl, rfl⟩))
    (fun os started H enc _ => lifted os started H enc)
theorem proved : Rows.FaultBackSaid := over
end Go.Proofs.Ytbdkfdkmefebnaa.faultBack
namespace Go.Proofs.Ytbdkfdkmefebnaa
/-- The row, under a short name, for the claim. -/
theorem faultBack_holds : Rows.FaultBackSaid := faultBack.proved
end Go.Proofs.Ytbdkfdkmefebnaa
#print axioms Go.Proofs.Ytbdkfdkmefebnaa.faultBack_holds
