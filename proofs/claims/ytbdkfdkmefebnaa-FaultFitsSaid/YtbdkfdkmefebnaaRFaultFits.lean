/- For every input the law FaultFits returns true and leaves its arguments as they were; no condition. Out of the evaluator (sound for this program's functions) and of what its functions yield. -/
import Derived.Test.YtbdkfdkmefebnaaRows
import Derived.Test.YtbdkfdkmefebnaaE9
import Derived.Test.YtbdkfdkmefebnaaE7
import Derived.WalkKit
import Derived.ProofKit
import Derived.OpenShut
import Derived.ChangeOld
import Derived.Below
import Derived.SizedLaws
namespace Go.Proofs.Ytbdkfdkmefebnaa.faultFits
open Go.Ev
set_option linter.unusedVariables false
set_option maxRecDepth 100000
theorem own : ownKnob Try.prog.godebug = none := by kernel_rfl
theorem laidOut : laidOutB Try.prog = true := by kernel_rfl
theorem shaped : fitAll Try.prog [.agg [.int .i64, .int .i64, .int .u32, .str], .str, .bytes 4, .bytes 16, .int .i64, .int .i64, .int .i64] Try.f8.params.toList = true := by kernel_rfl
theorem lifted (os : Os) (started : os.Started) (H : Type) (enc : TypeId × Value → H) :
    ReturnsInHanded {} Try.checked os 8 .any (Rows.faultFitsSpec.pre6 enc Try.prog Try.f8 Rows.faultFitsRow.domain false) (Rows.faultFitsSpec.post enc Try.prog Try.f8 false true false false) := by
  refine returnsInHanded_of_change_sized (C := Try.checked) own started (by kernel_rfl) Try.func8
    (ChangeSpec.witness6 (enc := enc) (C := Try.checked) false ⟨#[], #[.agg #[.int .i64 0, .int .i64 0, .int .u32 0, .string ByteArray.empty], .string ByteArray.empty, .agg #[.int .u8 0, .int .u8 0, .int .u8 0, .int .u8 0], .agg #[.int .u8 0, .int .u8 0, .int .u8 0, .int .u8 0, .int .u8 0, .int .u8 0, .int .u8 0, .int .u8 0, .int .u8 0, .int .u8 0, .int .u8 0, .int .u8 0, .int .u8 0, .int .u8 0, .int .u8 0, .int .u8 0], .int .i64 0, .int .i64 0, .int .i64 0], []⟩ 8 (by kernel_rfl) (by kernel_rfl) (by kernel_rfl) (by kernel_rfl)) ?_
  intro W base args ds gs before hval hW hcnd hsz _
  exact law_contract sysOk mixed laidOut [.agg [.int .i64, .int .i64, .int .u32, .str], .str, .bytes 4, .bytes 16, .int .i64, .int .i64, .int .i64] shaped rfl
    (fun ds h => match ds, h with | [_, _, _, _, _, _, _], _ => rfl) (rt := ty_bool) (by kernel_rfl) (by kernel_rfl) (fun vs h => ⟨_, ev_FaultFits sysHas 0 h⟩) W base args ds gs before hval hW hsz
theorem over : Rows.faultFitsRow.holds Try.pinned (OpenSpec.ofChange Rows.faultFitsSpec) :=
  OpenClaim.holds_of_wide 8 Try.f8 rfl rfl rfl rfl rfl rfl rfl ⟨rfl, rfl, rfl, rfl, rfl⟩ rfl rfl rfl rfl rfl (by kernel_rfl) Try.func8 (by kernel_rfl)
    (of_decide_eq_true (by kernel_rfl)) (by unfold Func.isWrapper; first | (rw [if_pos (by decide +kernel)]; kernel_rfl) | (rw [if_neg (by decide +kernel)]; exact ⟨rfl, rfl⟩))
    (fun os started H enc _ => lifted os started H enc)
theorem proved : Rows.FaultFitsSaid := over
end Go.Proofs.Ytbdkfdkmefebnaa.faultFits
namespace Go.Proofs.Ytbdkfdkmefebnaa
/-- The row, under a short name, for the claim. -/
theorem faultFits_holds : Rows.FaultFitsSaid := faultFits.proved
end Go.Proofs.Ytbdkfdkmefebnaa
#print axioms Go.Proofs.Ytbdkfdkmefebnaa.faultFits_holds
