/- For every input the law RefragAgain returns true and leaves its arguments as they were; no condition. Out of the evaluator (sound for this program's functions) and of what its functions yield. -/
import Derived.Test.YtgnpljdhhliemaaRows
import Derived.Test.YtgnpljdhhliemaaE6
import Derived.Test.YtgnpljdhhliemaaE5
import Derived.WalkKit
import Derived.ProofKit
import Derived.OpenShut
import Derived.ChangeOld
import Derived.Below
import Derived.SizedLaws
namespace Go.Proofs.Ytgnpljdhhliemaa.refragAgain
open Go.Ev
set_option linter.unusedVariables false
set_option maxRecDepth 100000
theorem own : ownKnob Try.prog.godebug = none := by kernel_rfl
theorem laidOut : laidOutB Try.prog = true := by kernel_rfl
theorem shaped : fitAll Try.prog [shpIp4, .int .i64, .int .i64] Try.f5.params.toList = true := by kernel_rfl
theorem lifted (os : Os) (started : os.Started) (H : Type) (enc : TypeId × Value → H) :
    ReturnsInHanded {} Try.checked os 5 .any (Rows.refragAgainSpec.pre6 enc Try.prog Try.f5 Rows.refragAgainRow.domain false) (Rows.refragAgainSpec.post enc Try.prog Try.f5 false true false false) := by
  refine returnsInHanded_of_change_sized (C := Try.checked) own started (by kernel_rfl) Try.func5
    (ChangeSpec.witness6 (enc := enc) (C := Try.checked) false ⟨#[], #[.agg #[.int .i64 0, .int .i64 0, .int .i64 0, .int .i64 0, .int .i64 0, .bool false, .bool false, .int .u8 0, .int .u8 0, .int .u8 0, .int .u8 0, .int .u8 0, .int .u8 0, .int .u8 0, .int .u8 0, .string ByteArray.empty, .string ByteArray.empty], .int .i64 0, .int .i64 0], []⟩ 8 (by kernel_rfl) (by kernel_rfl) (by kernel_rfl) (by kernel_rfl)) ?_
  intro W base args ds gs before hval hW hcnd hsz _
  exact law_contract sysOk mixed laidOut [shpIp4, .int .i64, .int .i64] shaped rfl
    (fun ds h => match ds, h with | [_, _, _], _ => rfl) (rt := ty_bool) (by kernel_rfl) (by kernel_rfl) (fun vs h => ⟨_, ev_RefragAgain sysHas 0 h⟩) W base args ds gs before hval hW hsz
theorem over : Rows.refragAgainRow.holds Try.pinned (OpenSpec.ofChange Rows.refragAgainSpec) :=
  OpenClaim.holds_of_wide 5 Try.f5 rfl rfl rfl rfl rfl rfl rfl ⟨rfl, rfl, rfl, rfl, rfl⟩ rfl rfl rfl rfl rfl (by kernel_rfl) Try.func5 (by kernel_rfl)
    (of_decide_eq_true (by kernel_rfl)) (by unfold Func.isWrapper; first | (rw [if_pos (by decide +kernel)]; kernel_rfl) | (rw [if_neg (by decide +kernel)]; exact ⟨rfl, rfl⟩))
    (fun os started H enc _ => lifted os started H enc)
theorem proved : Rows.RefragAgainSaid := over
end Go.Proofs.Ytgnpljdhhliemaa.refragAgain
namespace Go.Proofs.Ytgnpljdhhliemaa
/-- The row, under a short name, for the claim. -/
theorem refragAgain_holds : Rows.RefragAgainSaid := refragAgain.proved
end Go.Proofs.Ytgnpljdhhliemaa
#print axioms Go.Proofs.Ytgnpljdhhliemaa.refragAgain_holds
