/- For every input the law RefragJoins returns true and leaves its arguments as they were; no condition. Out of the evaluator (sound for this program's functions) and of what its functions yield. -/
import Derived.Test.YtdoodlfmmjglcaaRows
import Derived.Test.YtdoodlfmmjglcaaE7
import Derived.Test.YtdoodlfmmjglcaaE6
import Derived.WalkKit
import Derived.ProofKit
import Derived.OpenShut
import Derived.ChangeOld
import Derived.Below
import Derived.SizedLaws
namespace Go.Proofs.Ytdoodlfmmjglcaa.refragJoins
open Go.Ev
set_option linter.unusedVariables false
set_option maxRecDepth 100000
theorem own : ownKnob Try.prog.godebug = none := by kernel_rfl
theorem laidOut : laidOutB Try.prog = true := by kernel_rfl
theorem shaped : fitAll Try.prog [shpIp4, .int .i64, .int .i64] Try.f3.params.toList = true := by kernel_rfl
theorem lifted (os : Os) (started : os.Started) (H : Type) (enc : TypeId × Value → H) :
    ReturnsInHanded {} Try.checked os 3 .any (Rows.refragJoinsSpec.pre6 enc Try.prog Try.f3 Rows.refragJoinsRow.domain false) (Rows.refragJoinsSpec.post enc Try.prog Try.f3 false true false false) := by
  refine returnsInHanded_of_change_sized (C := Try.checked) own started (by kernel_rfl) Try.func3
    (ChangeSpec.witness6 (enc := enc) (C := Try.checked) false ⟨#[], #[.agg #[.int .i64 0, .int .i64 0, .int .i64 0, .int .i64 0, .int .i64 0, .bool false, .bool false, .int .u8 0, .int .u8 0, .int .u8 0, .int .u8 0, .int .u8 0, .int .u8 0, .int .u8 0, .int .u8 0, .string ByteArray.empty, .string ByteArray.empty], .int .i64 0, .int .i64 0], []⟩ 8 (by kernel_rfl) (by kernel_rfl) (by kernel_rfl) (by kernel_rfl)) ?_
  intro W base args ds gs before hval hW hcnd hsz _
  exact law_contract sysOk mixed laidOut [shpIp4, .int .i64, .int .i64] shaped rfl
    (fun ds h => match ds, h with | [_, _, _], _ => rfl) (rt := ty_bool) (by kernel_rfl) (by kernel_rfl) (fun vs h => ⟨_, ev_RefragJoins sysHas 0 h⟩) W base args ds gs before hval hW hsz
theorem over : Rows.refragJoinsRow.holds Try.pinned (OpenSpec.ofChange Rows.refragJoinsSpec) :=
  OpenClaim.holds_of_wide 3 Try.f3 rfl rfl rfl rfl rfl rfl rfl ⟨rfl, rfl, rfl, rfl, rfl⟩ rfl rfl rfl rfl rfl (by kernel_rfl) Try.func3 (by kernel_rfl)
    (of_decide_eq_true (by kernel_rfl)) (by unfold Func.isWrapper; first | (rw [if_pos (by decide +kernel)]; kernel_rfl) | (rw [if_neg (by decide +kernel)]; exact ⟨rfl, rfl⟩))
    (fun os started H enc _ => lifted os started H enc)
theorem proved : Rows.RefragJoinsSaid := over
end Go.Proofs.Ytdoodlfmmjglcaa.refragJoins
namespace Go.Proofs.Ytdoodlfmmjglcaa
/-- The row, under a short name, for the claim. -/
theorem refragJoins_holds : Rows.RefragJoinsSaid := refragJoins.proved
end Go.Proofs.Ytdoodlfmmjglcaa
#print axioms Go.Proofs.Ytdoodlfmmjglcaa.refragJoins_holds
