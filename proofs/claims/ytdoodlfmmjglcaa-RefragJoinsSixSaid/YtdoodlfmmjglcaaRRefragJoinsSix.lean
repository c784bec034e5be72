/- For every input the law RefragJoinsSix returns true and leaves its arguments as they were; no condition. Out of the evaluator (sound for this program's functions) and of what its functions yield. -/
import Derived.Test.YtdoodlfmmjglcaaRows
import Derived.Test.YtdoodlfmmjglcaaE8
import Derived.Test.YtdoodlfmmjglcaaE7
import Derived.WalkKit
import Derived.ProofKit
import Derived.OpenShut
import Derived.ChangeOld
import Derived.Below
import Derived.SizedLaws
namespace Go.Proofs.Ytdoodlfmmjglcaa.refragJoinsSix
open Go.Ev
set_option linter.unusedVariables false
set_option maxRecDepth 100000
theorem own : ownKnob Try.prog.godebug = none := by kernel_rfl
theorem laidOut : laidOutB Try.prog = true := by kernel_rfl
theorem shaped : fitAll Try.prog [shpIp6, .int .i64, .int .u32, .int .i64] Try.f4.params.toList = true := by kernel_rfl
theorem lifted (os : Os) (started : os.Started) (H : Type) (enc : TypeId × Value → H) :
    ReturnsInHanded {} Try.checked os 4 .any (Rows.refragJoinsSixSpec.pre6 enc Try.prog Try.f4 Rows.refragJoinsSixRow.domain false) (Rows.refragJoinsSixSpec.post enc Try.prog Try.f4 false true false false) := by
  refine returnsInHanded_of_change_sized (C := Try.checked) own started (by kernel_rfl) Try.func4
    (ChangeSpec.witness6 (enc := enc) (C := Try.checked) false ⟨#[], #[.agg #[.int .i64 0, .int .i64 0, .int .i64 0, .int .u8 0, .int .u8 0, .int .u8 0, .int .u8 0, .int .u8 0, .int .u8 0, .int .u8 0, .int .u8 0, .int .u8 0, .int .u8 0, .int .u8 0, .int .u8 0, .int .u8 0, .int .u8 0, .int .u8 0, .int .u8 0, .int .u8 0, .int .u8 0, .int .u8 0, .int .u8 0, .int .u8 0, .int .u8 0, .int .u8 0, .int .u8 0, .int .u8 0, .int .u8 0, .int .u8 0, .int .u8 0, .int .u8 0, .int .u8 0, .int .u8 0, .int .u8 0, .slice none 0 0, .bool false, .int .u32 0, .int .i64 0, .bool false, .int .i64 0, .string ByteArray.empty], .int .i64 0, .int .u32 0, .int .i64 0], []⟩ 8 (by kernel_rfl) (by kernel_rfl) (by kernel_rfl) (by kernel_rfl)) ?_
  intro W base args ds gs before hval hW hcnd hsz _
  exact law_contract sysOk mixed laidOut [shpIp6, .int .i64, .int .u32, .int .i64] shaped rfl
    (fun ds h => match ds, h with | [_, _, _, _], _ => rfl) (rt := ty_bool) (by kernel_rfl) (by kernel_rfl) (fun vs h => ⟨_, ev_RefragJoinsSix sysHas 0 h⟩) W base args ds gs before hval hW hsz
theorem over : Rows.refragJoinsSixRow.holds Try.pinned (OpenSpec.ofChange Rows.refragJoinsSixSpec) :=
  OpenClaim.holds_of_wide 4 Try.f4 rfl rfl rfl rfl rfl rfl rfl ⟨rfl, rfl, rfl, rfl, rfl⟩ rfl rfl rfl rfl rfl (by kernel_rfl) Try.func4 (by kernel_rfl)
    (of_decide_eq_true (by kernel_rfl)) (by unfold Func.isWrapper; first | (rw [if_pos (by decide +kernel)]; kernel_rfl) | (rw [if_neg (by decide +kernel)]; exact ⟨rfl, rfl⟩))
    (fun os started H enc _ => lifted os started H enc)
theorem proved : Rows.RefragJoinsSixSaid := over
end Go.Proofs.Ytdoodlfmmjglcaa.refragJoinsSix
namespace Go.Proofs.Ytdoodlfmmjglcaa
/-- The row, under a short name, for the claim. -/
theorem refragJoinsSix_holds : Rows.RefragJoinsSixSaid := refragJoinsSix.proved
end Go.Proofs.Ytdoodlfmmjglcaa
#print axioms Go.Proofs.Ytdoodlfmmjglcaa.refragJoinsSix_holds
