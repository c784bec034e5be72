/- For every input the law Ip6Writes returns true and leaves its arguments as they were; no condition. Out of the evaluator (sound for this program's functions) and of what its functions yield. -/
import Derived.Test.YtjllbpdljmaeaaaRows
import Derived.Test.YtjllbpdljmaeaaaE8
import Derived.Test.YtjllbpdljmaeaaaE6
import Derived.WalkKit
import Derived.ProofKit
import Derived.OpenShut
import Derived.ChangeOld
import Derived.Below
import Derived.SizedLaws
namespace Go.Proofs.Ytjllbpdljmaeaaa.ip6Writes
open Go.Ev
set_option linter.unusedVariables false
set_option maxRecDepth 100000
theorem own : ownKnob Try.prog.godebug = none := by kernel_rfl
theorem laidOut : laidOutB Try.prog = true := by kernel_rfl
theorem shaped : fitAll Try.prog [shpIp6] Try.f10.params.toList = true := by kernel_rfl
theorem lifted (os : Os) (started : os.Started) (H : Type) (enc : TypeId × Value → H) :
    ReturnsInHanded {} Try.checked os 10 .any (Rows.ip6WritesSpec.pre6 enc Try.prog Try.f10 Rows.ip6WritesRow.domain false) (Rows.ip6WritesSpec.post enc Try.prog Try.f10 false true false false) := by
  refine returnsInHanded_of_change_sized (C := Try.checked) own started (by kernel_rfl) Try.func10
    (ChangeSpec.witness6 (enc := enc) (C := Try.checked) false ⟨#[], #[.agg #[.int .i64 0, .int .i64 0, .int .i64 0, .int .u8 0, .int .u8 0, .int .u8 0, .int .u8 0, .int .u8 0, .int .u8 0, .int .u8 0, .int .u8 0, .int .u8 0, .int .u8 0, .int .u8 0, .int .u8 0, .int .u8 0, .int .u8 0, .int .u8 0, .int .u8 0, .int .u8 0, .int .u8 0, .int .u8 0, .int .u8 0, .int .u8 0, .int .u8 0, .int .u8 0, .int .u8 0, .int .u8 0, .int .u8 0, .int .u8 0, .int .u8 0, .int .u8 0, .int .u8 0, .int .u8 0, .int .u8 0, .slice none 0 0, .bool false, .int .u32 0, .int .i64 0, .bool false, .int .i64 0, .string ByteArray.empty]], []⟩ 8 (by kernel_rfl) (by kernel_rfl) (by kernel_rfl) (by kernel_rfl)) ?_
  intro W base args ds gs before hval hW hcnd hsz _
  exact law_contract sysOk mixed laidOut [shpIp6] shaped rfl
    (fun ds h => match ds, h with | [_], _ => rfl) (rt := ty_bool) (by kernel_rfl) (by kernel_rfl) (fun vs h => ⟨_, ev_Ip6Writes sysHas 0 h⟩) W base args ds gs before hval hW hsz
theorem over : Rows.ip6WritesRow.holds Try.pinned (OpenSpec.ofChange Rows.ip6WritesSpec) :=
  OpenClaim.holds_of_wide 10 Try.f10 rfl rfl rfl rfl rfl rfl rfl ⟨rfl, rfl, rfl, rfl, rfl⟩ rfl rfl rfl rfl rfl (by kernel_rfl) Try.func10 (by kernel_rfl)
    (of_decide_eq_true (by kernel_rfl)) (by unfold Func.isWrapper; first | (rw [if_pos (by decide +kernel)]; kernel_rfl) | (rw [if_neg (by decide +kernel)]; exact ⟨rfl, rfl⟩))
    (fun os started H enc _ => lifted os started H enc)
theorem proved : Rows.Ip6WritesSaid := over
end Go.Proofs.Ytjllbpdljmaeaaa.ip6Writes
namespace Go.Proofs.Ytjllbpdljmaeaaa
/-- The row, under a short name, for the claim. -/
theorem ip6Writes_holds : Rows.Ip6WritesSaid := ip6Writes.proved
end Go.Proofs.Ytjllbpdljmaeaaa
#print axioms Go.Proofs.Ytjllbpdljmaeaaa.ip6Writes_holds
