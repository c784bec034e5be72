/- For every input the law FaultCarries returns true and leaves its arguments as they were; no condition. Out of the evaluator (sound for this program's functions) and of what its functions yield. -/
import Derived.Test.YtgellbiecjifbaaGreatRows
import Derived.Test.YtgellbiecjifbaaGreatE9
import Derived.Test.YtgellbiecjifbaaGreatE7
import Derived.WalkKit
import Derived.ProofKit
import Derived.OpenShut
import Derived.ChangeOld
import Derived.Below
import Derived.SizedLaws
namespace Go.Proofs.YtgellbiecjifbaaGreat.faultCarries
open Go.Ev
set_option linter.unusedVariables false
set_option maxRecDepth 100000
theorem own : ownKnob Tryz.prog.godebug = none := by kernel_rfl
theorem laidOut : laidOutB Tryz.prog = true := by kernel_rfl
theorem shaped : fitAll Tryz.prog [.agg [.int .i64, .int .i64, .int .u32, .str], .agg [.int .i64, .int .i64, .int .u32, .str], .int .i64, .int .i64, .agg [.bytes 16, .int .i64], .agg [.bytes 16, .int .i64], .agg [.bytes 4, .int .i64], .agg [.bytes 4, .int .i64]] Tryz.f3.params.toList = true := by kernel_rfl
theorem lifted (os : Os) (started : os.Started) (H : Type) (enc : TypeId × Value → H) :
    ReturnsInHanded {} Tryz.checked os 3 .any (Rows.faultCarriesSpec.pre6 enc Tryz.prog Tryz.f3 Rows.faultCarriesRow.domain false) (Rows.faultCarriesSpec.post enc Tryz.prog Tryz.f3 false true false false) := by
  refine returnsInHanded_of_change_sized (C := Tryz.checked) own started (by kernel_rfl) Tryz.func3
    (ChangeSpec.witness6 (enc := enc) (C := Tryz.checked) false ⟨#[], #[.agg #[.int .i64 0, .int .i64 0, .int .u32 0, .string ByteArray.empty], .agg #[.int .i64 0, .int .i64 0, .int .u32 0, .string ByteArray.empty], .int .i64 0, .int .i64 0, .agg #[.int .u8 0, .int .u8 0, .int .u8 0, .int .u8 0, .int .u8 0, .int .u8 0, .int .u8 0, .int .u8 0, .int .u8 0, .int .u8 0, .int .u8 0, .int .u8 0, .int .u8 0, .int .u8 0, .int .u8 0, .int .u8 0, .int .i64 0], .agg #[.int .u8 0, .int .u8 0, .int .u8 0, .int .u8 0, .int .u8 0, .int .u8 0, .int .u8 0, .int .u8 0, .int .u8 0, .int .u8 0, .int .u8 0, .int .u8 0, .int .u8 0, .int .u8 0, .int .u8 0, .int .u8 0, .int .i64 0], .agg #[.int .u8 0, .int .u8 0, .int .u8 0, .int .u8 0, .int .i64 0], .agg #[.int .u8 0, .int .u8 0, .int .u8 0, .int .u8 0, .int .i64 0]], []⟩ 8 (by kernel_rfl) (by kernel_rfl) (by kernel_rfl) (by kernel_rfl)) ?_
  intro W base args ds gs before hval hW hcnd hsz _
  exact law_contract sysOk mixed laidOut [.agg [.int .i64, .int .i64, .int .u32, .str], .agg [.int .i64, .int .i64, .int .u32, .str], .int .i64, .int .i64, .agg [.bytes 16, .int .i64], .agg [.bytes 16, .int .i64], .agg [.bytes 4, .int .i64], .agg [.bytes 4, .int .i64]] shaped rfl
    (fun ds h => match ds, h with | [_, _, _, _, _, _, _, _], _ => rfl) (rt := ty_bool) (by kernel_rfl) (by kernel_rfl) (fun vs h => ⟨_, ev_FaultCarries sysHas 0 h⟩) W base args ds gs before hval hW hsz
theorem over : Rows.faultCarriesRow.holds Tryz.pinned (OpenSpec.ofChange Rows.faultCarriesSpec) :=
  OpenClaim.holds_of_wide 3 Tryz.f3 rfl rfl rfl rfl rfl rfl rfl ⟨rfl, rfl, rfl, rfl, rfl⟩ rfl rfl rfl rfl rfl (by kernel_rfl) Tryz.func3 (by kernel_rfl)
    (of_decide_eq_true (by kernel_rfl)) (by unfold Func.isWrapper; first | (rw [if_pos (by decide +kernel)]; kernel_rfl) | (rw [if_neg (by decide +kernel)]; exact ⟨rfl, rfl⟩))
    (fun os started H enc _ => lifted os started H enc)
theorem proved : Rows.FaultCarriesSaid := over
end Go.Proofs.YtgellbiecjifbaaGreat.faultCarries
namespace Go.Proofs.YtgellbiecjifbaaGreat
/-- The row, under a short name, for the claim. -/
theorem faultCarries_holds : Rows.FaultCarriesSaid := faultCarries.proved
end Go.Proofs.YtgellbiecjifbaaGreat
#print axioms Go.Proofs.YtgellbiecjifbaaGreat.faultCarries_holds
