/- For every input the law FaultInside returns true and leaves its arguments as they were; no condition. Out of the evaluator (sound for this program's functions) and of what its functions yield. -/
import Derived.Test.YtbdkfdkmefebnaaRows
import Derived.Test.YtbdkfdkmefebnaaE9
import Derived.Test.YtbdkfdkmefebnaaE7
import Derived.WalkKit
import Derived.ProofKit
import Derived.OpenShut
import Derived.ChangeOld
import Derived.Below
import Derived.SizedLaws
namespace Go.Proofs.Ytbdkfdkmefebnaa.faultInside
open Go.Ev
set_option linter.unusedVariables false
set_option maxRecDepth 100000
theorem own : ownKnob Try.prog.godebug = none := by kernel_rfl
theorem laidOut : laidOutB Try.prog = true := by kernel_rfl
theorem shaped : fitAll Try.prog [.str] Try.f5.params.toList = true := by kernel_rfl
theorem lifted (os : Os) (started : os.Started) (H : Type) (enc : TypeId × Value → H) :
    ReturnsInHanded {} Try.checked os 5 .any (Rows.faultInsideSpec.pre6 enc Try.prog Try.f5 Rows.faultInsideRow.domain false) (Rows.faultInsideSpec.post enc Try.prog Try.f5 false true false false) := by
  refine returnsInHanded_of_change_sized (C := Try.checked) own started (by kernel_rfl) Try.func5
    (ChangeSpec.witness6 (enc := enc) (C := Try.checked) false ⟨#[], #[.string ByteArray.empty], []⟩ 8 (by kernel_rfl) (by kernel_rfl) (by kernel_rfl) (by kernel_rfl)) ?_
  intro W base args ds gs before hval hW hcnd hsz _
  exact law_contract sysOk mixed laidOut [.str] shaped rfl
    (fun ds h => match ds, h with | [_], _ => rfl) (rt := ty_bool) (by kernel_rfl) (by kernel_rfl) (fun vs h => ⟨_, ev_FaultInside sysHas 0 h⟩) W base args ds gs before hval hW hsz
theorem over : Rows.faultInsideRow.holds Try.pinned (OpenSpec.ofChange Rows.faultInsideSpec) :=
  OpenClaim.holds_of_wide 5 Try.f5 rfl rfl rfl rfl rfl rfl rfl ⟨rfl, rfl, rfl, rfl, rfl⟩ rfl rfl rfl rfl rfl (by kernel_rfl) Try.func5 (by kernel_rfl)
    (of_decide_eq_true (by kernel_rfl)) (by unfold Func.isWrapper; first | (rw [if_pos (by decide +kernel)]; kernel_rfl) | (rw [if_neg (by decide +kernel)]; exact ⟨rfl, rfl⟩))
    (fun os started H enc _ => lifted os started H enc)
theorem proved : Rows.FaultInsideSaid := over
end Go.Proofs.Ytbdkfdkmefebnaa.faultInside
namespace Go.Proofs.Ytbdkfdkmefebnaa
/-- The row, under a short name, for the claim. -/
theorem faultInside_holds : Rows.FaultInsideSaid := faultInside.proved
end Go.Proofs.Ytbdkfdkmefebnaa
#print axioms Go.Proofs.Ytbdkfdkmefebnaa.faultInside_holds
