/- For every input the law Ip6Known returns true and leaves its arguments as they were; no condition. Out of the evaluator (sound for this program's functions) and of what its functions yield. -/
import Derived.Test.YtjllbpdljmaeaaaRows
import Derived.Test.YtjllbpdljmaeaaaE7
import Derived.Test.YtjllbpdljmaeaaaE5
import Derived.WalkKit
import Derived.ProofKit
import Derived.OpenShut
import Derived.ChangeOld
import Derived.Below
import Derived.SizedLaws
namespace Go.Proofs.Ytjllbpdljmaeaaa.ip6Known
open Go.Ev
set_option linter.unusedVariables false
set_option maxRecDepth 100000
theorem own : ownKnob Try.prog.godebug = none := by kernel_rfl
theorem laidOut : laidOutB Try.prog = true := by kernel_rfl
theorem shaped : fitAll Try.prog [] Try.f9.params.toList = true := by kernel_rfl
theorem lifted (os : Os) (started : os.Started) (H : Type) (enc : TypeId × Value → H) :
    ReturnsInHanded {} Try.checked os 9 .any (Rows.ip6KnownSpec.pre6 enc Try.prog Try.f9 Rows.ip6KnownRow.domain false) (Rows.ip6KnownSpec.post enc Try.prog Try.f9 false true false false) := by
  refine returnsInHanded_of_change_sized (C := Try.checked) own started (by kernel_rfl) Try.func9
    (ChangeSpec.witness6 (enc := enc) (C := Try.checked) false ⟨#[], #[], []⟩ 8 (by kernel_rfl) (by kernel_rfl) (by kernel_rfl) (by kernel_rfl)) ?_
  intro W base args ds gs before hval hW hcnd hsz _
  exact law_contract sysOk mixed laidOut [] shaped rfl
    (fun ds h => match ds, h with | [], _ => rfl) (rt := ty_bool) (by kernel_rfl) (by kernel_rfl) (fun vs h => ⟨_, ev_Ip6Known sysHas 0 h⟩) W base args ds gs before hval hW hsz
theorem over : Rows.ip6KnownRow.holds Try.pinned (OpenSpec.ofChange Rows.ip6KnownSpec) :=
  OpenClaim.holds_of_wide 9 Try.f9 rfl rfl rfl rfl rfl rfl rfl ⟨rfl, rfl, rfl, rfl, rfl⟩ rfl rfl rfl rfl rfl (by kernel_rfl) Try.func9 (by kernel_rfl)
    (of_decide_eq_true (by kernel_rfl)) (by unfold Func.isWrapper; first | (rw [if_pos (by decide +kernel)]; kernel_rfl) | (rw [if_neg (by decide +kernel)]; exact ⟨rfl, rfl⟩))
    (fun os started H enc _ => lifted os started H enc)
theorem proved : Rows.Ip6KnownSaid := over
end Go.Proofs.Ytjllbpdljmaeaaa.ip6Known
namespace Go.Proofs.Ytjllbpdljmaeaaa
/-- The row, under a short name, for the claim. -/
theorem ip6Known_holds : Rows.Ip6KnownSaid := ip6Known.proved
end Go.Proofs.Ytjllbpdljmaeaaa
#print axioms Go.Proofs.Ytjllbpdljmaeaaa.ip6Known_holds
