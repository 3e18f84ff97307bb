/- 'apportionlaw26.CalcNone': the row's statement. No condition beside the row's own. -/
import Derived.Test.YtlneknpkdghgiaaGreatDoorCalcNoneLift
import Derived.Test.YtlneknpkdghgiaaGreatDoorCalcNoneFacts
import Derived.SevenTiedAt
namespace Go.Proofs.YtlneknpkdghgiaaGreatDoor
open Go.RowKit
theorem calcNone_holds : Rows.CalcNoneSaid :=
  OpenClaim.holds_of_wide 4 Tryz.f4 rfl rfl rfl rfl rfl rfl rfl ⟨rfl, rfl, rfl, rfl, rfl⟩ rfl rfl rfl rfl rfl (by as_aux_lemma => kernel_rfl) Tryz.func4 calcNone_closed
    (of_decide_eq_true (by kernel_rfl)) (by unfold Func.isWrapper; first | (rw [if_pos (by decide +kernel)]; kernel_rfl) | (rw [if_neg (by decide +kernel)]; exact ⟨rfl, rfl⟩))
    (fun os started H enc _ => calcNone_lifted os started H enc)
end Go.Proofs.YtlneknpkdghgiaaGreatDoor
