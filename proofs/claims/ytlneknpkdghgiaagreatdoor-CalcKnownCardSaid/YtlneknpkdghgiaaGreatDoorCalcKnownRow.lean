/- 'apportionlaw26.CalcKnown': the row's statement. No condition beside the row's own. -/
import Derived.Test.YtlneknpkdghgiaaGreatDoorCalcKnownLift
import Derived.Test.YtlneknpkdghgiaaGreatDoorCalcKnownFacts
import Derived.SevenTiedAt
namespace Go.Proofs.YtlneknpkdghgiaaGreatDoor
open Go.RowKit
theorem calcKnown_holds : Rows.CalcKnownSaid :=
  OpenClaim.holds_of_wide 3 Tryz.f3 rfl rfl rfl rfl rfl rfl rfl ⟨rfl, rfl, rfl, rfl, rfl⟩ rfl rfl rfl rfl rfl (by as_aux_lemma => kernel_rfl) Tryz.func3 calcKnown_closed
    (of_decide_eq_true (by kernel_rfl)) (by unfold Func.isWrapper; first | (rw [if_pos (by decide +kernel)]; kernel_rfl) | (rw [if_neg (by decide +kernel)]; exact ⟨rfl, rfl⟩))
    (fun os started H enc _ => calcKnown_lifted os started H enc)
end Go.Proofs.YtlneknpkdghgiaaGreatDoor
