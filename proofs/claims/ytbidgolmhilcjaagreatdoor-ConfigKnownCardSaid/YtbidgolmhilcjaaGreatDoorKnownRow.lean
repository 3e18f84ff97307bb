/- 'apportionlaw24.ConfigKnown': the row's statement. No condition beside the row's own. -/
import Derived.Test.YtbidgolmhilcjaaGreatDoorKnownLift
import Derived.Test.YtbidgolmhilcjaaGreatDoorKnownFacts
import Derived.SevenTiedAt
namespace Go.Proofs.YtbidgolmhilcjaaGreatDoor
open Go.RowKit
theorem known_holds : Rows.ConfigKnownSaid :=
  OpenClaim.holds_of_wide 9 Tryz.f9 rfl rfl rfl rfl rfl rfl rfl ⟨rfl, rfl, rfl, rfl, rfl⟩ rfl rfl rfl rfl rfl (by as_aux_lemma => kernel_rfl) Tryz.func9 known_closed
    (of_decide_eq_true (by kernel_rfl)) (by unfold Func.isWrapper; first | (rw [if_pos (by decide +kernel)]; kernel_rfl) | (rw [if_neg (by decide +kernel)]; exact ⟨rfl, rfl⟩))
    (fun os started H enc _ => known_lifted os started H enc)
end Go.Proofs.YtbidgolmhilcjaaGreatDoor
