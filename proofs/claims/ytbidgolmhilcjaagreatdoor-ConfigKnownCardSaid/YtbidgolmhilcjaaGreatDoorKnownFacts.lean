/- 'apportionlaw24.ConfigKnown': the row's closed facts, each asked of the kernel on its own. No condition. -/
import Derived.Test.YtbidgolmhilcjaaGreatDoorRows
import Derived.JoinedOf
namespace Go.Proofs.YtbidgolmhilcjaaGreatDoor
set_option maxHeartbeats 8000000 in
theorem known_closed : joinedFacts Tryz.prog 9 Tryz.f9 Rows.configKnownSpec Rows.configKnownRow = true := by
  unfold joinedFacts
  simp only [Bool.and_eq_true]
  repeat' apply And.intro
  all_goals as_aux_lemma => kernel_rfl
end Go.Proofs.YtbidgolmhilcjaaGreatDoor
