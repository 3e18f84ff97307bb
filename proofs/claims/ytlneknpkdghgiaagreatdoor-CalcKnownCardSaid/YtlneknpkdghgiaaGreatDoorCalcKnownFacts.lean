/- 'apportionlaw26.CalcKnown': the row's closed facts, each asked of the kernel on its own. No condition. -/
import Derived.Test.YtlneknpkdghgiaaGreatDoorRows
import Derived.JoinedOf
namespace Go.Proofs.YtlneknpkdghgiaaGreatDoor
set_option maxHeartbeats 8000000 in
theorem calcKnown_closed : joinedFacts Tryz.prog 3 Tryz.f3 Rows.calcKnownSpec Rows.calcKnownRow = true := by
  unfold joinedFacts
  simp only [Bool.and_eq_true]
  repeat' apply And.intro
  all_goals as_aux_lemma => kernel_rfl
end Go.Proofs.YtlneknpkdghgiaaGreatDoor
