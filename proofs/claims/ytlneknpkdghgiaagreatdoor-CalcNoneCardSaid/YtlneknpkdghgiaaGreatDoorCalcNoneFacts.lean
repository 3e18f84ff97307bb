/- 'apportionlaw26.CalcNone': the row's closed facts, each asked of the kernel on its own. No condition. -/
import Derived.Test.YtlneknpkdghgiaaGreatDoorRows
import Derived.JoinedOf
namespace Go.Proofs.YtlneknpkdghgiaaGreatDoor
set_option maxHeartbeats 8000000 in
theorem calcNone_closed : joinedFacts Tryz.prog 4 Tryz.f4 Rows.calcNoneSpec Rows.calcNoneRow = true := by
  unfold joinedFacts
  simp only [Bool.and_eq_true]
  repeat' apply And.intro
  all_goals as_aux_lemma => kernel_rfl
end Go.Proofs.YtlneknpkdghgiaaGreatDoor
