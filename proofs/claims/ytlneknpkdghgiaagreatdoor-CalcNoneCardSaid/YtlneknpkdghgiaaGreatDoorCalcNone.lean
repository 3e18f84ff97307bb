/- 'apportionlaw26.CalcNone': the tied card: it returns true, and each argument reads as it did. No condition beside the card's own. -/
import Derived.Test.YtlneknpkdghgiaaGreatDoorCalcNoneRow
import Derived.Test.YtlneknpkdghgiaaGreatDoorCards
import Derived.Test.YtlneknpkdghgiaaGreatDoorTie
import Derived.SevenTiedAt
namespace Go.Proofs.YtlneknpkdghgiaaGreatDoor
open Go.RowKit
theorem calcNone_card : Rows.CalcNoneCardSaid :=
  Claim7.holds_tied_plain_at .later [] [.data, .listed, .data, .pinned] true (true, "149349fc5f0f5974e6da23dd5d6ac071bcd9094eb80b5f0e75ecf302b78c6f7b") false calcNone_holds (fun _ h => by cases h) (by as_aux_lemma => kernel_rfl) (fun _ h => by cases h) calcNone_row_tie rfl ⟨rfl, rfl⟩ (by as_aux_lemma => kernel_rfl) rfl
    (fun f fn hf hfn => by
      obtain rfl : f = 4 := Option.some.inj ((show Tryz.prog.funcNamed "apportion/apportionlaw26.CalcNone" = some 4 by as_aux_lemma => kernel_rfl).symm.trans hf) |>.symm
      obtain rfl : fn = Tryz.f4 := (Option.some.inj (Tryz.func4.symm.trans hfn)).symm
      exact ⟨by as_aux_lemma => kernel_rfl, fun j t ht => by
        rw [Tryz.params4] at ht
        have hm : t ∈ [31, 41, 46] := by simpa using Array.mem_of_getElem? ht
        have hall : ([31, 41, 46].all fun u => !Tryz.prog.wantsStandIn u) = true := by as_aux_lemma => kernel_rfl
        exact (show Tryz.prog.wantsStandIn t = false by simpa using List.all_eq_true.1 hall t hm)⟩)
    (by as_aux_lemma => kernel_rfl)
#print axioms calcNone_card
end Go.Proofs.YtlneknpkdghgiaaGreatDoor
