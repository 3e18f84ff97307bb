/- 'apportionlaw26.CalcKnown': the tied card: it returns true, and each argument reads as it did. No condition beside the card's own. -/
import Derived.Test.YtlneknpkdghgiaaGreatDoorCalcKnownRow
import Derived.Test.YtlneknpkdghgiaaGreatDoorCards
import Derived.Test.YtlneknpkdghgiaaGreatDoorTie
import Derived.SevenTiedAt
namespace Go.Proofs.YtlneknpkdghgiaaGreatDoor
open Go.RowKit
theorem calcKnown_card : Rows.CalcKnownCardSaid :=
  Claim7.holds_tied_plain_at .later [] [.data, .listed, .data, .pinned] true (true, "149349fc5f0f5974e6da23dd5d6ac071bcd9094eb80b5f0e75ecf302b78c6f7b") false calcKnown_holds (fun _ h => by cases h) (by as_aux_lemma => kernel_rfl) (fun _ h => by cases h) calcKnown_row_tie rfl ⟨rfl, rfl⟩ (by as_aux_lemma => kernel_rfl) rfl
    (fun f fn hf hfn => by
      obtain rfl : f = 3 := Option.some.inj ((show Tryz.prog.funcNamed "apportion/apportionlaw26.CalcKnown" = some 3 by as_aux_lemma => kernel_rfl).symm.trans hf) |>.symm
      obtain rfl : fn = Tryz.f3 := (Option.some.inj (Tryz.func3.symm.trans hfn)).symm
      exact ⟨by as_aux_lemma => kernel_rfl, fun j t ht => by
        rw [Tryz.params3] at ht
        simp at ht⟩)
    (by as_aux_lemma => kernel_rfl)
#print axioms calcKnown_card
end Go.Proofs.YtlneknpkdghgiaaGreatDoor
