/- 'apportionlaw24.ConfigKnown': the tied card: it returns true, and each argument reads as it did. No condition beside the card's own. -/
import Derived.Test.YtbidgolmhilcjaaGreatDoorKnownRow
import Derived.Test.YtbidgolmhilcjaaGreatDoorCards
import Derived.Test.YtbidgolmhilcjaaGreatDoorTie
import Derived.SevenTiedAt
namespace Go.Proofs.YtbidgolmhilcjaaGreatDoor
open Go.RowKit
theorem configKnown_card : Rows.ConfigKnownCardSaid :=
  Claim7.holds_tied_plain_at .later [] [.data, .listed, .data, .pinned] true (true, "dc8e419b07defb6913dfbe0d308fb58ee77c88fa89f19e022b4c82610d30c00d") false known_holds (fun _ h => by cases h) (by as_aux_lemma => kernel_rfl) (fun _ h => by cases h) configKnown_row_tie rfl ⟨rfl, rfl⟩ (by as_aux_lemma => kernel_rfl) rfl
    (fun f fn hf hfn => by
      obtain rfl : f = 9 := Option.some.inj ((show Tryz.prog.funcNamed "apportion/apportionlaw24.ConfigKnown" = some 9 by as_aux_lemma => kernel_rfl).symm.trans hf) |>.symm
      obtain rfl : fn = Tryz.f9 := (Option.some.inj (Tryz.func9.symm.trans hfn)).symm
      exact ⟨by as_aux_lemma => kernel_rfl, fun j t ht => by
        rw [Tryz.params9] at ht
        simp at ht⟩)
    (by as_aux_lemma => kernel_rfl)
#print axioms configKnown_card
end Go.Proofs.YtbidgolmhilcjaaGreatDoor
