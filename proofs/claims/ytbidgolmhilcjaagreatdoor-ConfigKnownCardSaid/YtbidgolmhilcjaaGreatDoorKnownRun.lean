/- The closed run of 'apportionlaw24.ConfigKnown', carried out by the kernel over the interpreter. No condition. -/
import Derived.Test.YtbidgolmhilcjaaGreatDoorIc
import Derived.Test.YtbidgolmhilcjaaGreatDoorProg
namespace Go.Proofs.YtbidgolmhilcjaaGreatDoor
open Go.RowKit
set_option maxRecDepth 1000000 in
theorem known_run : Ai.okRun ((Ai.mkE Tryz.prog (fun _ => none) 100).call 9 [] (Ai.h0 Tryz.prog.globals.size)) = true := by kernel_rfl
theorem fit : Ai.Fit Tryz.prog (fun _ => none) := ⟨by kernel_rfl, fun f fn hf _ => Ai.names_of (by kernel_rfl) f fn hf, fun f g h => by cases h⟩
theorem known_calls (W : World) (hsh : W.ShapedOpen Tryz.prog) : Calls Tryz.prog 9 #[] W fun e w' => e = .returned (.bool true) ∧ Below W.heap.size W w' :=
  Ai.run_calls (args := []) (cl := []) fit rfl (Nat.le_of_ble_eq_true (by kernel_rfl)) (Nat.le_refl _) known_run (Ai.heap_of_shaped hsh (by kernel_rfl)) .nil

end Go.Proofs.YtbidgolmhilcjaaGreatDoor
