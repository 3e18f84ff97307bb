/- The closed run of 'apportionlaw26.CalcKnown', carried out by the kernel over the interpreter. No condition. -/
import Derived.Test.YtlneknpkdghgiaaGreatDoorTrue11
namespace Go.Proofs.YtlneknpkdghgiaaGreatDoor
open Go.RowKit
set_option maxRecDepth 1000000 in
theorem calcKnown_run : Ai.okRun ((Ai.mkE Tryz.prog X1 100).call 3 [] (Ai.h0 Tryz.prog.globals.size)) = true := by kernel_rfl
theorem calcKnown_calls (W : World) (hsh : W.ShapedOpen Tryz.prog) : Calls Tryz.prog 3 #[] W fun e w' => e = .returned (.bool true) ∧ Below W.heap.size W w' :=
  Ai.run_calls (args := []) (cl := []) fit1 rfl (Nat.le_of_ble_eq_true (by as_aux_lemma => kernel_rfl)) (Nat.le_refl _) calcKnown_run (Ai.heap_of_shaped hsh (by as_aux_lemma => kernel_rfl)) .nil
end Go.Proofs.YtlneknpkdghgiaaGreatDoor
