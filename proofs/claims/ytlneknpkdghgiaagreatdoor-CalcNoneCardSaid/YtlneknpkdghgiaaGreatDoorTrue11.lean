/- The closed run of 'apportionlaw26.awake', carried out by the kernel over the interpreter: it returns true. No condition. -/
import Derived.Test.YtlneknpkdghgiaaGreatDoorNat
namespace Go.Proofs.YtlneknpkdghgiaaGreatDoor
open Go.RowKit
set_option maxRecDepth 1000000 in
theorem true11_run : Ai.okRun ((Ai.mkE Tryz.prog X0 100).call 11 [] (Ai.h0 Tryz.prog.globals.size)) = true := by kernel_rfl
noncomputable def X1 : FuncId → Option (List Ai.AV → Ai.H → Ai.CRes) := Ai.withF 11 Ai.natTrue X0
theorem fit1 : Ai.Fit Tryz.prog X1 := fit0.with_ (Ai.natTrue_ok fit0 rfl (Nat.le_of_ble_eq_true (by as_aux_lemma => kernel_rfl)) true11_run)
end Go.Proofs.YtlneknpkdghgiaaGreatDoor
