/- 'apportionlaw26.CalcNone': what the row asks of a call, proved. No condition beside the row's own. -/
import Derived.Test.YtlneknpkdghgiaaGreatDoorCalcNoneRun
import Derived.Test.YtlneknpkdghgiaaGreatDoorRows
import Derived.ProofKit
import Derived.OpenShut
import Derived.LaidMore
import Derived.Lay
import Derived.SevenTiedAt
import Derived.Stop.Joined
namespace Go.Proofs.YtlneknpkdghgiaaGreatDoor
open Go.ChangeShapes Go.WideShapes Go.ChangeAt Go.RowKit
theorem calcNone_own : ownKnob Tryz.prog.godebug = none := by kernel_rfl
/-- an input -/
def noneArgs : Array Value := #[.agg #[.int .i64 0, .int .i64 0, .int .i64 0, .int .i64 0, .int .i64 0], .agg #[.int .i64 0, .int .i64 0, .int .i64 0, .int .i64 0, .slice none 0 0], .agg #[.int .i64 0, .bool false, .string ⟨#[]⟩, .string ⟨#[]⟩, .string ⟨#[]⟩, .string ⟨#[]⟩, .string ⟨#[]⟩, .string ⟨#[]⟩, .string ⟨#[]⟩, .string ⟨#[]⟩, .string ⟨#[]⟩]]
set_option maxRecDepth 100000 in
theorem calcNone_lifted (os : Os) (started : os.Started) (H : Type) (enc : TypeId × Value → H) :
    ReturnsInHanded {} Tryz.checked os 4 .any (fun w args => (Rows.calcNoneSpec.pre enc Tryz.prog Tryz.f4 Rows.calcNoneRow.domain false w args ∧ laidMetH Tryz.prog Rows.calcNoneRow.laid w) ∧ sizedMet enc Tryz.prog Tryz.f4 (OpenSpec.ofChange Rows.calcNoneSpec) false w args)
      (Rows.calcNoneSpec.post enc Tryz.prog Tryz.f4 false true false false) := by
  refine Ai.returns_and (C := Tryz.checked) (X := fun w _ => laidMetH Tryz.prog Rows.calcNoneRow.laid w) (fun _ _ _ hh h => h.of_heap hh) calcNone_own started (by kernel_rfl) Tryz.func4
    (ChangeSpec.witness_shaped (enc := enc) (C := Tryz.checked) (os := os) (X := fun w _ => laidMetH Tryz.prog Rows.calcNoneRow.laid w) false (World.laidAll Tryz.prog os Rows.calcNoneRow.laid) noneArgs 8 (World.laidAll_os _ _ _)
      (World.shaped_of_ZipB (by kernel_rfl) (by kernel_rfl)) (by kernel_rfl) (by kernel_rfl) (by kernel_rfl)
      (by rw [MakeChecks.laidMetH_plain _ _ _ (by kernel_rfl)]; exact laidMet_laidAll _ (by kernel_rfl) (by kernel_rfl))) ?_
  intro W base args ds gs before hval hW _ _ hsh
  have hW' := hW
  obtain ⟨p, q, hA0, hV, rfl, _, _⟩ := hW
  have hA : DataW.TrodAll enc Tryz.prog W 0 (fun _ => true) true Tryz.f4.params.toList args.toList ds p := hA0
  have hA2 := hA
  rw [Tryz.params4] at hA
  obtain ⟨x, o, a, d1, d2, d3, p1, p2, p3, rfl, rfl, rfl, _, _, _⟩ := trodAll_three hA
  obtain ⟨rfl, rfl⟩ := trodVars_none hV
  refine (calcNone_calls W hsh base x o a (hval 0 31 x (by rw [Tryz.params4]; rfl) rfl) (hval 1 41 o (by rw [Tryz.params4]; rfl) rfl) (hval 2 46 a (by rw [Tryz.params4]; rfl) rfl)).mono fun e W' ⟨he, hb⟩ => ?_
  subst he
  refine ⟨_, rfl, _, [], _, [], _, [], hW', ?_, Ai.Below.trodAll (by as_aux_lemma => kernel_rfl) hb (by rw [Tryz.params4]; kernel_rfl) hA2, rfl, hb.frame _, fun h => by cases h⟩
  exact trodAll_mk1 (shut_bool Tryz.underlying4 _)
end Go.Proofs.YtlneknpkdghgiaaGreatDoor
