/- 'apportionlaw26.CalcNone': its run, whatever it is handed: with more than 20 lines it is 'awake', else it does not look at its input. No condition beside the arguments' types. -/
import Derived.Test.YtlneknpkdghgiaaGreatDoorTrue11
namespace Go.Proofs.YtlneknpkdghgiaaGreatDoor
open Go.RowKit
set_option maxRecDepth 1000000
/-- the run, of an order whose lines are 'l' -/
noncomputable def noneRun (n : Nat) (l : Ai.AV) : Bool := Ai.okRun ((Ai.mkE Tryz.prog X1 100).call 4 [.agg (Ai.opqs 5), .agg [.opq, .opq, .opq, .opq, l], .agg (Ai.opqs 11)] (Ai.h0 n))
theorem noneRun_nil : noneRun Tryz.prog.globals.size .snil = true := by kernel_rfl
theorem noneRun_big (m cap : Nat) : noneRun (Nat.succ Tryz.prog.globals.size) (.slice Tryz.prog.globals.size 0 (Nat.add m 21) cap) = true := by kernel_rfl
theorem noneRun_0 (cap : Nat) : noneRun (Nat.succ Tryz.prog.globals.size) (.slice Tryz.prog.globals.size 0 0 cap) = true := by kernel_rfl
theorem noneRun_1 (cap : Nat) : noneRun (Nat.succ Tryz.prog.globals.size) (.slice Tryz.prog.globals.size 0 1 cap) = true := by kernel_rfl
theorem noneRun_2 (cap : Nat) : noneRun (Nat.succ Tryz.prog.globals.size) (.slice Tryz.prog.globals.size 0 2 cap) = true := by kernel_rfl
theorem noneRun_3 (cap : Nat) : noneRun (Nat.succ Tryz.prog.globals.size) (.slice Tryz.prog.globals.size 0 3 cap) = true := by kernel_rfl
theorem noneRun_4 (cap : Nat) : noneRun (Nat.succ Tryz.prog.globals.size) (.slice Tryz.prog.globals.size 0 4 cap) = true := by kernel_rfl
theorem noneRun_5 (cap : Nat) : noneRun (Nat.succ Tryz.prog.globals.size) (.slice Tryz.prog.globals.size 0 5 cap) = true := by kernel_rfl
theorem noneRun_6 (cap : Nat) : noneRun (Nat.succ Tryz.prog.globals.size) (.slice Tryz.prog.globals.size 0 6 cap) = true := by kernel_rfl
theorem noneRun_7 (cap : Nat) : noneRun (Nat.succ Tryz.prog.globals.size) (.slice Tryz.prog.globals.size 0 7 cap) = true := by kernel_rfl
theorem noneRun_8 (cap : Nat) : noneRun (Nat.succ Tryz.prog.globals.size) (.slice Tryz.prog.globals.size 0 8 cap) = true := by kernel_rfl
theorem noneRun_9 (cap : Nat) : noneRun (Nat.succ Tryz.prog.globals.size) (.slice Tryz.prog.globals.size 0 9 cap) = true := by kernel_rfl
theorem noneRun_10 (cap : Nat) : noneRun (Nat.succ Tryz.prog.globals.size) (.slice Tryz.prog.globals.size 0 10 cap) = true := by kernel_rfl
theorem noneRun_11 (cap : Nat) : noneRun (Nat.succ Tryz.prog.globals.size) (.slice Tryz.prog.globals.size 0 11 cap) = true := by kernel_rfl
theorem noneRun_12 (cap : Nat) : noneRun (Nat.succ Tryz.prog.globals.size) (.slice Tryz.prog.globals.size 0 12 cap) = true := by kernel_rfl
theorem noneRun_13 (cap : Nat) : noneRun (Nat.succ Tryz.prog.globals.size) (.slice Tryz.prog.globals.size 0 13 cap) = true := by kernel_rfl
theorem noneRun_14 (cap : Nat) : noneRun (Nat.succ Tryz.prog.globals.size) (.slice Tryz.prog.globals.size 0 14 cap) = true := by kernel_rfl
theorem noneRun_15 (cap : Nat) : noneRun (Nat.succ Tryz.prog.globals.size) (.slice Tryz.prog.globals.size 0 15 cap) = true := by kernel_rfl
theorem noneRun_16 (cap : Nat) : noneRun (Nat.succ Tryz.prog.globals.size) (.slice Tryz.prog.globals.size 0 16 cap) = true := by kernel_rfl
theorem noneRun_17 (cap : Nat) : noneRun (Nat.succ Tryz.prog.globals.size) (.slice Tryz.prog.globals.size 0 17 cap) = true := by kernel_rfl
theorem noneRun_18 (cap : Nat) : noneRun (Nat.succ Tryz.prog.globals.size) (.slice Tryz.prog.globals.size 0 18 cap) = true := by kernel_rfl
theorem noneRun_19 (cap : Nat) : noneRun (Nat.succ Tryz.prog.globals.size) (.slice Tryz.prog.globals.size 0 19 cap) = true := by kernel_rfl
theorem noneRun_20 (cap : Nat) : noneRun (Nat.succ Tryz.prog.globals.size) (.slice Tryz.prog.globals.size 0 20 cap) = true := by kernel_rfl
theorem noneRun_small : ∀ (len cap : Nat), len ≤ 20 → noneRun (Nat.succ Tryz.prog.globals.size) (.slice Tryz.prog.globals.size 0 len cap) = true
  | 0, cap, _ => noneRun_0 cap
  | 1, cap, _ => noneRun_1 cap
  | 2, cap, _ => noneRun_2 cap
  | 3, cap, _ => noneRun_3 cap
  | 4, cap, _ => noneRun_4 cap
  | 5, cap, _ => noneRun_5 cap
  | 6, cap, _ => noneRun_6 cap
  | 7, cap, _ => noneRun_7 cap
  | 8, cap, _ => noneRun_8 cap
  | 9, cap, _ => noneRun_9 cap
  | 10, cap, _ => noneRun_10 cap
  | 11, cap, _ => noneRun_11 cap
  | 12, cap, _ => noneRun_12 cap
  | 13, cap, _ => noneRun_13 cap
  | 14, cap, _ => noneRun_14 cap
  | 15, cap, _ => noneRun_15 cap
  | 16, cap, _ => noneRun_16 cap
  | 17, cap, _ => noneRun_17 cap
  | 18, cap, _ => noneRun_18 cap
  | 19, cap, _ => noneRun_19 cap
  | 20, cap, _ => noneRun_20 cap
  | n + 21, _, h => absurd h (by omega)
theorem noneRun_slice (len cap : Nat) : noneRun (Nat.succ Tryz.prog.globals.size) (.slice Tryz.prog.globals.size 0 len cap) = true := by
  by_cases h : len ≤ 20
  · exact noneRun_small len cap h
  · obtain ⟨m, rfl⟩ : ∃ m, len = Nat.add m 21 := ⟨len - 21, by show len = len - 21 + 21; omega⟩
    exact noneRun_big m cap
theorem calcNone_calls (W : World) (hsh : W.ShapedOpen Tryz.prog) (base : Nat) (x o a : Value) (hx : Value.okWide Tryz.prog W .any base 31 x) (ho : Value.okWide Tryz.prog W .any base 41 o) (ha : Value.okWide Tryz.prog W .any base 46 a) :
    Calls Tryz.prog 4 #[x, o, a] W fun e w' => e = .returned (.bool true) ∧ Below W.heap.size W w' := by
  have hW := Ai.heap_of_shaped hsh (by as_aux_lemma => kernel_rfl)
  have hG : Tryz.prog.globals.size + 1 ≤ Ai.maxBlocks := Nat.le_of_ble_eq_true (by as_aux_lemma => kernel_rfl)
  have hx' := fun φ => Ai.opq_agg (φ := φ) (n := 5) (ts := [3, 3, 3, 3, 3]) (by as_aux_lemma => kernel_rfl) (by as_aux_lemma => kernel_rfl) (by as_aux_lemma => kernel_rfl) rfl hx
  have ha' := fun φ => Ai.opq_agg (φ := φ) (n := 11) (ts := [3, 4, 9, 9, 9, 9, 9, 9, 9, 9, 9]) (by as_aux_lemma => kernel_rfl) (by as_aux_lemma => kernel_rfl) (by as_aux_lemma => kernel_rfl) rfl ha
  obtain ⟨cs, rfl, hl, hc⟩ := Ai.agg_of_okWide (ts := [3, 3, 3, 3, 39]) (by as_aux_lemma => kernel_rfl) (by as_aux_lemma => kernel_rfl) (by as_aux_lemma => kernel_rfl) ho
  match cs, hl, hc with
  | [c0, c1, c2, c3, c4], _, hc =>
    have k0 := Ai.cell_of_okWide (hc 0 c0 3 rfl rfl)
    have k1 := Ai.cell_of_okWide (hc 1 c1 3 rfl rfl)
    have k2 := Ai.cell_of_okWide (hc 2 c2 3 rfl rfl)
    have k3 := Ai.cell_of_okWide (hc 3 c3 3 rfl rfl)
    have k4 := Ai.cell_of_okWide (hc 4 c4 39 rfl rfl)
    have hall : ∀ c ∈ [c0, c1, c2, c3, c4], Ai.isCellV c = true := by
      intro c hc
      simp only [List.mem_cons, List.not_mem_nil, or_false] at hc
      rcases hc with rfl | rfl | rfl | rfl | rfl <;> assumption
    rcases Ai.slice_of_okWide (e := 38) (by as_aux_lemma => kernel_rfl) (hc 4 c4 39 rfl rfl) with rfl | ⟨b, off, len, cap, rfl, hb, _⟩
    · exact Ai.run_calls' (cl := [x, _, a]) fit1 rfl (by omega) noneRun_nil (Ai.phi0_lt hW) (Ai.phi0_grel (Nat.le_refl _))
        (.cons (hx' _) (.cons (.agg (.cons (.opq k0) (.cons (.opq k1) (.cons (.opq k2) (.cons (.opq k3) (.cons .snil .nil))))) hall) (.cons (ha' _) .nil)))
    · refine Ai.run_calls' (cl := [x, _, a]) (φ := (Ai.phi0 Tryz.prog.globals.size).put Tryz.prog.globals.size ⟨b, off, 0⟩) fit1 rfl hG (noneRun_slice len cap) (Ai.phi_put_lt (Ai.phi0_lt hW) hb) (Ai.phi_put_grel (Nat.le_refl _) (Ai.phi0_grel (Nat.le_refl _)))
        (.cons (hx' _) (.cons (.agg (.cons (.opq k0) (.cons (.opq k1) (.cons (.opq k2) (.cons (.opq k3) (.cons ?_ .nil))))) hall) (.cons (ha' _) .nil)))
      exact Ai.VRel.slice (o := 0) (Ai.Phi.put_same _ _ _)
end Go.Proofs.YtlneknpkdghgiaaGreatDoor
