/- The soundness of the interpreter, continued: regions, functions, loops; a call that it carries out to an end returns so, whatever the tape. No condition. -/
import Derived.Test.YtlneknpkdghgiaaGreatDoorIb
import Derived.Below
import Derived.ShapedOpen
import Derived.Handed
import Derived.KernelRfl
import Derived.WideShapes
import Derived.ChangeShapes
import Derived.Tactics
import Derived.OpenShut
set_option linter.unusedVariables false
set_option linter.unusedSimpArgs false
set_option linter.unnecessarySimpa false
set_option linter.unusedSectionVars false
namespace Go.Ai
open Go
set_option linter.unusedVariables false

section
variable (P : Program)
def OpsRel (φ : Phi) (y : Lay) (env : List AV) (r : R3) (a : Act) (o : Oper) : Prop := ∀ x ∈ o.op.operands.toList, VRel φ ((opnd P y x).get env r) (a.eval x)
/-- what an operation does, its operands known -/
def SimX (o : Oper) (y : Lay) (env : List AV) (r : R3) (h h' : H) (v : AV) : Prop :=
  AStep h h' ∧ ∀ φ (a : Act) w, OpsRel P φ y env r a o → RelF φ h.get w → GRel P φ → Win φ h h' → ∃ cv w' φ', Does P .normal (execOp a.eval o) w cv w' ∧ VRel φ' v cv ∧ Step φ h w φ' h' w'
variable {P}
theorem opsRel_map {φ : Phi} {y : Lay} {env : List AV} {r : R3} {a : Act} : ∀ (xs : List Operand), (∀ x ∈ xs, VRel φ ((opnd P y x).get env r) (a.eval x)) →
    VRels φ ((xs.map (opnd P y)).map fun o => o.get env r) (xs.map a.eval) := fun xs h => by
  rw [List.map_map]
  exact VRels.map_get xs fun x hx => h x hx
theorem opC_stepX {e : E} (hE : ESim P e) (y : Lay) (o : Oper) (env : List AV) (r : R3) (ds : DS) (h : H) (hwf : h.WF) (hnd : ∀ c, o.op ≠ .defer c) :
    (∃ w, ∀ rest, (opC P y o rest).run e env r ds h = .fail w) ∨ ∃ v h', (∀ rest, (opC P y o rest).run e env r ds h = (dstC y o.dst).put v env r fun env r => rest.run e env r ds h') ∧ SimX P o y env r h h' v := by
  have hok := semP_ok (P := P) (κ := .any) o trivial
  have hxs := semP_xs (P := P) o
  have plain : ∀ (x : KV → Res) (C : Phi → Sem Next → Prop), SpecAt P C h x → (∀ φ (a : Act), OpsRel P φ y env r a o → C φ (execOp a.eval o)) →
      (∃ w, ∀ K, x K = .fail w) ∨ ∃ v h', (∀ K, x K = K v h') ∧ SimX P o y env r h h' v := by
    intro x C hs hC
    rcases hs with hf | ⟨v, h', h1, h2, h3⟩
    · exact .inl hf
    · refine .inr ⟨v, h', h1, h2, fun φ a w hop hr _ win => ?_⟩
      obtain ⟨cv, w', φ', k1, k2, k3⟩ := h3 φ _ w (hC φ a hop) hr win
      exact ⟨cv, w', φ', .of_yield k1, k2, k3⟩
  have calls : ∀ (c : CRes) (C : Phi → Sem Next → Prop), (∀ v h', c = .ret v h' → SimC P h h' v C) → (∀ φ (a : Act), OpsRel P φ y env r a o → ∃ s', C φ s' ∧ ∀ w, (execOp a.eval o).run P w = s'.run P w) →
      (∃ w, ∀ rest, retC (dstC y o.dst) rest e env r ds c = .fail w) ∨ ∃ v h', (∀ rest, retC (dstC y o.dst) rest e env r ds c = (dstC y o.dst).put v env r fun env r => rest.run e env r ds h') ∧ SimX P o y env r h h' v := by
    intro c C hs hC
    cases c with
    | fail w => exact .inl ⟨w, fun _ => rfl⟩
    | ret v h' =>
      refine .inr ⟨v, h', fun _ => rfl, (hs v h' rfl).1, fun φ a w hop hr hg win => ?_⟩
      obtain ⟨s', k1, k2⟩ := hC φ a hop
      obtain ⟨cv, w', φ', m1, m2, m3⟩ := (hs v h' rfl).2 .normal (.inl rfl) φ s' w k1 hr hg win
      exact ⟨cv, w', φ', m1.congr (k2 w), m2, m3⟩
  cases hsem : semP P o with
  | bad w => exact .inl ⟨w, fun rest => by simp only [opC, hsem]; rfl⟩
  | h0 g =>
    rw [hsem] at hok
    rcases plain (fun K => g h K) _ (hok h hwf) (fun φ a _ => ⟨a.eval, rfl⟩) with ⟨w, hw⟩ | ⟨v, h', h1, h2⟩
    · exact .inl ⟨w, fun rest => by simp only [opC, hsem]; exact hw _⟩
    · exact .inr ⟨v, h', fun rest => by simp only [opC, hsem]; exact h1 _, h2⟩
  | h1 x g =>
    rw [hsem] at hok hxs
    rcases plain (fun K => g ((opnd P y x).get env r) h K) _ (hok _ h hwf) (fun φ a hop => ⟨a.eval, hop x (hxs x (by simp [OpS.xs])), rfl⟩) with ⟨w, hw⟩ | ⟨v, h', h1, h2⟩
    · exact .inl ⟨w, fun rest => by simp only [opC, hsem]; exact hw _⟩
    · exact .inr ⟨v, h', fun rest => by simp only [opC, hsem]; exact h1 _, h2⟩
  | h2 x z g =>
    rw [hsem] at hok hxs
    rcases plain (fun K => g ((opnd P y x).get env r) ((opnd P y z).get env r) h K) _ (hok _ _ h hwf) (fun φ a hop => ⟨a.eval, hop x (hxs x (by simp [OpS.xs])), hop z (hxs z (by simp [OpS.xs])), rfl⟩) with ⟨w, hw⟩ | ⟨v, h', h1, h2⟩
    · exact .inl ⟨w, fun rest => by simp only [opC, hsem]; exact hw _⟩
    · exact .inr ⟨v, h', fun rest => by simp only [opC, hsem]; exact h1 _, h2⟩
  | h3 x z u g =>
    rw [hsem] at hok hxs
    rcases plain (fun K => g ((opnd P y x).get env r) ((opnd P y z).get env r) ((opnd P y u).get env r) h K) _ (hok _ _ _ h hwf)
        (fun φ a hop => ⟨a.eval, hop x (hxs x (by simp [OpS.xs])), hop z (hxs z (by simp [OpS.xs])), hop u (hxs u (by simp [OpS.xs])), rfl⟩) with ⟨w, hw⟩ | ⟨v, h', h1, h2⟩
    · exact .inl ⟨w, fun rest => by simp only [opC, hsem]; exact hw _⟩
    · exact .inr ⟨v, h', fun rest => by simp only [opC, hsem]; exact h1 _, h2⟩
  | hn xs g =>
    rw [hsem] at hok hxs
    rcases plain (fun K => g ((xs.map (opnd P y)).map fun o => o.get env r) h K) _ (hok _ h hwf) (fun φ a hop => ⟨a.eval, opsRel_map xs fun x hx => hop x (hxs x hx), rfl⟩) with ⟨w, hw⟩ | ⟨v, h', h1, h2⟩
    · exact .inl ⟨w, fun rest => by simp only [opC, hsem, evs_map]; exact hw _⟩
    · exact .inr ⟨v, h', fun rest => by simp only [opC, hsem, evs_map]; exact h1 _, h2⟩
  | call f xs =>
    rw [hsem] at hok hxs
    obtain ⟨_, cl, ho, hc, hx⟩ := hok
    rcases calls (e.call f ((xs.map (opnd P y)).map fun o => o.get env r) h) _ (fun v h' he => hE.call f _ h v h' hwf he) (fun φ a hop => ⟨_, ⟨_, opsRel_map xs fun x hx => hop x (hxs x hx), rfl⟩, fun w => by
        simp only [execOp, ho, Sem.run_bind, resolve_value hc, args_list hx]
        simp [Act.eval, Deferred.ofValue, invoke]⟩) with ⟨w, hw⟩ | ⟨v, h', h1, h2⟩
    · exact .inl ⟨w, fun rest => by simp only [opC, hsem, evs_map]; exact hw _⟩
    · exact .inr ⟨v, h', fun rest => by simp only [opC, hsem, evs_map]; exact h1 _, h2⟩
  | callv f xs =>
    rw [hsem] at hok hxs
    obtain ⟨_, cl, ho, hc, hx⟩ := hok
    rcases callVal_cases hE ((opnd P y f).get env r) ((xs.map (opnd P y)).map fun o => o.get env r) h hwf with ⟨w, hw⟩ | ⟨c, k1, k2⟩
    · exact .inl ⟨w, fun rest => by simp only [opC, hsem, evs_map]; exact hw _⟩
    · rcases calls c _ k2 (fun φ a hop => ⟨_, ⟨_, _, hop f (hxs f (by simp [OpS.xs])), opsRel_map xs fun x hx => hop x (hxs x (by simp [OpS.xs, hx])), rfl⟩, fun w => by
          simp only [execOp, ho, Sem.run_bind, resolve_value hc, args_list hx, callV]⟩) with ⟨w, hw⟩ | ⟨v, h', h1, h2⟩
      · exact .inl ⟨w, fun rest => by simp only [opC, hsem, evs_map, k1]; exact hw _⟩
      · exact .inr ⟨v, h', fun rest => by simp only [opC, hsem, evs_map, k1]; exact h1 _, h2⟩
  | invoke x name xs =>
    rw [hsem] at hok hxs
    obtain ⟨_, cl, ho, hc, hx⟩ := hok
    rcases calls (callMeth P e ((opnd P y x).get env r) name ((xs.map (opnd P y)).map fun o => o.get env r) h) _ (fun v h' he => callMeth_sim hE hwf he)
      (fun φ a hop => ⟨_, ⟨_, _, hop x (hxs x (by simp [OpS.xs])), opsRel_map xs fun x hx => hop x (hxs x (by simp [OpS.xs, hx])), rfl⟩, fun w => by
        simp only [execOp, ho, Sem.run_bind, resolve_invoke hc, args_list hx, Sem.run_pure, Result.andThen_ok, invoke]
        have e0 : (#[a.eval x] ++ (xs.map a.eval).toArray)[0]? = some (a.eval x) := by simp
        have e1 : (#[a.eval x] ++ (xs.map a.eval).toArray).extract 1 (#[a.eval x] ++ (xs.map a.eval).toArray).size = (xs.map a.eval).toArray := by
          apply Array.ext'
          simp
          exact List.take_of_length_le (by simp)
        rw [e1]
        simp⟩) with ⟨w, hw⟩ | ⟨v, h', h1, h2⟩
    · exact .inl ⟨w, fun rest => by simp only [opC, hsem, evs_map]; exact hw _⟩
    · exact .inr ⟨v, h', fun rest => by simp only [opC, hsem, evs_map]; exact h1 _, h2⟩
  | deferv f xs =>
    rw [hsem] at hok
    obtain ⟨_, cl, ho, hc, hx⟩ := hok
    exact absurd ho (hnd _)
  | deferi x name xs =>
    rw [hsem] at hok
    obtain ⟨_, cl, ho, hc, hx⟩ := hok
    exact absurd ho (hnd _)

/-- an operation that touches no memory -/
def SimP (P : Program) (o : Oper) (y : Lay) (env : List AV) (r : R3) (v : AV) : Prop :=
  ∀ φ (a : Act) w, OpsRel P φ y env r a o → ∃ cv, (execOp a.eval o).run P w = .ok (.value cv) w ∧ VRel φ v cv
theorem opC_stepP {e : E} (y : Lay) (o : Oper) (env : List AV) (r : R3) (ds : DS) (h : H) (hwf : h.WF) (hcl : clsOf P o = .pure) :
    (∃ w, ∀ rest, (opC P y o rest).run e env r ds h = .fail w) ∨ ∃ v, (∀ rest, (opC P y o rest).run e env r ds h = (dstC y o.dst).put v env r fun env r => rest.run e env r ds h) ∧ SimP P o y env r v := by
  have hok := semP_ok (P := P) (κ := .pure) o hcl
  have hxs := semP_xs (P := P) o
  have plain : ∀ (x : KV → Res) (C : Phi → Sem Next → Prop), SpecP P C h x → (∀ φ (a : Act), OpsRel P φ y env r a o → C φ (execOp a.eval o)) →
      (∃ w, ∀ K, x K = .fail w) ∨ ∃ v, (∀ K, x K = K v h) ∧ SimP P o y env r v := by
    intro x C hs hC
    rcases hs with hf | ⟨v, h1, h2⟩
    · exact .inl hf
    · exact .inr ⟨v, h1, fun φ a w hop => h2 φ _ w (hC φ a hop)⟩
  cases hsem : semP P o with
  | bad w => exact .inl ⟨w, fun rest => by simp only [opC, hsem]; rfl⟩
  | h0 g =>
    rw [hsem] at hok
    rcases plain (fun K => g h K) _ (hok h hwf) (fun φ a _ => ⟨a.eval, rfl⟩) with ⟨w, hw⟩ | ⟨v, h1, h2⟩
    · exact .inl ⟨w, fun rest => by simp only [opC, hsem]; exact hw _⟩
    · exact .inr ⟨v, fun rest => by simp only [opC, hsem]; exact h1 _, h2⟩
  | h1 x g =>
    rw [hsem] at hok hxs
    rcases plain (fun K => g ((opnd P y x).get env r) h K) _ (hok _ h hwf) (fun φ a hop => ⟨a.eval, hop x (hxs x (by simp [OpS.xs])), rfl⟩) with ⟨w, hw⟩ | ⟨v, h1, h2⟩
    · exact .inl ⟨w, fun rest => by simp only [opC, hsem]; exact hw _⟩
    · exact .inr ⟨v, fun rest => by simp only [opC, hsem]; exact h1 _, h2⟩
  | h2 x z g =>
    rw [hsem] at hok hxs
    rcases plain (fun K => g ((opnd P y x).get env r) ((opnd P y z).get env r) h K) _ (hok _ _ h hwf) (fun φ a hop => ⟨a.eval, hop x (hxs x (by simp [OpS.xs])), hop z (hxs z (by simp [OpS.xs])), rfl⟩) with ⟨w, hw⟩ | ⟨v, h1, h2⟩
    · exact .inl ⟨w, fun rest => by simp only [opC, hsem]; exact hw _⟩
    · exact .inr ⟨v, fun rest => by simp only [opC, hsem]; exact h1 _, h2⟩
  | h3 x z u g =>
    rw [hsem] at hok hxs
    rcases plain (fun K => g ((opnd P y x).get env r) ((opnd P y z).get env r) ((opnd P y u).get env r) h K) _ (hok _ _ _ h hwf)
        (fun φ a hop => ⟨a.eval, hop x (hxs x (by simp [OpS.xs])), hop z (hxs z (by simp [OpS.xs])), hop u (hxs u (by simp [OpS.xs])), rfl⟩) with ⟨w, hw⟩ | ⟨v, h1, h2⟩
    · exact .inl ⟨w, fun rest => by simp only [opC, hsem]; exact hw _⟩
    · exact .inr ⟨v, fun rest => by simp only [opC, hsem]; exact h1 _, h2⟩
  | hn xs g =>
    rw [hsem] at hok hxs
    rcases plain (fun K => g ((xs.map (opnd P y)).map fun o => o.get env r) h K) _ (hok _ h hwf) (fun φ a hop => ⟨a.eval, opsRel_map xs fun x hx => hop x (hxs x hx), rfl⟩) with ⟨w, hw⟩ | ⟨v, h1, h2⟩
    · exact .inl ⟨w, fun rest => by simp only [opC, hsem, evs_map]; exact hw _⟩
    · exact .inr ⟨v, fun rest => by simp only [opC, hsem, evs_map]; exact h1 _, h2⟩
  | call f xs => rw [hsem] at hok; exact absurd hok.1 (by simp)
  | callv f xs => rw [hsem] at hok; exact absurd hok.1 (by simp)
  | invoke x name xs => rw [hsem] at hok; exact absurd hok.1 (by simp)
  | deferv f xs => rw [hsem] at hok; exact absurd hok.1 (by simp)
  | deferi x name xs => rw [hsem] at hok; exact absurd hok.1 (by simp)

/-- an operation that makes one block -/
def SimA (P : Program) (o : Oper) (y : Lay) (env : List AV) (r : R3) (n : Nat) (v : AV) (ob : AObj) : Prop :=
  ∀ φ (a : Act) w, OpsRel P φ y env r a o → ∃ cv O sz w', Yield ((execOp a.eval o).run P w) cv w' ∧ w'.heap = w.heap.push O ∧ w'.os = w.os ∧ w'.tape = w.tape ∧ w'.output = w.output ∧
    ORel φ ⟨w.heap.size, 0, sz⟩ ob O ∧ ∀ φ' : Phi, φ.le φ' → φ' n = some ⟨w.heap.size, 0, sz⟩ → VRel φ' v cv
/-- the place that an allocation's value leads to -/
def LeadsTo (g : H → KV → Res) : Prop := ∀ h v ob, (∀ K, g h K = K v (h.push ob)) → blkOf v = some (Nat.succ h.next)
theorem leads_of {g : H → KV → Res} (hg : ∀ h, (∃ w, ∀ K, g h K = .fail w) ∨ ∃ v ob, (∀ K, g h K = K v (h.push ob)) ∧ blkOf v = some (Nat.succ h.next)) : LeadsTo g := by
  intro h v ob hv
  rcases hg h with ⟨w, hw⟩ | ⟨v', ob', h1, h2⟩
  · have := (hw fun v h => .norm (N8.blank (N8.blank (N8.blank v))) (.fn []) h).symm.trans (hv _)
    cases this
  · have := (h1 fun v h => .norm (N8.blank (N8.blank (N8.blank v))) (.fn []) h).symm.trans (hv _)
    simp only [Res.norm.injEq] at this
    have e : v' = v := by
      have := congrArg (fun t : R3 => t.a.a.a) this.1
      exact this
    rw [← e]; exact h2
theorem leads_new (o : AObj) (v : Nat → AV) (hv : ∀ b, blkOf (v b) = some (Nat.succ b)) : LeadsTo fun h K => h.new o fun b h => K (v b) h := leads_of fun h => by
  simp only [H.new_eq]
  by_cases hl : h.next < maxBlocks
  · exact .inr ⟨v h.next, o, fun K => by rw [if_pos hl], hv _⟩
  · exact .inl ⟨_, fun K => by rw [if_neg hl]⟩
theorem leads_fail (w : Why) : LeadsTo fun _ _ => .fail w := leads_of fun h => .inl ⟨w, fun _ => rfl⟩
theorem makeSliceS_leads (el : TypeId) (bytes : Nat) (z : List AV) (l cp : AV) : LeadsTo (makeSliceS el bytes z l cp) := by
  unfold makeSliceS
  split
  · split
    · simp only [replA_eq]
      exact leads_new _ _ fun _ => rfl
    · exact leads_fail _
  · exact leads_fail _
theorem buildSliceS_leads (el : TypeId) (ps : List (Nat × Nat)) (len : Nat) (z vs : List AV) : LeadsTo (buildSliceS el ps len z vs) := by
  unfold buildSliceS
  simp only [replA_eq]
  rcases fillA_cases ps vs (List.replicate len z).flatten with ⟨e, he⟩ | ⟨cs, h1, h2⟩
  · simp only [he]; exact leads_fail _
  · simp only [h1]; exact leads_new _ _ fun _ => rfl
theorem boxS_leads (el : TypeId) (v : AV) : LeadsTo (boxS el v) := by
  unfold boxS
  split
  · exact leads_new _ _ fun _ => rfl
  · exact leads_fail _
theorem makeMapS_leads (v : AV) : LeadsTo (makeMapS v) := by
  unfold makeMapS
  split
  · exact leads_new _ _ fun _ => rfl
  · exact leads_fail _
/-- the values of operations that make a block lead to it -/
def LeadsP : OpS → Prop
  | .h0 g => LeadsTo g
  | .h1 _ g => ∀ a, LeadsTo (g a)
  | .h2 _ _ g => ∀ a b, LeadsTo (g a b)
  | .h3 _ _ _ g => ∀ a b c, LeadsTo (g a b c)
  | .hn _ g => ∀ l, LeadsTo (g l)
  | _ => True
theorem semP_leads {o : Oper} {d : Nat} (hcl : clsOf P o = .alloc d) : LeadsP (semP P o) := by
  unfold semP
  cases ho : o.op
  case alloc el => simp only; split; exact leads_new _ _ fun _ => rfl; trivial
  case box el x => simp only; exact fun a => boxS_leads _ _
  case buildSlice ty len parts => simp only; (repeat' split) <;> first | trivial | exact fun l => buildSliceS_leads _ _ _ _ _
  case makeMap ty r =>
    simp only
    (repeat' split) <;> first | trivial | exact fun l => makeMapS_leads _ | exact leads_new _ _ fun _ => rfl
  case makeSlice ty l cp => simp only; (repeat' split) <;> first | trivial | exact fun _ _ => makeSliceS_leads _ _ _ _ _
  case load ty x => exact absurd hcl ((cls_load ho).2 d)
  case call cl =>
    exfalso
    cases hc : cl.callee with
    | value f => exact (cls_value ho hc).2 d hcl
    | invoke r n => exact (cls_invoke ho hc).2 d hcl
    | builtin b => rw [cls_builtin ho hc] at hcl; exact clsB_not_alloc _ _ _ hcl
  all_goals
    exfalso
    simp only [clsOf, ho] at hcl
    cases hcl
theorem opC_stepA {e : E} (y : Lay) (o : Oper) (env : List AV) (r : R3) (ds : DS) (h : H) (hwf : h.WF) {d : Nat} (hcl : clsOf P o = .alloc d) :
    (∃ w, ∀ rest, (opC P y o rest).run e env r ds h = .fail w) ∨ ∃ v ob, (∀ rest, (opC P y o rest).run e env r ds h = (dstC y o.dst).put v env r fun env r => rest.run e env r ds (h.push ob)) ∧
      h.next < maxBlocks ∧ SimA P o y env r h.next v ob ∧ blkOf v = some (Nat.succ h.next) := by
  have hok := semP_ok (P := P) (κ := .alloc) o ⟨d, hcl⟩
  have hle := semP_leads (P := P) hcl
  have hxs := semP_xs (P := P) o
  have plain : ∀ (x : H → KV → Res) (C : Phi → Sem Next → Prop), LeadsTo x → SpecA P C h (x h) → (∀ φ (a : Act), OpsRel P φ y env r a o → C φ (execOp a.eval o)) →
      (∃ w, ∀ K, x h K = .fail w) ∨ ∃ v ob, (∀ K, x h K = K v (h.push ob)) ∧ h.next < maxBlocks ∧ SimA P o y env r h.next v ob ∧ blkOf v = some (Nat.succ h.next) := by
    intro x C hlead hs hC
    rcases hs with hf | ⟨v, ob, h1, h2, h3⟩
    · exact .inl hf
    · exact .inr ⟨v, ob, h1, h2, fun φ a w hop => h3 φ _ w (hC φ a hop), hlead h v ob h1⟩
  cases hsem : semP P o with
  | bad w => exact .inl ⟨w, fun rest => by simp only [opC, hsem]; rfl⟩
  | h0 g =>
    rw [hsem] at hok hle
    rcases plain g _ hle (hok h hwf) (fun φ a _ => ⟨a.eval, rfl⟩) with ⟨w, hw⟩ | ⟨v, ob, h1, h2⟩
    · exact .inl ⟨w, fun rest => by simp only [opC, hsem]; exact hw _⟩
    · exact .inr ⟨v, ob, fun rest => by simp only [opC, hsem]; exact h1 _, h2⟩
  | h1 x g =>
    rw [hsem] at hok hxs hle
    rcases plain (g ((opnd P y x).get env r)) _ (hle _) (hok _ h hwf) (fun φ a hop => ⟨a.eval, hop x (hxs x (by simp [OpS.xs])), rfl⟩) with ⟨w, hw⟩ | ⟨v, ob, h1, h2⟩
    · exact .inl ⟨w, fun rest => by simp only [opC, hsem]; exact hw _⟩
    · exact .inr ⟨v, ob, fun rest => by simp only [opC, hsem]; exact h1 _, h2⟩
  | h2 x z g =>
    rw [hsem] at hok hxs hle
    rcases plain (g ((opnd P y x).get env r) ((opnd P y z).get env r)) _ (hle _ _) (hok _ _ h hwf) (fun φ a hop => ⟨a.eval, hop x (hxs x (by simp [OpS.xs])), hop z (hxs z (by simp [OpS.xs])), rfl⟩) with ⟨w, hw⟩ | ⟨v, ob, h1, h2⟩
    · exact .inl ⟨w, fun rest => by simp only [opC, hsem]; exact hw _⟩
    · exact .inr ⟨v, ob, fun rest => by simp only [opC, hsem]; exact h1 _, h2⟩
  | h3 x z u g =>
    rw [hsem] at hok hxs hle
    rcases plain (g ((opnd P y x).get env r) ((opnd P y z).get env r) ((opnd P y u).get env r)) _ (hle _ _ _) (hok _ _ _ h hwf)
        (fun φ a hop => ⟨a.eval, hop x (hxs x (by simp [OpS.xs])), hop z (hxs z (by simp [OpS.xs])), hop u (hxs u (by simp [OpS.xs])), rfl⟩) with ⟨w, hw⟩ | ⟨v, ob, h1, h2⟩
    · exact .inl ⟨w, fun rest => by simp only [opC, hsem]; exact hw _⟩
    · exact .inr ⟨v, ob, fun rest => by simp only [opC, hsem]; exact h1 _, h2⟩
  | hn xs g =>
    rw [hsem] at hok hxs hle
    rcases plain (g ((xs.map (opnd P y)).map fun o => o.get env r)) _ (hle _) (hok _ h hwf) (fun φ a hop => ⟨a.eval, opsRel_map xs fun x hx => hop x (hxs x hx), rfl⟩) with ⟨w, hw⟩ | ⟨v, ob, h1, h2⟩
    · exact .inl ⟨w, fun rest => by simp only [opC, hsem, evs_map]; exact hw _⟩
    · exact .inr ⟨v, ob, fun rest => by simp only [opC, hsem, evs_map]; exact h1 _, h2⟩
  | call f xs => rw [hsem] at hok; exact absurd hok.1 (by simp)
  | callv f xs => rw [hsem] at hok; exact absurd hok.1 (by simp)
  | invoke x name xs => rw [hsem] at hok; exact absurd hok.1 (by simp)
  | deferv f xs => rw [hsem] at hok; exact absurd hok.1 (by simp)
  | deferi x name xs => rw [hsem] at hok; exact absurd hok.1 (by simp)
end
end Go.Ai

namespace Go.Ai
open Go
set_option linter.unusedVariables false

section
variable {P : Program}
/-- a load through a temporary -/
def SimL (P : Program) (o : Oper) (y : Lay) (env : List AV) (r : R3) (h : H) (b : Nat) (v : AV) : Prop :=
  ∀ φ (a : Act) w g, OpsRel P φ y env r a o → RelF φ g w → g b = h.get b → ∃ cv, (execOp a.eval o).run P w = .ok (.value cv) w ∧ VRel φ v cv
theorem get_gone6 (n : Nat) : objGet gone6 n = .gone := by
  have sel : ∀ {α : Type} (x : α) (d : D), (N8.blank x).sel d = x := fun x d => by cases d <;> rfl
  simp only [objGet, gone6, gone5, gone4, gone3, gone2, gone1, sel]
theorem loadA_congr {h h' : H} {b : Nat} (hb : h.get b = h'.get b) (g : Bool) (n o : Nat) (K : AV → Res) : loadA g n h b o K = loadA g n h' b o K := by
  simp only [loadA, H.cells, hb]
theorem opC_stepL {e : E} (y : Lay) (o : Oper) (env : List AV) (r : R3) (ds : DS) (h : H) {ty : TypeId} {t : Nat} (ho : o.op = .load ty (.tmp t)) :
    (∃ w, ∀ rest, (opC P y o rest).run e env r ds h = .fail w) ∨ ∃ v b of, (∀ rest, (opC P y o rest).run e env r ds h = (dstC y o.dst).put v env r fun env r => rest.run e env r ds h) ∧
      (tmpC y t).get env r = .ptr b of ∧ h.get b ≠ .gone ∧ SimL P o y env r h b v := by
  cases hg : aggT P ty with
  | none => exact .inl ⟨_, fun rest => by simp only [opC, semP, ho, hg]; rfl⟩
  | some g =>
    cases hn : szOf P ty with
    | none => exact .inl ⟨_, fun rest => by simp only [opC, semP, ho, hg, hn]; rfl⟩
    | some n =>
      have hrun : ∀ rest, (opC P y o rest).run e env r ds h = loadS g n ((tmpC y t).get env r) h fun v h => (dstC y o.dst).put v env r fun env r => rest.run e env r ds h := fun rest => by
        simp only [opC, semP, ho, hg, hn]; rfl
      cases hv : (tmpC y t).get env r with
      | ptr b of =>
        simp only [hv, loadS] at hrun
        let h0 : H := ⟨h.next, h.thr, h.log, objUpd b (h.get b) gone6⟩
        have hb0 : h0.get b = h.get b := objGet_same _ _ _
        have hng : h.get b = .gone → ∀ K, loadA g n h b of K = .fail "no cells" := fun hx K => by simp only [loadA, H.cells, hx]
        by_cases hx : h.get b = .gone
        · exact .inl ⟨.s "no cells", fun rest => by rw [hrun]; exact hng hx _⟩
        rcases loadA_cases (P := P) (h := h0) hg hn b of with ⟨w, hw⟩ | ⟨v, k1, k2⟩
        · exact .inl ⟨w, fun rest => by rw [hrun, loadA_congr hb0.symm]; exact hw _⟩
        · refine .inr ⟨v, b, of, fun rest => by rw [hrun, loadA_congr hb0.symm]; exact k1 _, rfl, hx, fun φ a w gg hop hr hgb => ?_⟩
          have hpv := hop (.tmp t) (by simp [ho, Op.operands])
          have hpv' : VRel φ (.ptr b of) (a.eval (.tmp t)) := by
            have e : (opnd P y (.tmp t)).get env r = .ptr b of := hv
            rw [e] at hpv; exact hpv
          generalize hcv : a.eval (.tmp t) = cv at hpv'
          cases hpv' with
          | @ptr _ _ l hφ =>
            have hr0 : RelF φ h0.get w := hr.weaken fun c m hc hne => by
              by_cases e : c = b
              · subst e; rw [hb0, hgb]
              · exfalso; apply hne
                have : h0.get c = objGet gone6 c := objGet_other (hr.dom b l hφ) (hr.dom c m hc) (fun x => e x.symm) _ _
                rw [this, get_gone6]
            obtain ⟨cu, m1, m2⟩ := k2 φ w l hr0 hφ
            refine ⟨cu, ?_, m2⟩
            simp only [execOp, ho, hcv]
            refine run_val ?_
            simpa [Instr.loadAt, Instr.sureAddr] using m1
      | _ => exact .inl ⟨.s "load", fun rest => by simp only [hrun, hv, loadS]⟩

-- temporaries
theorem dst_val (y : Lay) (dst : Option Tmp) (v : AV) (env : List AV) (r : R3) : (∃ w, ∀ K, (dstC y dst).put v env r K = .fail w) ∨ ∃ env' r', (∀ K, (dstC y dst).put v env r K = K env' r') ∧
    (∀ d, dst = some d → d < y.n) ∧ (y.n ≤ 512 → ∀ t, (tmpC (y.next dst) t).get env' r' = if dst = some t then v else (tmpC y t).get env r) := by
  cases dst with
  | none => exact .inr ⟨env, r, fun _ => rfl, fun d h => (by cases h), fun _ t => by rw [if_neg (by simp)]; rfl⟩
  | some d =>
    cases hd : Nat.blt d y.n with
    | false => exact .inl ⟨.s "dst", fun K => by simp only [dstC, hd]⟩
    | true =>
      have hdn := blt_iff.1 hd
      cases hb : bit y.vm d with
      | true =>
        refine .inr ⟨env, regSet d v r, fun K => by simp only [dstC, hd, hb, regOf_set], fun d' h => (by cases h; exact hdn), fun hle t => ?_⟩
        have hy : y.next (some d) = y := by simp only [Lay.next, hb]
        rw [hy]
        by_cases e : d = t
        · subst e
          rw [if_pos rfl]
          simp only [tmpC, hd, hb, regOf_get_same]
        · rw [if_neg (by simpa using e)]
          unfold tmpC
          cases ht : Nat.blt t y.n with
          | false => rfl
          | true =>
            have htn := blt_iff.1 ht
            cases hbt : bit y.vm t with
            | true => exact regOf_get_other (by omega) (by omega) e _ _
            | false =>
              simp only
              cases hi : idxN t y.l <;> rfl
      | false =>
        refine .inr ⟨v :: env, r, fun K => by simp only [dstC, hd, hb], fun d' h => (by cases h; exact hdn), fun hle t => ?_⟩
        have hy : y.next (some d) = ⟨y.vm, y.n, d :: y.l⟩ := by simp only [Lay.next, hb]
        rw [hy]
        by_cases e : d = t
        · subst e
          rw [if_pos rfl]
          simp only [tmpC, hd, hb, idxN_cons, if_true]
          rfl
        · rw [if_neg (by simpa using e)]
          unfold tmpC
          simp only
          cases ht : Nat.blt t y.n with
          | false => rfl
          | true =>
            cases hbt : bit y.vm t with
            | true => rfl
            | false =>
              simp only [idxN_cons, if_neg (fun x : t = d => e x.symm)]
              cases hi : idxN t y.l <;> rfl

/-- a state between two operations -/
structure St where
  y : Lay
  env : List AV
  r : R3
  h : H
noncomputable def St.val (s : St) (t : Nat) : AV := (tmpC s.y t).get s.env s.r
def H.watch (h : H) : H := ⟨h.next, h.next, [], h.objs⟩
def Wanted (ops : List Oper) (o : Oper) (s : St) : Prop := o.guard = none ∨ ∃ gj want g, o.guard = some (gj, want) ∧ (ops[gj]?).bind (·.dst) = some g ∧ s.val g = .bool want
def Unwanted (ops : List Oper) (o : Oper) (s : St) : Prop := ∃ gj want g, o.guard = some (gj, want) ∧ (ops[gj]?).bind (·.dst) = some g ∧ (s.val g = .tuple [] ∨ ∃ b, s.val g = .bool b ∧ b ≠ want)
inductive SkK (P : Program) (ops : List Oper) (ms : List Nat) (k : Nat) (o : Oper) (s s' : St) (lg : List Nat) (v : AV) : Prop
  | skip (hg : Unwanted ops o s) (hv : v = undefA) (hh : s'.h = s.h) (hl : lg = [])
  | pure (hg : Wanted ops o s) (hc : clsOf P o = .pure) (hs : SimP P o s.y s.env s.r v) (hh : s'.h = s.h) (hl : lg = [])
  | load {ty t b of} (hg : Wanted ops o s) (ho : o.op = .load ty (.tmp t)) (hb : s.val t = .ptr b of) (hn : s.h.get b ≠ .gone) (hs : SimL P o s.y s.env s.r s.h b v) (hh : s'.h = s.h) (hl : lg = [])
  | alloc {d ob} (hg : Wanted ops o s) (hc : clsOf P o = .alloc d) (hlt : s.h.next < maxBlocks) (hs : SimA P o s.y s.env s.r s.h.next v ob) (hb : blkOf v = some (Nat.succ s.h.next)) (hh : s'.h = s.h.push ob) (hl : lg = [])
  | busy {h2} (hg : Wanted ops o s) (hc : clsOf P o = .busy) (hs : SimX P o s.y s.env s.r s.h.watch h2 v) (hl : lg = h2.log) (hh : s'.h = ⟨h2.next, s.h.thr, keepLow s.h.thr h2.log s.h.log, h2.objs⟩)
      (hk : h2.log = [] ∨ ((keeps P ops ms k 0 ops).1 = false ∧ apartL h2.log s.env s.r ((keeps P ops ms k 0 ops).2.map (tmpC s.y)) = true))
structure Sk (P : Program) (ops : List Oper) (ms : List Nat) (k : Nat) (o : Oper) (s s' : St) (lg : List Nat) (v : AV) : Prop where
  y : s'.y = s.y.next o.dst
  dlt : ∀ d, o.dst = some d → d < s.y.n
  val : s.y.n ≤ 512 → ∀ t, s'.val t = if o.dst = some t then v else s.val t
  kind : SkK P ops ms k o s s' lg v
theorem mem_keepLow {b thr : Nat} {l r : List Nat} : b ∈ keepLow thr l r ↔ (b ∈ l ∧ b < thr) ∨ b ∈ r := by
  induction l with
  | nil => simp [keepLow]
  | cons x l ih =>
    have : keepLow thr (x :: l) r = cond (Nat.blt x thr) (x :: keepLow thr l r) (keepLow thr l r) := rfl
    rw [this]
    cases hx : Nat.blt x thr with
    | true =>
      have hx' := blt_iff.1 hx
      simp only [cond, List.mem_cons, ih]
      constructor
      · rintro (rfl | ⟨h1, h2⟩ | h)
        · exact .inl ⟨.inl rfl, hx'⟩
        · exact .inl ⟨.inr h1, h2⟩
        · exact .inr h
      · rintro (⟨rfl | h1, h2⟩ | h)
        · exact .inl rfl
        · exact .inr (.inl ⟨h1, h2⟩)
        · exact .inr (.inr h)
    | false =>
      have hx' : ¬ x < thr := fun h => by rw [blt_iff.2 h] at hx; cases hx
      simp only [cond, ih, List.mem_cons]
      constructor
      · rintro (⟨h1, h2⟩ | h)
        · exact .inl ⟨.inr h1, h2⟩
        · exact .inr h
      · rintro (⟨rfl | h1, h2⟩ | h)
        · exact absurd h2 hx'
        · exact .inl ⟨h1, h2⟩
        · exact .inr h
theorem keepLow_pre (thr : Nat) (l r : List Nat) : ∃ pre, keepLow thr l r = pre ++ r := by
  induction l with
  | nil => exact ⟨[], rfl⟩
  | cons x l ih =>
    obtain ⟨p, hp⟩ := ih
    have : keepLow thr (x :: l) r = cond (Nat.blt x thr) (x :: keepLow thr l r) (keepLow thr l r) := rfl
    rw [this]
    cases Nat.blt x thr with
    | true => exact ⟨x :: p, by simp [hp]⟩
    | false => exact ⟨p, hp⟩
theorem H.WF.watch {h : H} (w : h.WF) : h.watch.WF := ⟨w.le, Nat.le_refl _, w.gone, fun b hb => by cases hb⟩
theorem AStep.unwatch {h h2 : H} (hwf : h.WF) (a : AStep h.watch h2) : AStep h ⟨h2.next, h.thr, keepLow h.thr h2.log h.log, h2.objs⟩ where
  wf _ := ⟨(a.wf hwf.watch).le, Nat.le_trans hwf.thr a.next, (a.wf hwf.watch).gone, fun b hb => by
    rcases mem_keepLow.1 hb with ⟨_, h⟩ | h
    · exact h
    · exact hwf.log b h⟩
  next := a.next
  thr := rfl
  log := keepLow_pre _ _ _
  same _ b hb ht hl := a.same hwf.watch b hb hb fun hm => hl (mem_keepLow.2 (.inl ⟨hm, ht⟩))
  gone _ b hb hg := a.gone hwf.watch b hb hg
  live _ b hb hl := by
    rcases mem_keepLow.1 hl with ⟨h1, _⟩ | h1
    · rcases a.live hwf.watch b hb h1 with h2 | h2
      · cases h2
      · exact .inr h2
    · exact .inl h1
section
variable {ops : List Oper} {ms : List Nat} {k : Nat} {o : Oper} {s s' : St} {lg : List Nat} {v : AV}
theorem SkK.astep (hs : SkK P ops ms k o s s' lg v) (hwf : s.h.WF) : AStep s.h s'.h := by
  cases hs with
  | skip hg hv hh hl => rw [hh]; exact AStep.refl _
  | pure hg hc hs hh hl => rw [hh]; exact AStep.refl _
  | load hg ho hb hn hs hh hl => rw [hh]; exact AStep.refl _
  | alloc hg hc hlt hs hb hh hl => rw [hh]; exact AStep.push hlt _
  | busy hg hc hs hl hh hk => rw [hh]; exact AStep.unwatch hwf hs.1
/-- what an operation may have changed: its log, and what is new -/
def Wr (s s' : St) (lg : List Nat) (b : Nat) : Prop := b ∈ lg ∨ (s.h.next ≤ b ∧ b < s'.h.next)
theorem SkK.same (hs : SkK P ops ms k o s s' lg v) (hwf : s.h.WF) {b : Nat} (hb : b < maxBlocks) (hn : ¬ Wr s s' lg b) : s'.h.get b = s.h.get b := by
  have hn1 : b ∉ lg := fun h => hn (.inl h)
  have hn2 : ¬ (s.h.next ≤ b ∧ b < s'.h.next) := fun h => hn (.inr h)
  have hwf' := (hs.astep hwf).wf hwf
  cases hs with
  | skip hg hv hh hl => rw [hh]
  | pure hg hc hs hh hl => rw [hh]
  | load hg ho hb hn hs hh hl => rw [hh]
  | alloc hg hc hlt hs hb' hh hl =>
    rw [hh]
    refine H.get_push_old hlt _ hb fun e => hn2 ?_
    rw [hh]; subst e; exact ⟨Nat.le_refl _, Nat.lt_succ_self _⟩
  | busy hg hc hs hl hh hk =>
    by_cases hlt : b < s.h.next
    · have := hs.1.same hwf.watch b hlt hlt (by rw [← hl]; exact hn1)
      rw [hh]; exact this
    · have h1 : s'.h.next ≤ b := by omega
      rw [hwf'.gone b h1 hb, hwf.gone b (by omega) hb]
theorem SkK.log (hs : SkK P ops ms k o s s' lg v) (hwf : s.h.WF) {b : Nat} (hb : b ∈ lg) : b < s.h.next ∧ s.h.get b ≠ .gone ∧ (b < s.h.thr → b ∈ s'.h.log) := by
  cases hs with
  | skip hg hv hh hl => rw [hl] at hb; cases hb
  | pure hg hc hs hh hl => rw [hl] at hb; cases hb
  | load hg ho hb' hn hs hh hl => rw [hl] at hb; cases hb
  | alloc hg hc hlt hs hb' hh hl => rw [hl] at hb; cases hb
  | busy hg hc hs hl hh hk =>
    rw [hl] at hb
    have h1 : b < s.h.next := by
      have h2 := (hs.1.wf hwf.watch).log b hb
      have h3 := hs.1.thr
      rw [h3] at h2; exact h2
    refine ⟨h1, ?_, fun ht => by rw [hh]; exact mem_keepLow.2 (.inl ⟨hb, ht⟩)⟩
    rcases hs.1.live hwf.watch b h1 hb with h2 | h2
    · cases h2
    · exact h2
end
end
end Go.Ai

namespace Go.Ai
open Go
set_option linter.unusedVariables false

noncomputable section
variable (P : Program)
/-- an operation of a drawn region -/
def xC (ops : List Oper) (ms : List Nat) (y : Lay) (j : Nat) (o : Oper) (rest : RCmd) : RCmd :=
  match clsOf P o with
  | .busy => watchC P y o (keeps P ops ms j 0 ops).1 (keeps P ops ms j 0 ops).2 rest
  | _ => opC P y o rest
variable {P}
theorem opsC_cons (ms : List Nat) (all : List Oper) (y : Lay) (j : Nat) (o : Oper) (l : List Oper) :
    opsC P true ms all y j (o :: l) = (match o.guard with
      | none => xC P all ms y j o (opsC P true ms all (y.next o.dst) (j + 1) l)
      | some (gj, want) => match (all[gj]?).bind (·.dst) with
        | none => failR "guard"
        | some g => guardC (tmpC y g) want (dstC y o.dst) (xC P all ms y j o (opsC P true ms all (y.next o.dst) (j + 1) l)) (opsC P true ms all (y.next o.dst) (j + 1) l)) := by
  simp only [opsC, xC]
  cases clsOf P o <;> rfl
theorem cls_load_inv {o : Oper} {t : Nat} (h : clsOf P o = .load t) : ∃ ty, o.op = .load ty (.tmp t) := by
  cases ho : o.op
  case load ty x =>
    cases x
    case tmp u => simp only [clsOf, ho] at h; cases h; exact ⟨ty, rfl⟩
    all_goals (simp only [clsOf, ho] at h; cases h)
  case call cl =>
    exfalso
    cases hc : cl.callee with
    | value f =>
      obtain ⟨callee, args, ats⟩ := cl
      simp only at hc; subst hc
      simp only [clsOf, ho] at h; cases h
    | invoke r n =>
      obtain ⟨callee, args, ats⟩ := cl
      simp only at hc; subst hc
      simp only [clsOf, ho] at h; cases h
    | builtin b =>
      rw [cls_builtin ho hc] at h
      unfold clsB at h
      (repeat' split at h) <;> cases h
  case alloc => simp only [clsOf, ho, dstOr] at h; split at h <;> cases h
  case box => simp only [clsOf, ho, dstOr] at h; split at h <;> cases h
  case buildSlice => simp only [clsOf, ho, dstOr] at h; split at h <;> cases h
  case makeMap => simp only [clsOf, ho, dstOr] at h; split at h <;> cases h
  case makeSlice => simp only [clsOf, ho, dstOr] at h; split at h <;> cases h
  all_goals (simp only [clsOf, ho] at h; cases h)
/-- one operation of a drawn region, that is wanted -/
theorem exec_sk {e : E} (hE : ESim P e) {ops : List Oper} {ms : List Nat} {j : Nat} {o : Oper} (y : Lay) (env : List AV) (r : R3) (ds : DS) (h : H) (hwf : h.WF) (hnd : ∀ c, o.op ≠ .defer c) (hw : Wanted ops o ⟨y, env, r, h⟩) :
    (∃ w, ∀ rest, (xC P ops ms y j o rest).run e env r ds h = .fail w) ∨
    ∃ (s' : St) (lg : List Nat) (v : AV), (∀ rest, (xC P ops ms y j o rest).run e env r ds h = rest.run e s'.env s'.r ds s'.h) ∧ Sk P ops ms j o ⟨y, env, r, h⟩ s' lg v := by
  cases hcl : clsOf P o with
  | pure =>
    have hx : ∀ rest, xC P ops ms y j o rest = opC P y o rest := fun rest => by simp only [xC, hcl]
    simp only [hx]
    rcases opC_stepP (P := P) (e := e) y o env r ds h hwf hcl with hf | ⟨v, k1, k2⟩
    · exact .inl hf
    · rcases dst_val y o.dst v env r with ⟨w, hw⟩ | ⟨env', r', m1, m2, m3⟩
      · exact .inl ⟨w, fun rest => by rw [k1, hw]⟩
      · exact .inr ⟨⟨y.next o.dst, env', r', h⟩, [], v, fun rest => by rw [k1, m1], rfl, m2, m3, .pure hw hcl k2 rfl rfl⟩
  | alloc d =>
    have hx : ∀ rest, xC P ops ms y j o rest = opC P y o rest := fun rest => by simp only [xC, hcl]
    simp only [hx]
    rcases opC_stepA (P := P) (e := e) y o env r ds h hwf hcl with hf | ⟨v, ob, k1, k2, k3, k4⟩
    · exact .inl hf
    · rcases dst_val y o.dst v env r with ⟨w, hw⟩ | ⟨env', r', m1, m2, m3⟩
      · exact .inl ⟨w, fun rest => by rw [k1, hw]⟩
      · exact .inr ⟨⟨y.next o.dst, env', r', h.push ob⟩, [], v, fun rest => by rw [k1, m1], rfl, m2, m3, .alloc hw hcl k2 k3 k4 rfl rfl⟩
  | load t =>
    have hx : ∀ rest, xC P ops ms y j o rest = opC P y o rest := fun rest => by simp only [xC, hcl]
    simp only [hx]
    obtain ⟨ty, ho⟩ := cls_load_inv hcl
    rcases opC_stepL (P := P) (e := e) y o env r ds h ho with hf | ⟨v, b, of, k1, k2, kn, k3⟩
    · exact .inl hf
    · rcases dst_val y o.dst v env r with ⟨w, hw⟩ | ⟨env', r', m1, m2, m3⟩
      · exact .inl ⟨w, fun rest => by rw [k1, hw]⟩
      · exact .inr ⟨⟨y.next o.dst, env', r', h⟩, [], v, fun rest => by rw [k1, m1], rfl, m2, m3, .load hw ho k2 kn k3 rfl rfl⟩
  | busy =>
    have hx : ∀ rest, xC P ops ms y j o rest = watchC P y o (keeps P ops ms j 0 ops).1 (keeps P ops ms j 0 ops).2 rest := fun rest => by simp only [xC, hcl]
    simp only [hx]
    rcases opC_stepX hE y o env r ds h.watch hwf.watch hnd with ⟨w, hf⟩ | ⟨v, h2, k1, k2⟩
    · exact .inl ⟨w, fun rest => hf _⟩
    · obtain ⟨n2, t2, l2, o2⟩ := h2
      rcases dst_val y o.dst v env r with ⟨w, hw'⟩ | ⟨env', r', m1, m2, m3⟩
      · exact .inl ⟨w, fun rest => by
          obtain ⟨hn, ht, hl, ho⟩ := h
          exact (k1 _).trans (hw' _)⟩
      · have hrun : ∀ rest, ∃ R : RCmd, (watchC P y o (keeps P ops ms j 0 ops).1 (keeps P ops ms j 0 ops).2 rest).run e env r ds h = R.run e env' r' ds ⟨n2, t2, l2, o2⟩ ∧
            R = ⟨fun e env' r' ds h' => match h' with
              | ⟨n, _, [], objs⟩ => rest.run e env' r' ds ⟨n, h.thr, h.log, objs⟩
              | ⟨n, _, b :: l, objs⟩ => match (keeps P ops ms j 0 ops).1 with
                | true => .fail "an operation that writes, in no order"
                | false => match apartL (b :: l) env r ((keeps P ops ms j 0 ops).2.map (tmpC y)) with
                  | true => rest.run e env' r' ds ⟨n, h.thr, keepLow h.thr (b :: l) h.log, objs⟩
                  | false => .fail "blocks that may be one"⟩ := fun rest => by
          obtain ⟨hn, ht, hl, ho⟩ := h
          exact ⟨_, (k1 _).trans (m1 _), rfl⟩
        have hrun' := fun rest => (hrun rest).elim fun R h => h.1.trans (by rw [h.2])
        clear hrun
        cases l2 with
        | nil =>
          exact .inr ⟨⟨y.next o.dst, env', r', ⟨n2, h.thr, keepLow h.thr [] h.log, o2⟩⟩, [], v, fun rest => (hrun' rest).trans rfl, rfl, m2, m3, .busy hw hcl k2 rfl rfl (.inl rfl)⟩
        | cons b l =>
          rcases Bool.eq_false_or_eq_true (keeps P ops ms j 0 ops).1 with hk | hk
          · exact .inl ⟨.s "an operation that writes, in no order", fun rest => (hrun' rest).trans (by simp only [hk])⟩
          · rcases Bool.eq_false_or_eq_true (apartL (b :: l) env r ((keeps P ops ms j 0 ops).2.map (tmpC y))) with ha | ha
            · exact .inr ⟨⟨y.next o.dst, env', r', ⟨n2, h.thr, keepLow h.thr (b :: l) h.log, o2⟩⟩, b :: l, v, fun rest => (hrun' rest).trans (by simp only [hk, ha]), rfl, m2, m3, .busy hw hcl k2 rfl rfl (.inr ⟨hk, ha⟩)⟩
            · exact .inl ⟨.s "blocks that may be one", fun rest => (hrun' rest).trans (by simp only [hk, ha])⟩
/-- a run of a drawn region, in the order of its text -/
theorem opsC_trace {e : E} (hE : ESim P e) {ops : List Oper} {ms : List Nat} (hnd : noDefer ops = true) : ∀ (l : List Oper) (j : Nat) (y : Lay) (env : List AV) (r : R3) (ds : DS) (h : H), h.WF → ops.drop j = l →
    (∃ w, (opsC P true ms ops y j l).run e env r ds h = .fail w) ∨ ∃ (σ : Nat → St) (lg : Nat → List Nat), σ j = ⟨y, env, r, h⟩ ∧
      (∀ k o, j ≤ k → ops[k]? = some o → ∃ v, Sk P ops ms k o (σ k) (σ (k + 1)) (lg k) v) ∧
      (opsC P true ms ops y j l).run e env r ds h = .norm (σ (j + l.length)).r ds (σ (j + l.length)).h := by
  intro l
  induction l with
  | nil =>
    intro j y env r ds h hwf hdrop
    refine .inr ⟨fun _ => ⟨y, env, r, h⟩, fun _ => [], rfl, fun k o hk ho => ?_, rfl⟩
    exfalso
    have hlen : ops.length ≤ j := by
      have := congrArg List.length hdrop
      simp at this; omega
    have := (List.getElem?_eq_some_iff.1 ho).1
    omega
  | cons o l ih =>
    intro j y env r ds h hwf hdrop
    have ho : ops[j]? = some o := by
      have := congrArg (fun x => x[0]?) hdrop
      simp at this
      exact this
    have hnext : ops.drop (j + 1) = l := by
      have := congrArg List.tail hdrop
      simpa using this
    have hndo : ∀ c, o.op ≠ .defer c := by
      intro c hc
      have := List.all_eq_true.1 hnd o (List.mem_of_getElem? ho)
      rw [hc] at this
      cases this
    have go : ∀ (s' : St) (lg0 : List Nat) (v : AV), Sk P ops ms j o ⟨y, env, r, h⟩ s' lg0 v → (opsC P true ms ops y j (o :: l)).run e env r ds h = (opsC P true ms ops (y.next o.dst) (j + 1) l).run e s'.env s'.r ds s'.h →
        (∃ w, (opsC P true ms ops y j (o :: l)).run e env r ds h = .fail w) ∨ ∃ (σ : Nat → St) (lg : Nat → List Nat), σ j = ⟨y, env, r, h⟩ ∧
          (∀ k o, j ≤ k → ops[k]? = some o → ∃ v, Sk P ops ms k o (σ k) (σ (k + 1)) (lg k) v) ∧
          (opsC P true ms ops y j (o :: l)).run e env r ds h = .norm (σ (j + (o :: l).length)).r ds (σ (j + (o :: l).length)).h := by
      intro s' lg0 v hsk hrun
      have hwf' : s'.h.WF := (hsk.kind.astep hwf).wf hwf
      have hy : s'.y = y.next o.dst := hsk.y
      obtain ⟨y', env', r', h'⟩ := s'
      simp only at hy hrun hwf'
      subst hy
      rcases ih (j + 1) (y.next o.dst) env' r' ds h' hwf' hnext with ⟨w, hw⟩ | ⟨σ, lg, k1, k2, k3⟩
      · exact .inl ⟨w, by rw [hrun, hw]⟩
      · refine .inr ⟨fun k => if k = j then ⟨y, env, r, h⟩ else σ k, fun k => if k = j then lg0 else lg k, by simp, fun k o' hk ho' => ?_, ?_⟩
        · by_cases e : k = j
          · subst e
            rw [ho] at ho'
            cases ho'
            dsimp only
            rw [if_pos rfl, if_pos rfl, if_neg (by omega), k1]
            exact ⟨v, hsk⟩
          · dsimp only
            rw [if_neg e, if_neg e, if_neg (by omega)]
            exact k2 k o' (by omega) ho'
        · have e : j + (o :: l).length = j + 1 + l.length := by simp; omega
          dsimp only
          rw [hrun, k3, e, if_neg (by omega)]
    rw [opsC_cons]
    rw [opsC_cons] at go
    cases hgd : o.guard with
    | none =>
      rw [hgd] at go
      simp only at go ⊢
      rcases exec_sk hE (j := j) (ms := ms) y env r ds h hwf hndo (.inl hgd) with ⟨w, hw⟩ | ⟨s', lg0, v, k1, k2⟩
      · exact .inl ⟨w, hw _⟩
      · exact go s' lg0 v k2 (k1 _)
    | some gw =>
      obtain ⟨gj, want⟩ := gw
      rw [hgd] at go
      simp only at go ⊢
      cases hg : (ops[gj]?).bind (·.dst) with
      | none => exact .inl ⟨_, rfl⟩
      | some g =>
        rw [hg] at go
        simp only at go ⊢
        simp only [guardC] at go ⊢
        have skip : Unwanted ops o ⟨y, env, r, h⟩ → (∃ w, ((dstC y o.dst).put undefA env r fun env r => (opsC P true ms ops (y.next o.dst) (j + 1) l).run e env r ds h) = .fail w) ∨
            ∃ s' : St, Sk P ops ms j o ⟨y, env, r, h⟩ s' [] undefA ∧ ((dstC y o.dst).put undefA env r fun env r => (opsC P true ms ops (y.next o.dst) (j + 1) l).run e env r ds h) = (opsC P true ms ops (y.next o.dst) (j + 1) l).run e s'.env s'.r ds s'.h := by
          intro hu
          rcases dst_val y o.dst undefA env r with ⟨w, hw⟩ | ⟨env', r', m1, m2, m3⟩
          · exact .inl ⟨w, hw _⟩
          · exact .inr ⟨⟨y.next o.dst, env', r', h⟩, ⟨rfl, m2, m3, .skip hu rfl rfl rfl⟩, m1 _⟩
        cases hv : (tmpC y g).get env r with
        | bool b =>
          rw [hv] at go
          simp only at go ⊢
          cases hb : (b == want) with
          | true =>
            rw [hb] at go
            simp only at go ⊢
            have e : b = want := by simpa using hb
            rcases exec_sk hE (j := j) (ms := ms) y env r ds h hwf hndo (.inr ⟨gj, want, g, hgd, hg, by rw [← e]; exact hv⟩) with ⟨w, hw⟩ | ⟨s', lg0, v, k1, k2⟩
            · exact .inl ⟨w, hw _⟩
            · exact go s' lg0 v k2 (k1 _)
          | false =>
            rw [hb] at go
            simp only at go ⊢
            have e : b ≠ want := by simpa using hb
            rcases skip ⟨gj, want, g, hgd, hg, .inr ⟨b, hv, e⟩⟩ with hf | ⟨s', k1, k2⟩
            · exact .inl hf
            · exact go s' [] undefA k1 k2
        | tuple vs =>
          rw [hv] at go
          cases vs with
          | nil =>
            simp only at go ⊢
            rcases skip ⟨gj, want, g, hgd, hg, .inl hv⟩ with hf | ⟨s', k1, k2⟩
            · exact .inl hf
            · exact go s' [] undefA k1 k2
          | cons => exact .inl ⟨_, rfl⟩
        | _ => exact .inl ⟨.s "guard", rfl⟩
end
end Go.Ai

namespace Go.Ai
open Go
set_option linter.unusedVariables false

section
theorem allI_spec {α : Type} {f : Nat → α → Bool} : ∀ {l : List α} {i : Nat}, allI f i l = true → ∀ k x, l[k]? = some x → f (i + k) x = true
  | [], i, _, k, x, hx => by simp at hx
  | y :: l, i, h, k, x, hx => by
    have hd : allI f i (y :: l) = cond (f i y) (allI f (i + 1) l) false := rfl
    rw [hd] at h
    cases hf : f i y with
    | false => rw [hf] at h; cases h
    | true =>
      rw [hf] at h
      cases k with
      | zero => simp at hx; subst hx; exact hf
      | succ k =>
        have := allI_spec (i := i + 1) h k x (by simpa using hx)
        rwa [show i + 1 + k = i + (k + 1) by omega] at this
theorem memN_spec {x : Nat} {l : List Nat} (h : x ∈ l) : memN x l = true := by
  induction l with
  | nil => cases h
  | cons y l ih =>
    have hd : memN x (y :: l) = cond (Nat.beq x y) true (memN x l) := rfl
    rw [hd]
    cases hb : Nat.beq x y with
    | true => rfl
    | false =>
      rcases List.mem_cons.1 h with rfl | h
      · simp at hb
      · exact ih h
theorem memN_not {x : Nat} {l : List Nat} (h : memN x l = false) : x ∉ l := fun hm => by rw [memN_spec hm] at h; cases h
theorem bit_eq (m i : Nat) : bit m i = m.testBit i := by
  have h1 : bit m i = Nat.beq (m >>> i % 2) 1 := rfl
  rw [h1, Nat.testBit_eq_decide_div_mod_eq, Nat.shiftRight_eq_div_pow]
  by_cases h : m / 2 ^ i % 2 = 1
  · simp [h]
  · have : m / 2 ^ i % 2 = 0 := by omega
    simp [this]
    rfl
theorem bit_lor (a b i : Nat) : bit (Nat.lor a b) i = (bit a i || bit b i) := by
  simp only [bit_eq]
  exact Nat.testBit_or a b i
theorem bit_one (k i : Nat) : bit (Nat.shiftLeft 1 k) i = true → i = k := by
  rw [bit_eq]
  have : Nat.shiftLeft 1 k = 1 <<< k := rfl
  rw [this, Nat.one_shiftLeft, Nat.testBit_two_pow]
  simp only [decide_eq_true_eq]
  exact fun h => h.symm
theorem bit_zero (i : Nat) : bit 0 i = false := by rw [bit_eq]; simp

/-- which operation comes before which, whatever the order -/
inductive Pre (ops : List Oper) (i : Nat) : Nat → Prop
  | edge {j o e} (ho : ops[j]? = some o) (he : e ∈ o.after.toList) (ha : anyEdge e = true) (hi : e.on = i) : Pre ops i j
  | step {j o e} (ho : ops[j]? = some o) (he : e ∈ o.after.toList) (ha : anyEdge e = true) (hp : Pre ops i e.on) : Pre ops i j
theorem maskOf_spec {acc : List Nat} {i : Nat} : ∀ {l : List Edge}, bit (maskOf acc l) i = true → ∃ e ∈ l, anyEdge e = true ∧ (e.on = i ∨ bit (nthD 0 e.on acc) i = true)
  | [], h => by
    have : maskOf acc [] = 0 := rfl
    rw [this, bit_zero] at h; cases h
  | e :: l, h => by
    simp only [maskOf] at h
    cases ha : anyEdge e with
    | true =>
      rw [ha] at h
      simp only [bit_lor, Bool.or_eq_true] at h
      rcases h with (h | h) | h
      · exact ⟨e, by simp, ha, .inl (bit_one _ _ h).symm⟩
      · exact ⟨e, by simp, ha, .inr h⟩
      · obtain ⟨e', h1, h2⟩ := maskOf_spec h
        exact ⟨e', by simp [h1], h2⟩
    | false =>
      rw [ha] at h
      obtain ⟨e', h1, h2⟩ := maskOf_spec h
      exact ⟨e', by simp [h1], h2⟩
theorem edgesOk_spec {ops : List Oper} (h : edgesOk ops = true) {j : Nat} {o : Oper} {e : Edge} (ho : ops[j]? = some o) (he : e ∈ o.after.toList) (ha : anyEdge e = true) : e.on < j := by
  have := allI_spec h j o ho
  rw [List.all_eq_true] at this
  have := this e he
  rw [ha] at this
  simp only [Bool.not_true, Bool.false_or, Nat.zero_add] at this
  exact blt_iff.1 this
theorem masks_spec {ops : List Oper} : ∀ (l : List Oper) (acc : List Nat), ops.drop acc.length = l → (∀ j i, bit (nthD 0 j acc) i = true → Pre ops i j) → ∀ j i, bit (nthD 0 j (masks l acc)) i = true → Pre ops i j
  | [], acc, _, hacc, j, i, h => hacc j i h
  | o :: l, acc, hd, hacc, j, i, h => by
    have ho : ops[acc.length]? = some o := by
      have := congrArg (fun x => x[0]?) hd
      simp at this
      exact this
    have hnext : ops.drop (acc.length + 1) = l := by
      have := congrArg List.tail hd
      simpa using this
    refine masks_spec l (acc ++ [maskOf acc o.after.toList]) (by simpa using hnext) (fun j i hb => ?_) j i h
    rw [nthD_eq] at hb
    by_cases hj : j < acc.length
    · have e1 : (acc ++ [maskOf acc o.after.toList]).getD j 0 = acc.getD j 0 := by
        simp only [List.getD_eq_getElem?_getD]
        rw [List.getElem?_append_left hj]
      rw [e1, ← nthD_eq] at hb
      exact hacc j i hb
    · by_cases hj2 : j = acc.length
      · subst hj2
        have e1 : (acc ++ [maskOf acc o.after.toList]).getD acc.length 0 = maskOf acc o.after.toList := by simp [List.getD_eq_getElem?_getD]
        rw [e1] at hb
        obtain ⟨e, h1, h2, h3⟩ := maskOf_spec hb
        rcases h3 with h3 | h3
        · exact .edge ho h1 h2 h3
        · exact .step ho h1 h2 (hacc _ _ h3)
      · have e1 : (acc ++ [maskOf acc o.after.toList]).getD j 0 = 0 := by
          simp only [List.getD_eq_getElem?_getD]
          rw [List.getElem?_eq_none (by simp; omega)]; rfl
        rw [e1, bit_zero] at hb
        cases hb
theorem Pre.lt {ops : List Oper} (h : edgesOk ops = true) {i j : Nat} (hp : Pre ops i j) : i < j := by
  induction hp with
  | edge ho he ha hi => have := edgesOk_spec h ho he ha; omega
  | step ho he ha _ ih => have := edgesOk_spec h ho he ha; omega
theorem ordered_spec {ops : List Oper} {i j : Nat} (h : ordered (masks ops []) i j = true) : Pre ops i j ∨ Pre ops j i := by
  have key : ∀ j i, bit (nthD 0 j (masks ops [])) i = true → Pre ops i j := masks_spec ops [] (by simp) (fun j i h => by
    have : nthD 0 j ([] : List Nat) = 0 := by rw [nthD_eq]; simp
    rw [this, bit_zero] at h; cases h)
  simp only [ordered, Bool.or_eq_true] at h
  exact h.imp (key j i) (key i j)
def ClosedD (ops : List Oper) (D : Nat → Prop) : Prop := ∀ j o e, ops[j]? = some o → D j → e ∈ o.after.toList → anyEdge e = true → D e.on
theorem Pre.closed {ops : List Oper} {D : Nat → Prop} (hc : ClosedD ops D) {i j : Nat} (hp : Pre ops i j) (hj : ∀ o e, ops[j]? = some o → e ∈ o.after.toList → anyEdge e = true → D e.on) : D i := by
  induction hp with
  | edge ho he ha hi => rw [← hi]; exact hj _ _ ho he ha
  | step ho he ha _ ih => exact ih fun o e ho' he' ha' => hc _ _ _ ho' (hj _ _ ho he ha) he' ha'
theorem tmpsApart_spec {ops : List Oper} {ms : List Nat} (h : tmpsApart ops ms = true) {i j : Nat} {o o' : Oper} {d : Nat} (hj : ops[j]? = some o) (hi : ops[i]? = some o') (hd : o'.dst = some d) (hn : d ∈ namesOf ops o) (hne : i ≠ j) :
    ordered ms i j = true := by
  have h1 := allI_spec h j o hj
  have h2 := allI_spec h1 i o' hi
  simp only [Nat.zero_add, hd, memN_spec hn, Bool.not_true, Bool.false_or, Bool.or_eq_true] at h2
  rcases h2 with h2 | h2
  · exact absurd (Nat.eq_of_beq_eq_true h2) hne
  · exact h2
theorem unwritten_spec {ops : List Oper} {d i j : Nat} (h : unwritten ops d i j = true) {k : Nat} {o : Oper} (ho : ops[k]? = some o) (h1 : i ≤ k) (h2 : k < j) : o.dst ≠ some d := by
  intro hd
  have := allI_spec h k o ho
  simp only [Nat.zero_add, hd, Bool.or_eq_true] at this
  rcases this with (h3 | h3) | h3
  · have := blt_iff.1 h3; omega
  · have := Nat.le_of_ble_eq_true h3; omega
  · simp at h3
theorem apartL_spec {log : List Nat} {env : List AV} {r : R3} {y : Lay} {d : Nat} : ∀ {ds : List Nat}, apartL log env r (ds.map (tmpC y)) = true → d ∈ ds → ∃ x, blkOf ((tmpC y d).get env r) = some x ∧ ∀ b, x = b + 1 → b ∉ log
  | [], _, h => by cases h
  | e :: ds, h, hd => by
    simp only [List.map_cons, apartL] at h
    rcases List.mem_cons.1 hd with rfl | hd
    · split at h
      · rename_i hb; exact ⟨0, hb, fun b e => by omega⟩
      · rename_i b hb
        refine ⟨b + 1, hb, fun c e => ?_⟩
        have : c = b := by omega
        subst this
        cases hm : memN c log with
        | true => rw [hm] at h; cases h
        | false => exact memN_not hm
      · cases h
    · split at h
      · exact apartL_spec h hd
      · rename_i b hb
        cases hm : memN b log with
        | true => rw [hm] at h; cases h
        | false => rw [hm] at h; exact apartL_spec h hd
      · cases h
def KeepOk (P : Program) (ops : List Oper) (j i : Nat) (o : Oper) (all : Bool) (r : List Nat) : Prop :=
  match clsOf P o with
  | .pure => True
  | .busy => all = true
  | .alloc d => j < i ∨ all = true ∨ (d ∈ r ∧ unwritten ops d (i + 1) j = true)
  | .load d => all = true ∨ (d ∈ r ∧ (if i < j then unwritten ops d i j else unwritten ops d j i) = true)
theorem KeepOk.mono {P : Program} {ops : List Oper} {j i : Nat} {o : Oper} {all all' : Bool} {r r' : List Nat} (h : KeepOk P ops j i o all r) (ha : all = true → all' = true) (hr : ∀ x ∈ r, x ∈ r') : KeepOk P ops j i o all' r' := by
  unfold KeepOk at h ⊢
  cases hc : clsOf P o with
  | pure => trivial
  | busy => rw [hc] at h; exact ha h
  | alloc d => rw [hc] at h; exact h.imp id fun h => h.imp ha fun h => ⟨hr _ h.1, h.2⟩
  | load d => rw [hc] at h; exact h.imp ha fun h => ⟨hr _ h.1, h.2⟩
theorem keeps_spec (P : Program) {ops : List Oper} {ms : List Nat} {j : Nat} : ∀ (l : List Oper) (i0 : Nat) (k : Nat) (o : Oper), l[k]? = some o → i0 + k ≠ j → ordered ms (i0 + k) j = false →
    KeepOk P ops j (i0 + k) o (keeps P ops ms j i0 l).1 (keeps P ops ms j i0 l).2
  | [], i0, k, o, h, _, _ => by simp at h
  | o0 :: l, i0, k, o, h, hne, hord => by
    cases k with
    | succ k =>
      have ih := keeps_spec P (ops := ops) (ms := ms) (j := j) l (i0 + 1) k o (by simpa using h) (by omega) (by rw [show i0 + 1 + k = i0 + (k + 1) by omega]; exact hord)
      rw [show i0 + 1 + k = i0 + (k + 1) by omega] at ih
      refine ih.mono ?_ ?_
      · simp only [keeps]
        intro ha
        cases hb : (Nat.beq i0 j || ordered ms i0 j) with
        | true => exact ha
        | false =>
          simp only
          cases clsOf P o0 <;> simp only <;> (repeat' split) <;> first | exact ha | rfl
      · simp only [keeps]
        intro x hx
        cases hb : (Nat.beq i0 j || ordered ms i0 j) with
        | true => exact hx
        | false =>
          simp only
          cases clsOf P o0 <;> simp only <;> (repeat' split) <;> first | exact hx | exact List.mem_cons_of_mem _ hx
    | zero =>
      simp only [List.getElem?_cons_zero, Option.some.injEq] at h
      subst h
      simp only [Nat.add_zero] at hne hord ⊢
      have hb : (Nat.beq i0 j || ordered ms i0 j) = false := by
        rw [hord, Bool.or_false]
        cases hbb : Nat.beq i0 j with
        | false => rfl
        | true => exact absurd (Nat.eq_of_beq_eq_true hbb) hne
      unfold KeepOk
      simp only [keeps, hb]
      cases hc : clsOf P o0 with
      | pure => trivial
      | busy => rfl
      | alloc d =>
        simp only
        cases h1 : Nat.blt j i0 with
        | true => exact .inl (blt_iff.1 h1)
        | false =>
          right
          simp only
          cases h2 : unwritten ops d (Nat.succ i0) j with
          | true => exact .inr ⟨by simp, rfl⟩
          | false => exact .inl rfl
      | load d =>
        simp only
        cases h1 : Nat.blt i0 j with
        | true =>
          rw [if_pos (blt_iff.1 h1)]
          cases h2 : unwritten ops d i0 j with
          | true => exact .inr ⟨by simp, rfl⟩
          | false => exact .inl rfl
        | false =>
          rw [if_neg (fun h => by rw [blt_iff.2 h] at h1; cases h1)]
          cases h2 : unwritten ops d j i0 with
          | true => exact .inr ⟨by simp, rfl⟩
          | false => exact .inl rfl
end
end Go.Ai

namespace Go.Ai
open Go
set_option linter.unusedVariables false

section
variable {P : Program}
/-- a run in the order of the text -/
structure Tr (P : Program) (ops : Array Oper) (σ : Nat → St) (lg : Nat → List Nat) (n : Nat) : Prop where
  sk : ∀ k o, ops[k]? = some o → ∃ v, Sk P ops.toList (masks ops.toList []) k o (σ k) (σ (k + 1)) (lg k) v
  wf : (σ 0).h.WF
  hn : (σ 0).y.n = n
  le : n ≤ 512
  edges : edgesOk ops.toList = true
  apart : tmpsApart ops.toList (masks ops.toList []) = true
theorem opers_get {ops : Array Oper} {k : Nat} (hk : k < ops.size) : ∃ o, ops[k]? = some o := ⟨ops[k], by simp [hk]⟩
theorem opers_lt {ops : Array Oper} {k : Nat} {o : Oper} (h : ops[k]? = some o) : k < ops.size := (Array.getElem?_eq_some_iff.1 h).1
theorem opers_list {ops : Array Oper} {k : Nat} {o : Oper} (h : ops[k]? = some o) : ops.toList[k]? = some o := by rw [Array.getElem?_toList]; exact h
section
variable {ops : Array Oper} {σ : Nat → St} {lg : Nat → List Nat} {n : Nat} (T : Tr P ops σ lg n)
include T
theorem Tr.step_wf {k : Nat} (hk : k < ops.size) (h : (σ k).h.WF) : AStep (σ k).h (σ (k + 1)).h := by
  obtain ⟨o, ho⟩ := opers_get hk
  obtain ⟨v, hs⟩ := T.sk k o ho
  exact hs.kind.astep h
theorem Tr.wfk : ∀ k, k ≤ ops.size → (σ k).h.WF := by
  intro k
  induction k with
  | zero => exact fun _ => T.wf
  | succ k ih => exact fun hk => (T.step_wf (by omega) (ih (by omega))).wf (ih (by omega))
theorem Tr.nk : ∀ k, k ≤ ops.size → (σ k).y.n = n := by
  intro k
  induction k with
  | zero => exact fun _ => T.hn
  | succ k ih =>
    intro hk
    obtain ⟨o, ho⟩ := opers_get (ops := ops) (k := k) (by omega)
    obtain ⟨v, hs⟩ := T.sk k o ho
    rw [hs.y, (Lay.next_vm _ _).2]
    exact ih (by omega)
theorem Tr.vmk : ∀ k, k ≤ ops.size → (σ k).y.vm = (σ 0).y.vm := by
  intro k
  induction k with
  | zero => exact fun _ => rfl
  | succ k ih =>
    intro hk
    obtain ⟨o, ho⟩ := opers_get (ops := ops) (k := k) (by omega)
    obtain ⟨v, hs⟩ := T.sk k o ho
    rw [hs.y, (Lay.next_vm _ _).1]
    exact ih (by omega)
theorem Tr.astep {i : Nat} : ∀ {j : Nat}, i ≤ j → j ≤ ops.size → AStep (σ i).h (σ j).h := by
  intro j
  induction j with
  | zero => intro h _; have : i = 0 := by omega
            subst this; exact AStep.refl _
  | succ j ih =>
    intro h hj
    by_cases e : i = j + 1
    · subst e; exact AStep.refl _
    · exact (ih (by omega) (by omega)).trans (T.step_wf (by omega) (T.wfk j (by omega)))
theorem Tr.next {i j : Nat} (h : i ≤ j) (hj : j ≤ ops.size) : (σ i).h.next ≤ (σ j).h.next := (T.astep h hj).next
theorem Tr.thr {j : Nat} (hj : j ≤ ops.size) : (σ j).h.thr = (σ 0).h.thr := (T.astep (Nat.zero_le j) hj).thr
theorem Tr.same {i c : Nat} (hc : c < maxBlocks) : ∀ {j : Nat}, i ≤ j → j ≤ ops.size → (∀ k, i ≤ k → k < j → ¬ Wr (σ k) (σ (k + 1)) (lg k) c) → (σ j).h.get c = (σ i).h.get c := by
  intro j
  induction j with
  | zero => intro h _ _; have : i = 0 := by omega
            subst this; rfl
  | succ j ih =>
    intro h hj hn
    by_cases e : i = j + 1
    · subst e; rfl
    · obtain ⟨o, ho⟩ := opers_get (ops := ops) (k := j) (by omega)
      obtain ⟨v, hs⟩ := T.sk j o ho
      rw [hs.kind.same (T.wfk j (by omega)) hc (hn j (by omega) (by omega))]
      exact ih (by omega) (by omega) fun k h1 h2 => hn k h1 (by omega)
theorem Tr.val {i t : Nat} : ∀ {j : Nat}, i ≤ j → j ≤ ops.size → (∀ k o, ops[k]? = some o → i ≤ k → k < j → o.dst ≠ some t) → (σ j).val t = (σ i).val t := by
  intro j
  induction j with
  | zero => intro h _ _; have : i = 0 := by omega
            subst this; rfl
  | succ j ih =>
    intro h hj hn
    by_cases e : i = j + 1
    · subst e; rfl
    · obtain ⟨o, ho⟩ := opers_get (ops := ops) (k := j) (by omega)
      obtain ⟨v, hs⟩ := T.sk j o ho
      rw [hs.val (by rw [T.nk j (by omega)]; exact T.le), if_neg (hn j o ho (by omega) (by omega))]
      exact ih (by omega) (by omega) fun k o' ho' h1 h2 => hn k o' ho' h1 (by omega)
theorem cls_alloc_dst {o : Oper} {d : Nat} (h : clsOf P o = .alloc d) : o.dst = some d := by
  have key : dstOr o = .alloc d → o.dst = some d := by
    unfold dstOr
    cases o.dst with
    | none => intro h; cases h
    | some d' => intro h; cases h; rfl
  cases ho : o.op
  case call cl =>
    exfalso
    cases hc : cl.callee with
    | value f => exact (cls_value ho hc).2 d h
    | invoke r n => exact (cls_invoke ho hc).2 d h
    | builtin b => rw [cls_builtin ho hc] at h; exact clsB_not_alloc _ _ _ h
  case load ty x => exact absurd h ((cls_load ho).2 d)
  all_goals first
    | (simp only [clsOf, ho] at h; exact key h)
    | (exfalso; simp only [clsOf, ho] at h; cases h)
/-- the log of an operation that writes: it is watched -/
theorem Tr.log_busy {k : Nat} {o : Oper} {c : Nat} (ho : ops[k]? = some o) (hc : c ∈ lg k) : clsOf P o = .busy ∧ (keeps P ops.toList (masks ops.toList []) k 0 ops.toList).1 = false ∧
    apartL (lg k) (σ k).env (σ k).r ((keeps P ops.toList (masks ops.toList []) k 0 ops.toList).2.map (tmpC (σ k).y)) = true := by
  obtain ⟨v, hs⟩ := T.sk k o ho
  cases hs.kind with
  | skip hg hv hh hl => rw [hl] at hc; cases hc
  | pure hg hcl hs' hh hl => rw [hl] at hc; cases hc
  | load hg ho' hb' hn hs' hh hl => rw [hl] at hc; cases hc
  | alloc hg hcl hlt hs' hb' hh hl => rw [hl] at hc; cases hc
  | busy hg hcl hs' hl hh hk =>
    rcases hk with hk | hk
    · rw [hl, hk] at hc; cases hc
    · rw [hl]; exact ⟨hcl, hk.1, hk.2⟩
/-- what an operation leaves alone -/
theorem Tr.keep {k i : Nat} {o : Oper} {c : Nat} {ok : Oper} (hok : ops[k]? = some ok) (ho : ops[i]? = some o) (hne : i ≠ k) (hord : ordered (masks ops.toList []) i k = false) (hc : c ∈ lg k) :
    ∃ r, apartL (lg k) (σ k).env (σ k).r (r.map (tmpC (σ k).y)) = true ∧ KeepOk P ops.toList k i o false r := by
  obtain ⟨h1, h2, h3⟩ := T.log_busy hok hc
  refine ⟨_, h3, ?_⟩
  have := keeps_spec P (ops := ops.toList) (ms := masks ops.toList []) (j := k) ops.toList 0 i o (opers_list ho) (by omega) (by rw [Nat.zero_add]; exact hord)
  rw [Nat.zero_add, h2] at this
  exact this
theorem Tr.range {i k c : Nat} (hi : i < ops.size) (hk : k < ops.size) (h1 : (σ i).h.next ≤ c ∧ c < (σ (i + 1)).h.next) (h2 : (σ k).h.next ≤ c ∧ c < (σ (k + 1)).h.next) : i = k := by
  rcases Nat.lt_trichotomy i k with h | h | h
  · have := T.next (i := i + 1) (j := k) (by omega) (by omega); omega
  · exact h
  · have := T.next (i := k + 1) (j := i) (by omega) (by omega); omega
/-- two operations that write the same block are in an order -/
theorem Tr.conflict {i k c : Nat} (hik : i < k) (hk : k < ops.size) (h1 : Wr (σ i) (σ (i + 1)) (lg i) c) (h2 : Wr (σ k) (σ (k + 1)) (lg k) c) : ordered (masks ops.toList []) i k = true := by
  cases hord : ordered (masks ops.toList []) i k with
  | true => rfl
  | false =>
    exfalso
    obtain ⟨o, ho⟩ := opers_get (ops := ops) (k := i) (by omega)
    obtain ⟨ok, hok⟩ := opers_get hk
    obtain ⟨v, hs⟩ := T.sk i o ho
    have hwfi := T.wfk i (by omega)
    have hmono := T.next (i := i + 1) (j := k) (by omega) (by omega)
    have hlt : c < (σ (i + 1)).h.next := by
      rcases h1 with h1 | h1
      · have := (hs.kind.log hwfi h1).1
        have := (T.step_wf (by omega) hwfi).next
        omega
      · exact h1.2
    have hck : c ∈ lg k := by
      rcases h2 with h2 | h2
      · exact h2
      · omega
    obtain ⟨r, ha, hko⟩ := T.keep hok ho (by omega) hord hck
    have contra : ∀ h : clsOf P o = .busy, False := fun h => by
      unfold KeepOk at hko; rw [h] at hko; cases hko
    rcases h1 with h1 | h1
    · exact contra (T.log_busy ho h1).1
    · cases hs.kind with
      | skip hg hv hh hl => rw [hh] at h1; omega
      | pure hg hcl hs' hh hl => rw [hh] at h1; omega
      | load hg ho' hb' hn hs' hh hl => rw [hh] at h1; omega
      | busy hg hcl hs' hl hh hk => exact contra hcl
      | @alloc d ob hg hcl hlt' hs' hb' hh hl =>
        unfold KeepOk at hko
        rw [hcl] at hko
        rcases hko with hko | hko | ⟨hd, hu⟩
        · omega
        · cases hko
        · have hdst := cls_alloc_dst T hcl
          have hval : (σ k).val d = v := by
            rw [T.val (i := i + 1) (j := k) (by omega) (by omega) fun x ox hox h1 h2 => unwritten_spec hu (opers_list hox) h1 h2,
              hs.val (by rw [T.nk i (by omega)]; exact T.le), if_pos hdst]
          obtain ⟨x, hx, hx2⟩ := apartL_spec ha hd
          have hx' : blkOf ((σ k).val d) = some x := hx
          rw [hval, hb'] at hx'
          have hcn : c = (σ i).h.next := by
            have : (σ (i + 1)).h.next = (σ i).h.next + 1 := by rw [hh]; rfl
            omega
          refine hx2 c ?_ hck
          have := Option.some.inj hx'
          omega
end
end
end Go.Ai

namespace Go.Ai
open Go
set_option linter.unusedVariables false
set_option linter.unusedSectionVars false

section
variable {P : Program}
instance {s s' : St} {lg : List Nat} {c : Nat} : Decidable (Wr s s' lg c) := inferInstanceAs (Decidable (_ ∨ _))
/-- what one operation does, beside the blocks that it leaves alone -/
structure Gst (φ : Phi) (w : World) (φ' : Phi) (H' : Nat → AObj) (w' : World) (N N' : Nat) (lg : List Nat) : Prop where
  ext : φ.le φ'
  dom : ∀ c l, φ' c = some l → φ c = some l ∨ (φ c = none ∧ N ≤ c ∧ c < N')
  newl : ∀ c l, φ c = none → φ' c = some l → w.heap.size ≤ l.blk ∨ ∃ c' l', φ c' = some l' ∧ c' ∈ lg ∧ l'.blk = l.blk ∧ H' c' = .gone
  domlt : ∀ c l, φ' c = some l → c < maxBlocks
  lt : ∀ c l, φ' c = some l → l.blk < w'.heap.size
  obj : ∀ c l, φ' c = some l → (c ∈ lg ∨ (N ≤ c ∧ c < N')) → H' c ≠ .gone → ∃ O, w'.heap[l.blk]? = some O ∧ ORel φ' l (H' c) O
  inj : ∀ c d l m, φ' c = some l → φ' d = some m → (c ∈ lg ∨ (N ≤ c ∧ c < N')) → (d ∈ lg ∨ (N ≤ d ∧ d < N')) → H' c ≠ .gone → H' d ≠ .gone → c ≠ d → l.blk ≠ m.blk
  keep : ∀ β, β < w.heap.size → (∀ c l, φ c = some l → l.blk = β → c ∉ lg) → w'.heap[β]? = w.heap[β]?
  size : w.heap.size ≤ w'.heap.size
  os : w'.os = w.os
  tape : w'.tape = w.tape
  output : w'.output = w.output
theorem Gst.refl {φ : Phi} {g : Nat → AObj} {w : World} (r : RelF φ g w) (H' : Nat → AObj) (N : Nat) : Gst φ w φ H' w N N [] where
  ext := Phi.le_refl φ
  dom c l h := .inl h
  newl c l h h' := by rw [h] at h'; cases h'
  domlt := r.dom
  lt := r.lt
  obj c l _ hc _ := by rcases hc with hc | hc; cases hc; omega
  inj c d l m _ _ hc _ _ _ _ := by rcases hc with hc | hc; cases hc; omega
  keep _ _ _ := rfl
  size := Nat.le_refl _
  os := rfl
  tape := rfl
  output := rfl
theorem Gst.alloc {φ : Phi} {g : Nat → AObj} {w w' : World} (r : RelF φ g w) {N sz : Nat} {ob : AObj} {O : Obj} {H' : Nat → AObj} (hn : φ N = none) (hlt : N < maxBlocks) (hH : H' N = ob)
    (hh : w'.heap = w.heap.push O) (hos : w'.os = w.os) (ht : w'.tape = w.tape) (hout : w'.output = w.output) (ho : ORel φ ⟨w.heap.size, 0, sz⟩ ob O) :
    Gst φ w (φ.put N ⟨w.heap.size, 0, sz⟩) H' w' N (N + 1) [] := by
  have hle := Phi.le_put hn ⟨w.heap.size, 0, sz⟩
  have old : ∀ b l, φ.put N ⟨w.heap.size, 0, sz⟩ b = some l → b ≠ N → φ b = some l := fun b l hb hne => by simpa [Phi.put, hne] using hb
  have new : ∀ l, φ.put N ⟨w.heap.size, 0, sz⟩ N = some l → l = ⟨w.heap.size, 0, sz⟩ := fun l hb => by rw [Phi.put_same] at hb; exact (Option.some.inj hb).symm
  have isN : ∀ c, (c ∈ ([] : List Nat) ∨ (N ≤ c ∧ c < N + 1)) → c = N := fun c hc => by
    rcases hc with hc | hc
    · cases hc
    · omega
  constructor
  · exact hle
  · intro c l hc
    by_cases e : c = N
    · subst e; exact .inr ⟨hn, Nat.le_refl _, Nat.lt_succ_self _⟩
    · exact .inl (old c l hc e)
  · intro c l hc hs
    by_cases e : c = N
    · subst e; rw [new l hs]; exact .inl (Nat.le_refl _)
    · rw [old c l hs e] at hc; cases hc
  · intro c l hc
    by_cases e : c = N
    · subst e; exact hlt
    · exact r.dom c l (old c l hc e)
  · intro c l hc
    have hsz : w'.heap.size = w.heap.size + 1 := by rw [hh]; simp
    by_cases e : c = N
    · subst e; rw [new l hc, hsz]; exact Nat.lt_succ_self _
    · have := r.lt c l (old c l hc e); omega
  · intro c l hc hw _
    have e := isN c hw
    subst e
    rw [new l hc, hH]
    exact ⟨O, by rw [hh]; simp, ho.mono hle⟩
  · intro c d l m _ _ hc hd _ _ hne
    exact absurd ((isN c hc).trans (isN d hd).symm) hne
  · intro β hβ _
    rw [hh, Array.getElem?_push, if_neg (by omega)]
  · rw [hh]; simp
  · exact hos
  · exact ht
  · exact hout
theorem Gst.of_step {φ φ' : Phi} {w w' : World} {h h2 : H} (hwf : h.WF) (s : Step φ h.watch w φ' h2 w') {H' : Nat → AObj} (hH : ∀ c, H' c = h2.get c) : Gst φ w φ' H' w' h.next h2.next h2.log where
  ext := s.ext
  dom := s.dom
  newl c l hc hs := by
    rcases s.newl c l hc hs with h1 | ⟨c', l', k1, k2, k3, k4, k5, k6⟩
    · exact .inl h1
    · exact .inr ⟨c', l', k1, k6 k2, k4, by rw [hH]; exact k5⟩
  domlt := s.rel.dom
  lt := s.rel.lt
  obj c l hc _ hg := by rw [hH] at hg ⊢; exact s.rel.obj c l hc hg
  inj c d l m hc hd _ _ hgc hgd hne := by rw [hH] at hgc hgd; exact s.rel.inj c d l m hc hd hgc hgd hne
  keep β hβ hk := s.keep β hβ fun b l hb hl he => ⟨hb, hk b l hl he⟩
  size := s.size
  os := s.os
  tape := s.tape
  output := s.output

structure Inv (ops : Array Oper) (σ : Nat → St) (lg : Nat → List Nat) (n : Nat) (b : Base) (ds : DS) (φ0 : Phi) (w0 : World) (D : Nat → Prop) (φ : Phi) (g : Nat → AObj) (w : World) (a : Act) : Prop where
  tsize : a.tmps.size = n
  tval : ∀ t j, j ≤ ops.size → (∀ k o, ops[k]? = some o → o.dst = some t → (D k ↔ k < j)) → VRel φ ((σ j).val t) (a.tmps.getD t undef)
  gval : ∀ c j, c < maxBlocks → j ≤ ops.size → (∀ k, k < ops.size → Wr (σ k) (σ (k + 1)) (lg k) c → (D k ↔ k < j)) → g c = (σ j).h.get c
  rel : RelF φ g w
  ext : φ0.le φ
  dom : ∀ c l, φ c = some l → φ0 c = some l ∨ (φ0 c = none ∧ ∃ k, k < ops.size ∧ D k ∧ (σ k).h.next ≤ c ∧ c < (σ (k + 1)).h.next)
  newl : ∀ c l, φ0 c = none → φ c = some l → w0.heap.size ≤ l.blk ∨
    ∃ c' l', φ0 c' = some l' ∧ c' < (σ 0).h.next ∧ (σ 0).h.get c' ≠ .gone ∧ l'.blk = l.blk ∧ g c' = .gone ∧ (c' < (σ 0).h.thr → c' ∈ (σ ops.size).h.log)
  keep : ∀ β, β < w0.heap.size → (∀ c l, c < (σ 0).h.next → φ0 c = some l → l.blk = β → c < (σ 0).h.thr ∧ c ∉ (σ ops.size).h.log) → w.heap[β]? = w0.heap[β]?
  size : w0.heap.size ≤ w.heap.size
  os : w.os = w0.os
  tape : w.tape = w0.tape
  output : w.output = w0.output
  drel : DRel b φ ds a.defers
section
variable {ops : Array Oper} {σ : Nat → St} {lg : Nat → List Nat} {n : Nat} {b : Base} {ds : DS} {φ0 : Phi} {w0 : World} {D : Nat → Prop} {φ : Phi} {g : Nat → AObj} {w : World} {a : Act}
/-- an operation's effect on all that is known -/
theorem Inv.merge (T : Tr P ops σ lg n) (hwin : Win φ0 (σ 0).h (σ ops.size).h) {i : Nat} (hi : i < ops.size) (I : Inv ops σ lg n b ds φ0 w0 D φ g w a) (hDi : ¬ D i)
    (hord : ∀ k, k < ops.size → k ≠ i → (ordered (masks ops.toList []) k i = true ∨ ordered (masks ops.toList []) i k = true) → (D k ↔ k < i))
    {φ' : Phi} {w' : World} {a' : Act} (G : Gst φ w φ' (σ (i + 1)).h.get w' (σ i).h.next (σ (i + 1)).h.next (lg i))
    (hlive : ∀ c l, c ∈ lg i → φ c = some l → g c ≠ .gone) (htsize : a'.tmps.size = n) (hdef : a'.defers = a.defers)
    (htval : ∀ t j, j ≤ ops.size → (∀ k o, ops[k]? = some o → o.dst = some t → ((D k ∨ k = i) ↔ k < j)) → VRel φ' ((σ j).val t) (a'.tmps.getD t undef)) :
    Inv ops σ lg n b ds φ0 w0 (fun k => D k ∨ k = i) φ' (fun c => if Wr (σ i) (σ (i + 1)) (lg i) c then (σ (i + 1)).h.get c else g c) w' a' := by
  have hwfi := T.wfk i (by omega)
  obtain ⟨oi, hoi⟩ := opers_get hi
  obtain ⟨vi, hsi⟩ := T.sk i oi hoi
  have hnew : ∀ c, (σ i).h.next ≤ c → c < (σ (i + 1)).h.next → φ c = none := by
    intro c h1 h2
    cases hx : φ c with
    | none => rfl
    | some l =>
      rcases I.dom c l hx with h3 | ⟨_, k, hk, hDk, h4, h5⟩
      · have e1 := T.next (i := 0) (j := i) (by omega) (by omega)
        have e2 := T.next (i := i + 1) (j := ops.size) (by omega) (by omega)
        have := hwin c (by omega) (by omega)
        rw [this] at h3; cases h3
      · have := T.range hi hk ⟨h1, h2⟩ ⟨h4, h5⟩
        subst this
        exact absurd hDk hDi
  have hnew0 : ∀ c, (σ i).h.next ≤ c → c < (σ (i + 1)).h.next → φ0 c = none := by
    intro c h1 h2
    cases hx : φ0 c with
    | none => rfl
    | some l => have := I.ext c l hx; rw [hnew c h1 h2] at this; cases this
  have hlow : ∀ c l, c ∈ lg i → φ0 c = some l → c < (σ 0).h.next := by
    intro c l hc hl
    have e1 := (hsi.kind.log hwfi hc).1
    have e2 := T.next (i := i) (j := ops.size) (by omega) (by omega)
    rcases Nat.lt_or_ge c (σ 0).h.next with h | h
    · exact h
    · have := hwin c h (by omega)
      rw [this] at hl; cases hl
  have hlog : ∀ c, c ∈ lg i → c < (σ 0).h.thr → c ∈ (σ ops.size).h.log := by
    intro c hc ht
    have h1 := (hsi.kind.log hwfi hc).2.2 (by rw [T.thr (by omega)]; exact ht)
    exact (T.astep (i := i + 1) (j := ops.size) (by omega) (by omega)).logs h1
  have hnotw : ∀ c l, φ c = some l → ¬ c ∈ lg i → ¬ Wr (σ i) (σ (i + 1)) (lg i) c := by
    intro c l hc hn hw
    rcases hw with hw | hw
    · exact hn hw
    · rw [hnew c hw.1 hw.2] at hc; cases hc
  constructor
  · exact htsize
  · exact htval
  · -- the heap
    intro c j hc hj hk
    show (if Wr (σ i) (σ (i + 1)) (lg i) c then (σ (i + 1)).h.get c else g c) = (σ j).h.get c
    by_cases hw : Wr (σ i) (σ (i + 1)) (lg i) c
    · rw [if_pos hw]
      have hij : i < j := (hk i hi hw).1 (.inr rfl)
      refine (T.same hc (by omega) hj fun k h1 h2 hwk => ?_).symm
      have hDk : D k := by
        rcases (hk k (by omega) hwk).2 h2 with h | h
        · exact h
        · omega
      have := T.conflict (i := i) (k := k) (by omega) (by omega) hw hwk
      have := (hord k (by omega) (by omega) (.inr this)).1 hDk
      omega
    · rw [if_neg hw]
      refine I.gval c j hc hj fun k hkl hwk => ?_
      have hne : k ≠ i := fun e => hw (e ▸ hwk)
      have := hk k hkl hwk
      constructor
      · exact fun h => this.1 (.inl h)
      · intro h
        rcases this.2 h with h | h
        · exact h
        · exact absurd h hne
  · -- the relation
    constructor
    · exact G.domlt
    · exact G.lt
    · intro c l hc hg
      by_cases hw : Wr (σ i) (σ (i + 1)) (lg i) c
      · simp only [if_pos hw] at hg ⊢
        exact G.obj c l hc hw hg
      · simp only [if_neg hw] at hg ⊢
        have hcφ : φ c = some l := by
          rcases G.dom c l hc with h | ⟨_, h⟩
          · exact h
          · exact absurd (.inr h) hw
        obtain ⟨O, h1, h2⟩ := I.rel.obj c l hcφ hg
        refine ⟨O, ?_, h2.mono G.ext⟩
        rw [G.keep l.blk (I.rel.lt c l hcφ) fun c2 l2 h3 h4 h5 => ?_]
        · exact h1
        · have hne : c2 ≠ c := fun e => hw (.inl (e ▸ h5))
          exact I.rel.inj c2 c l2 l h3 hcφ (hlive c2 l2 h5 h3) hg hne h4
    · have mixed : ∀ c d l m, φ' c = some l → φ' d = some m → Wr (σ i) (σ (i + 1)) (lg i) c → ¬ Wr (σ i) (σ (i + 1)) (lg i) d → g d ≠ .gone → l.blk ≠ m.blk := by
        intro c d l m hc hd hwc hwd hgd
        have hdφ : φ d = some m := by
          rcases G.dom d m hd with h | ⟨_, h⟩
          · exact h
          · exact absurd (.inr h) hwd
        have hne : c ≠ d := fun e => hwd (e ▸ hwc)
        cases hx : φ c with
        | some l1 =>
          have hl1 : l1 = l := by have := G.ext c l1 hx; rw [hc] at this; exact (Option.some.inj this).symm
          subst hl1
          rcases hwc with hwc | hwc
          · exact I.rel.inj c d l1 m hx hdφ (hlive c l1 hwc hx) hgd hne
          · rw [hnew c hwc.1 hwc.2] at hx; cases hx
        | none =>
          rcases G.newl c l hx hc with h1 | ⟨c', l', k1, k2, k3, k4⟩
          · have := I.rel.lt d m hdφ; omega
          · have hne' : c' ≠ d := fun e => hwd (.inl (e ▸ k2))
            rw [← k3]
            exact I.rel.inj c' d l' m k1 hdφ (hlive c' l' k2 k1) hgd hne'
      intro c d l m hc hd hgc hgd hne
      by_cases hwc : Wr (σ i) (σ (i + 1)) (lg i) c
      · simp only [if_pos hwc] at hgc
        by_cases hwd : Wr (σ i) (σ (i + 1)) (lg i) d
        · simp only [if_pos hwd] at hgd
          exact G.inj c d l m hc hd hwc hwd hgc hgd hne
        · simp only [if_neg hwd] at hgd
          exact mixed c d l m hc hd hwc hwd hgd
      · simp only [if_neg hwc] at hgc
        by_cases hwd : Wr (σ i) (σ (i + 1)) (lg i) d
        · exact fun e => mixed d c m l hd hc hwd hwc hgc e.symm
        · simp only [if_neg hwd] at hgd
          have hcφ : φ c = some l := by
            rcases G.dom c l hc with h | ⟨_, h⟩
            · exact h
            · exact absurd (.inr h) hwc
          have hdφ : φ d = some m := by
            rcases G.dom d m hd with h | ⟨_, h⟩
            · exact h
            · exact absurd (.inr h) hwd
          exact I.rel.inj c d l m hcφ hdφ hgc hgd hne
  · exact Phi.le_trans I.ext G.ext
  · intro c l hc
    rcases G.dom c l hc with h | ⟨h1, h2, h3⟩
    · rcases I.dom c l h with h4 | ⟨h4, k, hk, hD, h5⟩
      · exact .inl h4
      · exact .inr ⟨h4, k, hk, .inl hD, h5⟩
    · exact .inr ⟨hnew0 c h2 h3, i, hi, .inr rfl, h2, h3⟩
  · -- where new blocks lie
    have stay : ∀ c' l', φ0 c' = some l' → g c' = .gone → (if Wr (σ i) (σ (i + 1)) (lg i) c' then (σ (i + 1)).h.get c' else g c') = .gone := by
      intro c' l' h1 h2
      rw [if_neg]
      · exact h2
      · rintro (h3 | h3)
        · exact hlive c' l' h3 (I.ext c' l' h1) h2
        · rw [hnew0 c' h3.1 h3.2] at h1; cases h1
    intro c l hn hs
    cases hx : φ c with
    | some l1 =>
      have hl1 : l1 = l := by have := G.ext c l1 hx; rw [hs] at this; exact (Option.some.inj this).symm
      subst hl1
      rcases I.newl c l1 hn hx with h1 | ⟨c', l', k1, k2, k3, k4, k5, k6⟩
      · exact .inl h1
      · exact .inr ⟨c', l', k1, k2, k3, k4, stay c' l' k1 k5, k6⟩
    | none =>
      rcases G.newl c l hx hs with h1 | ⟨c', l', k1, k2, k3, k4⟩
      · exact .inl (Nat.le_trans I.size h1)
      · cases hc0 : φ0 c' with
        | some l2 =>
          have hl2 : l2 = l' := by have := I.ext c' l2 hc0; rw [k1] at this; exact (Option.some.inj this).symm
          subst hl2
          have hlt0 := hlow c' l2 k2 hc0
          refine .inr ⟨c', l2, hc0, hlt0, fun h => ?_, k3, by rw [if_pos (.inl k2)]; exact k4, hlog c' k2⟩
          have := (T.astep (i := 0) (j := i) (by omega) (by omega)).gone T.wf c' hlt0 h
          exact (hsi.kind.log hwfi k2).2.1 this
        | none =>
          rcases I.newl c' l' hc0 k1 with h1 | ⟨c2, l2, m1, m2, m3, m4, m5, m6⟩
          · exact .inl (k3 ▸ h1)
          · exact .inr ⟨c2, l2, m1, m2, m3, m4.trans k3, stay c2 l2 m1 m5, m6⟩
  · intro β hβ hk
    rw [G.keep β (Nat.lt_of_lt_of_le hβ I.size) fun c l hc he hcl => ?_]
    · exact I.keep β hβ hk
    · cases hc0 : φ0 c with
      | some l2 =>
        have hl2 : l2 = l := by have := I.ext c l2 hc0; rw [hc] at this; exact (Option.some.inj this).symm
        subst hl2
        obtain ⟨h1, h2⟩ := hk c l2 (hlow c l2 hcl hc0) hc0 he
        exact h2 (hlog c hcl h1)
      | none =>
        rcases I.newl c l hc0 hc with h1 | ⟨c', l', m1, m2, m3, m4, m5, m6⟩
        · omega
        · obtain ⟨h1, h2⟩ := hk c' l' m2 m1 (m4.trans he)
          exact h2 (m6 h1)
  · exact Nat.le_trans I.size G.size
  · exact G.os.trans I.os
  · exact G.tape.trans I.tape
  · exact G.output.trans I.output
  · rw [hdef]; exact I.drel.mono G.ext
end
end
end Go.Ai

namespace Go.Ai
open Go
set_option linter.unusedVariables false
set_option linter.unusedSectionVars false

section
variable {P : Program}
theorem opnd_relX {φ : Phi} {y : Lay} {env : List AV} {r : R3} {a : Act} (hg : GRel P φ) (x : Operand) (hx : ∀ t, x = .tmp t → VRel φ ((tmpC y t).get env r) (a.tmps.getD t undef)) : VRel φ ((opnd P y x).get env r) (a.eval x) := by
  cases x with
  | tmp t => exact hx t rfl
  | const v =>
    simp only [opnd]
    cases hv : ofV v with
    | none => exact .any
    | some c => exact ofV_rel hv φ
  | global g =>
    simp only [opnd]
    cases hb : Nat.blt g P.globals.size with
    | false => exact .any
    | true =>
      obtain ⟨sz, hs⟩ := hg g (Nat.le_of_ble_eq_true hb)
      simpa [Act.eval] using VRel.ptr (o := 0) hs
  | func f => exact .func (a' := []) (c' := []) .func .nil .nil
theorem mem_tmpsOf {t : Nat} {l : List Operand} (h : Operand.tmp t ∈ l) : t ∈ tmpsOf l := by
  unfold tmpsOf
  exact List.mem_filterMap.2 ⟨.tmp t, h, rfl⟩
section
variable {ops : Array Oper} {σ : Nat → St} {lg : Nat → List Nat} {n : Nat} {b : Base} {ds : DS} {φ0 : Phi} {w0 : World} {D : Nat → Prop} {φ : Phi} {g : Nat → AObj} {w : World} {a : Act}
/-- operations that are in an order with one that is ready -/
theorem Tr.ready (T : Tr P ops σ lg n) {i : Nat} {o : Oper} (ho : ops[i]? = some o) (hDi : ¬ D i) (hcl : ClosedD ops.toList D) (hpre : ∀ e ∈ o.after.toList, anyEdge e = true → D e.on) :
    ∀ k, k < ops.size → k ≠ i → (ordered (masks ops.toList []) k i = true ∨ ordered (masks ops.toList []) i k = true) → (D k ↔ k < i) := by
  intro k hk hne h
  have key : Pre ops.toList k i ∨ Pre ops.toList i k := by
    rcases h with h | h
    · exact ordered_spec h
    · exact (ordered_spec h).symm
  rcases key with h | h
  · have h1 := h.lt T.edges
    have h2 : D k := h.closed hcl fun o' e ho' he ha => by
      rw [opers_list ho] at ho'
      cases ho'
      exact hpre e he ha
    exact ⟨fun _ => h1, fun _ => h2⟩
  · have h1 := h.lt T.edges
    constructor
    · intro hD
      exact absurd (h.closed hcl fun o' e ho' he ha => hcl k o' e ho' hD he ha) hDi
    · intro h2; omega
/-- the temporaries that an operation names -/
theorem Inv.named (T : Tr P ops σ lg n) (I : Inv ops σ lg n b ds φ0 w0 D φ g w a) {i : Nat} {o : Oper} (ho : ops[i]? = some o) (hDi : ¬ D i)
    (hord : ∀ k, k < ops.size → k ≠ i → (ordered (masks ops.toList []) k i = true ∨ ordered (masks ops.toList []) i k = true) → (D k ↔ k < i))
    {t : Nat} (ht : t ∈ namesOf ops.toList o) : VRel φ ((σ i).val t) (a.tmps.getD t undef) := by
  have hi := opers_lt ho
  refine I.tval t i (by omega) fun k ok hok hd => ?_
  by_cases e : k = i
  · subst e
    constructor
    · exact fun h => absurd h hDi
    · intro h; omega
  · exact hord k (opers_lt hok) e (.inl (tmpsApart_spec T.apart (opers_list ho) (opers_list hok) hd ht e))
theorem Act.put_getD {a : Act} {d : Option Tmp} {cv : Value} {t : Nat} (hd : ∀ x, d = some x → x < a.tmps.size) : (a.put d cv).tmps.getD t undef = if d = some t then cv else a.tmps.getD t undef := by
  cases d with
  | none => simp [Act.put]
  | some d =>
    have hdn := hd d rfl
    simp only [Act.put, Array.getD_eq_getD_getElem?]
    by_cases e : d = t
    · subst e
      rw [if_pos rfl, Array.getElem?_setIfInBounds_self_of_lt hdn]; rfl
    · rw [if_neg (by simpa using e), Array.getElem?_setIfInBounds_ne e]
/-- the temporaries behind an operation -/
theorem Inv.tmps (T : Tr P ops σ lg n) (I : Inv ops σ lg n b ds φ0 w0 D φ g w a) {i : Nat} {o : Oper} (ho : ops[i]? = some o) (hDi : ¬ D i)
    (hord : ∀ k, k < ops.size → k ≠ i → (ordered (masks ops.toList []) k i = true ∨ ordered (masks ops.toList []) i k = true) → (D k ↔ k < i))
    {v : AV} (hs : Sk P ops.toList (masks ops.toList []) i o (σ i) (σ (i + 1)) (lg i) v) {φ' : Phi} (hφ : φ.le φ') {cv : Value} (hv : VRel φ' v cv) :
    (a.put o.dst cv).tmps.size = n ∧ (a.put o.dst cv).defers = a.defers ∧
    ∀ t j, j ≤ ops.size → (∀ k o, ops[k]? = some o → o.dst = some t → ((D k ∨ k = i) ↔ k < j)) → VRel φ' ((σ j).val t) ((a.put o.dst cv).tmps.getD t undef) := by
  have hi := opers_lt ho
  have hni := T.nk i (by omega)
  refine ⟨?_, ?_, fun t j hj hk => ?_⟩
  · cases o.dst with
    | none => exact I.tsize
    | some d => simp [Act.put, I.tsize]
  · cases o.dst <;> rfl
  · rw [Act.put_getD fun d hd => by rw [I.tsize, ← hni]; exact hs.dlt d hd]
    by_cases hd : o.dst = some t
    · rw [if_pos hd]
      have hij : i < j := (hk i o ho hd).1 (.inr rfl)
      have hval : (σ j).val t = v := by
        rw [T.val (i := i + 1) (j := j) (by omega) hj fun k ok hok h1 h2 hdk => ?_, hs.val (by rw [hni]; exact T.le), if_pos hd]
        have hDk : D k := by
          rcases (hk k ok hok hdk).2 h2 with h | h
          · exact h
          · omega
        have hnm : t ∈ namesOf ops.toList o := by simp [namesOf, hd]
        have := (hord k (by omega) (by omega) (.inl (tmpsApart_spec T.apart (opers_list ho) (opers_list hok) hdk hnm (by omega)))).1 hDk
        omega
      rw [hval]; exact hv
    · rw [if_neg hd]
      refine (I.tval t j hj fun k ok hok hdk => ?_).mono hφ
      have hne : k ≠ i := fun e => by subst e; rw [ho] at hok; cases hok; exact hd hdk
      have := hk k ok hok hdk
      constructor
      · exact fun h => this.1 (.inl h)
      · intro h
        rcases this.2 h with h | h
        · exact h
        · exact absurd h hne
/-- a block that lies where it lay: it was not made by an operation that is not done -/
theorem Inv.made (T : Tr P ops σ lg n) (hwin : Win φ0 (σ 0).h (σ ops.size).h) (I : Inv ops σ lg n b ds φ0 w0 D φ g w a) {c : Nat} {l : Loc} (hc : φ c = some l) {k : Nat} (hk : k < ops.size)
    (hr : (σ k).h.next ≤ c ∧ c < (σ (k + 1)).h.next) : D k := by
  rcases I.dom c l hc with h | ⟨_, k', hk', hD, h1, h2⟩
  · have e1 := T.next (i := 0) (j := k) (by omega) (by omega)
    have e2 := T.next (i := k + 1) (j := ops.size) (by omega) (by omega)
    have := hwin c (by omega) (by omega)
    rw [this] at h; cases h
  · have := T.range hk hk' hr ⟨h1, h2⟩
    subst this
    exact hD
/-- an operation that is wanted, and one that is not -/
theorem Inv.wanted (T : Tr P ops σ lg n) (I : Inv ops σ lg n b ds φ0 w0 D φ g w a) {i : Nat} {o : Oper} (ho : ops[i]? = some o) (hDi : ¬ D i)
    (hord : ∀ k, k < ops.size → k ≠ i → (ordered (masks ops.toList []) k i = true ∨ ordered (masks ops.toList []) i k = true) → (D k ↔ k < i)) :
    (Wanted ops.toList o (σ i) → Region.wanted o (yielded ops a.tmps) = true) ∧ (Unwanted ops.toList o (σ i) → Region.wanted o (yielded ops a.tmps) = false) := by
  have nm : ∀ gj want gt, o.guard = some (gj, want) → (ops.toList[gj]?).bind (·.dst) = some gt → (ops[gj]?).bind (·.dst) = some gt ∧ VRel φ ((σ i).val gt) (a.tmps.getD gt undef) := by
    intro gj want gt h1 h2
    refine ⟨by rw [Array.getElem?_toList] at h2; exact h2, I.named T ho hDi hord ?_⟩
    simp only [namesOf, guardT, h1, h2]
    simp
  constructor
  · rintro (h | ⟨gj, want, gt, h1, h2, h3⟩)
    · exact wanted_none h _
    · obtain ⟨h4, h5⟩ := nm gj want gt h1 h2
      rw [h3] at h5
      generalize hv : a.tmps.getD gt undef = v at h5
      cases h5
      simp [Region.wanted, h1, yielded_bool h4 hv]
  · rintro ⟨gj, want, gt, h1, h2, h3⟩
    obtain ⟨h4, h5⟩ := nm gj want gt h1 h2
    rcases h3 with h3 | ⟨bb, h3, h6⟩
    · rw [h3] at h5
      generalize hv : a.tmps.getD gt undef = v at h5
      cases h5 with
      | tuple h =>
        cases h
        simp [Region.wanted, h1, yielded_none h4 hv]
    · rw [h3] at h5
      generalize hv : a.tmps.getD gt undef = v at h5
      cases h5
      simp [Region.wanted, h1, yielded_bool h4 hv, h6]
/-- one operation, whatever came before it -/
theorem Inv.step (T : Tr P ops σ lg n) (hwin : Win φ0 (σ 0).h (σ ops.size).h) (hgr : GRel P φ0) (I : Inv ops σ lg n b ds φ0 w0 D φ g w a) {i : Nat} {o : Oper} (ho : ops[i]? = some o) (hDi : ¬ D i)
    (hcl : ClosedD ops.toList D) (hpre : ∀ e ∈ o.after.toList, anyEdge e = true → D e.on) (hnd : ∀ c, o.op ≠ .defer c) :
    ∃ φ' g' w' a', (∀ rest k cs, Steps P (lone (b.at a (.inRegion ops (i :: rest) :: k)) cs w) (lone (b.at a' (.inRegion ops rest :: k)) cs w')) ∧
      Inv ops σ lg n b ds φ0 w0 (fun k => D k ∨ k = i) φ' g' w' a' := by
  have hi := opers_lt ho
  have hord := T.ready ho hDi hcl hpre
  have hwfi := T.wfk i (by omega)
  have hg := hgr.mono I.ext
  obtain ⟨hwant, hunw⟩ := I.wanted T ho hDi hord
  obtain ⟨v, hs⟩ := T.sk i o ho
  have hop : OpsRel P φ (σ i).y (σ i).env (σ i).r a o := fun x hx => opnd_relX hg x fun t e => by
    subst e
    refine I.named T ho hDi hord ?_
    simp only [namesOf, List.mem_append]
    exact .inl (.inr (mem_tmpsOf hx))
  -- an operation that leaves memory alone
  have quiet : ∀ cv, VRel φ v cv → (σ (i + 1)).h = (σ i).h → lg i = [] → (∀ rest k cs, Steps P (lone (b.at a (.inRegion ops (i :: rest) :: k)) cs w) (lone (b.at (a.put o.dst cv) (.inRegion ops rest :: k)) cs w)) →
      ∃ φ' g' w' a', (∀ rest k cs, Steps P (lone (b.at a (.inRegion ops (i :: rest) :: k)) cs w) (lone (b.at a' (.inRegion ops rest :: k)) cs w')) ∧
        Inv ops σ lg n b ds φ0 w0 (fun k => D k ∨ k = i) φ' g' w' a' := by
    intro cv hv hh hl hst
    obtain ⟨t1, t2, t3⟩ := I.tmps T ho hDi hord hs (Phi.le_refl φ) hv
    refine ⟨φ, _, w, a.put o.dst cv, hst, I.merge T hwin hi hDi hord ?_ (fun c l hc _ => by rw [hl] at hc; cases hc) t1 t2 t3⟩
    rw [hl, hh]
    exact Gst.refl I.rel _ _
  cases hs.kind with
  | skip hgd hv hh hl =>
    refine quiet undef (by rw [hv]; exact .undef) hh hl fun rest k cs => .one ?_
    have := st_op_skip (P := P) (b := b) (a := a) (k := k) (cs := cs) (w := w) (ops := ops) (i := i) (rest := rest) (by simp [ho, hunw hgd])
    rw [ho] at this
    exact this
  | pure hgd hc hs' hh hl =>
    obtain ⟨cv, h1, h2⟩ := hs' φ a w hop
    exact quiet cv h2 hh hl fun rest k cs => .one (st_op_value ho (hwant hgd) (.inr hnd) h1)
  | @load ty t c of hgd hop' hb hn hs' hh hl =>
    have hpv := I.named T ho hDi hord (t := t) (by
      simp only [namesOf, List.mem_append]
      exact .inl (.inr (mem_tmpsOf (by simp [hop', Op.operands]))))
    rw [hb] at hpv
    have hφc : ∃ l, φ c = some l := by
      generalize a.tmps.getD t undef = cv at hpv
      cases hpv with
      | ptr h => exact ⟨_, h⟩
    obtain ⟨l, hφc⟩ := hφc
    have hcm := I.rel.dom c l hφc
    have hcn : c < (σ i).h.next := by
      rcases Nat.lt_or_ge c (σ i).h.next with h | h
      · exact h
      · exact absurd (hwfi.gone c h hcm) hn
    have hgc : g c = (σ i).h.get c := by
      refine I.gval c i hcm (by omega) fun k hk hwk => ?_
      by_cases e : k = i
      · subst e
        constructor
        · exact fun h => absurd h hDi
        · intro h; omega
      · by_cases ho1 : ordered (masks ops.toList []) k i = true ∨ ordered (masks ops.toList []) i k = true
        · exact hord k hk e ho1
        · have ho1' : ordered (masks ops.toList []) i k = false := by
            cases h : ordered (masks ops.toList []) i k with
            | false => rfl
            | true => exact absurd (.inr h) ho1
          obtain ⟨ok, hok⟩ := opers_get hk
          -- it is not among what that one writes
          have nolog : c ∈ lg k → False := by
            intro hck
            obtain ⟨r, ha, hko⟩ := T.keep hok ho (fun x => e x.symm) ho1' hck
            unfold KeepOk at hko
            have hcl' : clsOf P o = .load t := by simp only [clsOf, hop']
            rw [hcl'] at hko
            rcases hko with hko | ⟨hd, hu⟩
            · cases hko
            · have hvk : (σ k).val t = .ptr c of := by
                rcases Nat.lt_or_ge i k with hik | hik
                · rw [if_pos hik] at hu
                  rw [T.val (i := i) (j := k) (by omega) (by omega) fun x ox hox h1 h2 => unwritten_spec hu (opers_list hox) h1 h2, hb]
                · rw [if_neg (by omega)] at hu
                  rw [← T.val (i := k) (j := i) (by omega) (by omega) fun x ox hox h1 h2 => unwritten_spec hu (opers_list hox) h1 h2, hb]
              obtain ⟨x, hx, hx2⟩ := apartL_spec ha hd
              have hx' : blkOf ((σ k).val t) = some x := hx
              rw [hvk] at hx'
              exact hx2 c (Option.some.inj hx').symm hck
          rcases hwk with hwk | hwk
          · exact (nolog hwk).elim
          · have hDk := I.made T hwin hφc hk hwk
            refine ⟨fun _ => ?_, fun _ => hDk⟩
            rcases Nat.lt_or_ge k i with h | h
            · exact h
            · have := T.next (i := i) (j := k) (by omega) (by omega); omega
    obtain ⟨cv, h1, h2⟩ := hs' φ a w g hop I.rel hgc
    exact quiet cv h2 hh hl fun rest k cs => .one (st_op_value ho (hwant hgd) (.inr hnd) h1)
  | @alloc d ob hgd hc hlt hs' hb hh hl =>
    obtain ⟨cv, O, sz, w', h1, h2, h3, h4, h5, h6, h7⟩ := hs' φ a w hop
    have hnext : (σ (i + 1)).h.next = (σ i).h.next + 1 := by rw [hh]; rfl
    have hn : φ (σ i).h.next = none := by
      cases hx : φ (σ i).h.next with
      | none => rfl
      | some l => exact absurd (I.made T hwin hx hi ⟨Nat.le_refl _, by omega⟩) hDi
    have G := Gst.alloc (H' := (σ (i + 1)).h.get) I.rel hn hlt (by rw [hh]; exact H.get_push_new _ _) h2 h3 h4 h5 h6
    have hv := h7 _ G.ext (Phi.put_same _ _ _)
    obtain ⟨t1, t2, t3⟩ := I.tmps T ho hDi hord hs G.ext hv
    refine ⟨_, _, w', a.put o.dst cv, fun rest k cs => ?_, I.merge T hwin hi hDi hord (by rw [hnext, hl]; exact G) (fun c l hc _ => by rw [hl] at hc; cases hc) t1 t2 t3⟩
    rcases h1 with h1 | ⟨h1, rfl⟩
    · exact .one (st_op_value ho (hwant hgd) (.inr hnd) h1)
    · exact .one (st_op_skipped ho (hwant hgd) (.inr hnd) h1)
  | @busy h2 hgd hc hs' hl hh hk =>
    -- all blocks are as they are in the text's order
    have hsame : ∀ c l, φ c = some l → (σ i).h.get c ≠ .gone → (σ i).h.get c = g c := by
      intro c l hφc hn
      have hcm := I.rel.dom c l hφc
      have hcn : c < (σ i).h.next := by
        rcases Nat.lt_or_ge c (σ i).h.next with h | h
        · exact h
        · exact absurd (hwfi.gone c h hcm) hn
      refine (I.gval c i hcm (by omega) fun k hk hwk => ?_).symm
      by_cases e : k = i
      · subst e
        constructor
        · exact fun h => absurd h hDi
        · intro h; omega
      · by_cases ho1 : ordered (masks ops.toList []) k i = true ∨ ordered (masks ops.toList []) i k = true
        · exact hord k hk e ho1
        · have ho1' : ordered (masks ops.toList []) i k = false := by
            cases h : ordered (masks ops.toList []) i k with
            | false => rfl
            | true => exact absurd (.inr h) ho1
          obtain ⟨ok, hok⟩ := opers_get hk
          rcases hwk with hwk | hwk
          · exfalso
            obtain ⟨r, ha, hko⟩ := T.keep hok ho (fun x => e x.symm) ho1' hwk
            unfold KeepOk at hko
            rw [hc] at hko
            cases hko
          · have hDk := I.made T hwin hφc hk hwk
            refine ⟨fun _ => ?_, fun _ => hDk⟩
            rcases Nat.lt_or_ge k i with h | h
            · exact h
            · have := T.next (i := i) (j := k) (by omega) (by omega); omega
    have hr : RelF φ (σ i).h.watch.get w := I.rel.weaken fun c l hc hn => hsame c l hc hn
    have hnext : (σ (i + 1)).h.next = h2.next := by rw [hh]
    have hw2 : Win φ (σ i).h.watch h2 := by
      intro c h1 h2'
      cases hx : φ c with
      | none => rfl
      | some l => exact absurd (I.made T hwin hx hi ⟨h1, by omega⟩) hDi
    obtain ⟨cv, w', φ', h3, h4, h5⟩ := hs'.2 φ a w hop hr hg hw2
    have hget : ∀ c, (σ (i + 1)).h.get c = h2.get c := fun c => by rw [hh]; rfl
    have G := Gst.of_step (H' := (σ (i + 1)).h.get) hwfi h5 hget
    obtain ⟨t1, t2, t3⟩ := I.tmps T ho hDi hord hs G.ext h4
    refine ⟨φ', _, w', a.put o.dst cv, fun rest k cs => h3.step ho (hwant hgd) (.inr hnd), I.merge T hwin hi hDi hord (by rw [hnext, hl]; exact G) (fun c l hc' hφc => ?_) t1 t2 t3⟩
    have hne := (hs.kind.log hwfi hc').2.1
    rw [← hsame c l hφc hne]
    exact hne
end
end
end Go.Ai

namespace Go.Ai
open Go
set_option linter.unusedVariables false
set_option linter.unusedSectionVars false

section
variable {P : Program}
theorem binds_any (e : Edge) : Region.binds .any e = anyEdge e := by
  unfold Region.binds anyEdge
  cases e.ground <;> rfl
theorem Inv.congr {ops : Array Oper} {σ : Nat → St} {lg : Nat → List Nat} {n : Nat} {b : Base} {ds : DS} {φ0 : Phi} {w0 : World} {D D' : Nat → Prop} {φ : Phi} {g : Nat → AObj} {w : World} {a : Act}
    (I : Inv ops σ lg n b ds φ0 w0 D φ g w a) (h : ∀ k, k < ops.size → (D k ↔ D' k)) : Inv ops σ lg n b ds φ0 w0 D' φ g w a where
  tsize := I.tsize
  tval t j hj hk := I.tval t j hj fun k o ho hd => (h k (opers_lt ho)).trans (hk k o ho hd)
  gval c j hc hj hk := I.gval c j hc hj fun k hkl hw => (h k hkl).trans (hk k hkl hw)
  rel := I.rel
  ext := I.ext
  dom c l hc := by
    rcases I.dom c l hc with h1 | ⟨h1, k, hk, hD, h2⟩
    · exact .inl h1
    · exact .inr ⟨h1, k, hk, (h k hk).1 hD, h2⟩
  newl := I.newl
  keep := I.keep
  size := I.size
  os := I.os
  tape := I.tape
  output := I.output
  drel := I.drel
def Listed (listed : Array Bool) (k : Nat) : Prop := listed[k]? = some true
/-- the operations, in whatever order is drawn -/
theorem Inv.run {ops : Array Oper} {σ : Nat → St} {lg : Nat → List Nat} {n : Nat} {b : Base} {ds : DS} {φ0 : Phi} {w0 : World} (T : Tr P ops σ lg n) (hwin : Win φ0 (σ 0).h (σ ops.size).h) (hgr : GRel P φ0)
    (hnd : ∀ (k : Nat) (o : Oper), ops[k]? = some o → ∀ c, o.op ≠ .defer c) : ∀ (fuel t : Nat) (listed : Array Bool) (φ : Phi) (g : Nat → AObj) (w : World) (a : Act), listed.size = ops.size → listed.toList.count false ≤ fuel →
    ClosedD ops.toList (Listed listed) → Inv ops σ lg n b ds φ0 w0 (Listed listed) φ g w a →
    ∃ φ' g' w' a', (∀ k cs, Steps P (lone (b.at a (.inRegion ops (Region.linearise.go .any ops fuel t listed []) :: k)) cs w) (lone (b.at a' k) cs w')) ∧ Inv ops σ lg n b ds φ0 w0 (fun _ => True) φ' g' w' a' := by
  intro fuel
  induction fuel with
  | zero =>
    intro t listed φ g w a hsz hcnt hcl I
    refine ⟨φ, g, w, a, fun k cs => .one st_region_end, I.congr fun k hk => ⟨fun _ => trivial, fun _ => ?_⟩⟩
    have h0 : listed.toList.count false = 0 := by omega
    have hk' : k < listed.size := by omega
    unfold Listed
    rw [Array.getElem?_eq_getElem hk']
    cases hb : listed[k] with
    | true => rfl
    | false =>
      have : false ∈ listed.toList := by rw [← hb]; simp
      exact absurd (List.count_pos_iff.2 this) (by omega)
  | succ fuel ih =>
    intro t listed φ g w a hsz hcnt hcl I
    have hgo : Region.linearise.go .any ops (fuel + 1) t listed [] = (match (Region.ready .any ops listed)[t % (Region.ready .any ops listed).length]? with
      | some i => Region.linearise.go .any ops fuel (t / (Region.ready .any ops listed).length) (listed.setIfInBounds i true) [i]
      | none => []) := rfl
    rw [hgo]
    have mem_ready : ∀ i, i ∈ Region.ready .any ops listed ↔ i < ops.size ∧ listed.getD i true = false ∧ ((ops[i]?).map (·.after.all fun e => !Region.binds .any e || listed.getD e.on false)).getD false = true := by
      intro i
      simp [Region.ready, List.mem_filter]
    cases hr : (Region.ready .any ops listed)[t % (Region.ready .any ops listed).length]? with
    | none =>
      -- nothing is left
      have hnil : Region.ready .any ops listed = [] := by
        cases hx : Region.ready .any ops listed with
        | nil => rfl
        | cons x xs =>
          exfalso
          rw [hx] at hr
          have := List.getElem?_eq_none_iff.1 hr
          have h2 := Nat.mod_lt t (y := (x :: xs).length) (by simp)
          omega
      refine ⟨φ, g, w, a, fun k cs => .one st_region_end, I.congr fun k hk => ⟨fun _ => trivial, fun _ => ?_⟩⟩
      revert hk
      induction k using Nat.strongRecOn with
      | _ k ihk =>
        intro hk
        cases hb : listed.getD k true with
        | true =>
          unfold Listed
          have hk' : k < listed.size := by omega
          rw [Array.getElem?_eq_getElem hk']
          simpa [Array.getD_eq_getD_getElem?, hk'] using hb
        | false =>
          exfalso
          obtain ⟨o, ho⟩ := opers_get hk
          have : k ∈ Region.ready .any ops listed := by
            refine (mem_ready k).2 ⟨hk, hb, ?_⟩
            rw [ho]
            simp only [Option.map_some, Option.getD_some, Array.all_eq_true_iff_forall_mem]
            intro e he
            rw [binds_any]
            cases ha : anyEdge e with
            | false => rfl
            | true =>
              have hlt := edgesOk_spec T.edges (opers_list ho) (by simpa using he) ha
              have := ihk e.on hlt (by omega)
              unfold Listed at this
              simp [Array.getD_eq_getD_getElem?, this]
          rw [hnil] at this
          cases this
    | some i =>
      have hmem := (mem_ready i).1 (List.mem_of_getElem? hr)
      obtain ⟨hi, hunl, hedges⟩ := hmem
      obtain ⟨o, ho⟩ := opers_get hi
      rw [ho] at hedges
      simp only [Option.map_some, Option.getD_some, Array.all_eq_true_iff_forall_mem] at hedges
      have hpre : ∀ e ∈ o.after.toList, anyEdge e = true → Listed listed e.on := by
        intro e he ha
        have := hedges e (by simpa using he)
        rw [binds_any, ha] at this
        simp only [Bool.not_true, Bool.false_or] at this
        unfold Listed
        rw [Array.getD_eq_getD_getElem?] at this
        cases hx : listed[e.on]? with
        | none => rw [hx] at this; cases this
        | some v => rw [hx] at this; simp at this; rw [this]
      have hil : i < listed.size := by omega
      have hli : listed[i] = false := by simpa [Array.getD_eq_getD_getElem?, hil] using hunl
      have hDi : ¬ Listed listed i := by
        unfold Listed
        rw [Array.getElem?_eq_getElem hil, hli]
        simp
      obtain ⟨φ1, g1, w1, a1, s1, I1⟩ := I.step T hwin hgr ho hDi hcl hpre (hnd i o ho)
      have hl' : ∀ k, Listed (listed.setIfInBounds i true) k ↔ (Listed listed k ∨ k = i) := by
        intro k
        unfold Listed
        by_cases e : k = i
        · subst e
          rw [Array.getElem?_setIfInBounds_self_of_lt hil]; simp
        · rw [Array.getElem?_setIfInBounds_ne (fun x => e x.symm)]; simp [e]
      have hcnt' : (listed.setIfInBounds i true).toList.count false ≤ fuel := by
        have h1 := List.count_set (a := true) (b := false) (l := listed.toList) (i := i) (by simpa using hil)
        simp only [Array.toList_setIfInBounds]
        have h2 : listed.toList[i]'(by simpa using hil) = false := by simpa using hli
        have h3 : false ∈ listed.toList := by rw [← h2]; exact List.getElem_mem _
        have h4 := List.count_pos_iff.2 h3
        have h5 : (listed.toList[i]'(by simpa using hil) == false) = true := by rw [h2]; rfl
        rw [h1, if_pos h5, if_neg (by decide)]
        omega
      have hcl' : ClosedD ops.toList (Listed (listed.setIfInBounds i true)) := by
        intro j oj e hoj hj he ha
        rw [hl'] at hj ⊢
        rcases hj with hj | hj
        · exact .inl (hcl j oj e hoj hj he ha)
        · subst hj
          rw [opers_list ho] at hoj
          cases hoj
          exact .inl (hpre e he ha)
      obtain ⟨φ2, g2, w2, a2, s2, I2⟩ := ih (t / (Region.ready .any ops listed).length) (listed.setIfInBounds i true) φ1 g1 w1 a1 (by simpa using hsz) hcnt' hcl' (I1.congr fun k _ => (hl' k).symm)
      refine ⟨φ2, g2, w2, a2, fun k cs => ?_, I2⟩
      simp only
      rw [linearise_go_acc, List.reverse_singleton, List.singleton_append]
      exact (s1 _ k cs).trans (s2 k cs)
theorem trace_astep {ops : Array Oper} {σ : Nat → St} {lg : Nat → List Nat} (sk : ∀ k o, ops[k]? = some o → ∃ v, Sk P ops.toList (masks ops.toList []) k o (σ k) (σ (k + 1)) (lg k) v) (wf : (σ 0).h.WF) :
    ∀ k, k ≤ ops.size → AStep (σ 0).h (σ k).h := by
  intro k
  induction k with
  | zero => exact fun _ => AStep.refl _
  | succ k ih =>
    intro hk
    obtain ⟨o, ho⟩ := opers_get (ops := ops) (k := k) (by omega)
    obtain ⟨v, hs⟩ := sk k o ho
    exact (ih (by omega)).trans (hs.kind.astep ((ih (by omega)).wf wf))
/-- a region that draws its order -/
theorem cmd_drawn (hm : P.follows .mixedOrders = true) {vm n id : Nat} {ops : Array Oper} : CmdOk P vm n (.region id ops true) (comp P vm n (.region id ops true)) := fun e hE r ds h hwf => by
  show ResOk P ⟨vm, n, []⟩ ⟨vm, n, []⟩ [] r ds h [.code (.region id ops true)] ((regionC P vm n ops.toList true).run e [] r ds h)
  simp only [regionC]
  cases hc : (edgesOk ops.toList && tmpsApart ops.toList (masks ops.toList []) && noDefer ops.toList) with
  | false => trivial
  | true =>
    simp only [Bool.and_eq_true] at hc
    obtain ⟨⟨hc1, hc2⟩, hc3⟩ := hc
    simp only
    rcases opsC_trace hE (ms := masks ops.toList []) hc3 ops.toList 0 ⟨vm, n, []⟩ [] r ds h hwf (by simp) with ⟨w, hw⟩ | ⟨σ, lg, k1, k2, k3⟩
    · rw [hw]; trivial
    · rw [k3]
      have hlen : 0 + ops.toList.length = ops.size := by simp
      rw [hlen]
      -- the bound on the temporaries comes with them
      by_cases hn : n ≤ 512
      · have T : Tr P ops σ lg n := ⟨fun k o ho => k2 k o (Nat.zero_le k) (opers_list ho), by rw [k1]; exact hwf, by rw [k1], hn, hc1, hc2⟩
        have hnd : ∀ (k : Nat) (o : Oper), ops[k]? = some o → ∀ c, o.op ≠ .defer c := by
          intro k o ho c hcc
          have := List.all_eq_true.1 hc3 o (List.mem_of_getElem? (opers_list ho))
          rw [hcc] at this
          cases this
        have hast := T.astep (Nat.zero_le ops.size) (Nat.le_refl _)
        refine ⟨by rw [k1] at hast; exact hast, fun b φ a w hl hd hr hg win => ?_⟩
        have hwin : Win φ (σ 0).h (σ ops.size).h := by rw [k1]; exact win
        have I0 : Inv ops σ lg n b ds φ w (fun _ => False) φ (σ 0).h.get w a := by
          refine ⟨by rw [hl.size], fun t j hj hk => ?_, fun c j hc hj hk => ?_, by rw [k1]; exact hr, Phi.le_refl _, fun c l h => .inl h, fun c l h h' => (by rw [h] at h'; cases h'), fun _ _ _ => rfl, Nat.le_refl _, rfl, rfl, rfl, hd⟩
          · have e : (σ j).val t = (σ 0).val t := T.val (Nat.zero_le j) hj fun k o ho _ h2 h3 => ((hk k o ho h3).2 h2).elim
            rw [e, k1]
            exact hl.val t
          · exact (T.same hc (Nat.zero_le j) hj fun k _ h2 h3 => ((hk k (by omega) h3).2 h2).elim).symm
        obtain ⟨φ', g', w', a', s, I⟩ := Inv.run (t := w.tape w.drawn (.order b.fn id)) T hwin hg hnd ops.size (Array.replicate ops.size false) φ (σ 0).h.get { w with drawn := w.drawn + 1 } a (by simp) (by simp)
          (fun j o e ho hj => by unfold Listed at hj; simp [Array.getElem?_replicate] at hj) (by
            have I0' : Inv ops σ lg n b ds φ w (fun _ => False) φ (σ 0).h.get { w with drawn := w.drawn + 1 } a :=
              ⟨I0.tsize, I0.tval, I0.gval, I0.rel.world rfl, I0.ext, I0.dom, I0.newl, I0.keep, I0.size, I0.os, I0.tape, I0.output, I0.drel⟩
            exact I0'.congr fun k hk => ⟨fun h => h.elim, fun h => by unfold Listed at h; simp [Array.getElem?_replicate] at h⟩)
        have hget : ∀ c, c < maxBlocks → g' c = (σ ops.size).h.get c := fun c hc => I.gval c ops.size hc (Nat.le_refl _) fun k hk _ => ⟨fun _ => hk, fun _ => trivial⟩
        have hrel : RelF φ' (σ ops.size).h.get w' := I.rel.weaken fun c l hc _ => (hget c (I.rel.dom c l hc)).symm
        refine ⟨a', w', φ', fun k cs => .head (st_region_draw hm) (s k cs), ?_, I.drel, ?_⟩
        · have hL : LRel φ' (σ ops.size).y (σ ops.size).env (σ ops.size).r a'.tmps := by
            have hnk := T.nk ops.size (Nat.le_refl _)
            exact ⟨by rw [hnk]; exact I.tsize, by rw [hnk]; exact hn, fun t => I.tval t ops.size (Nat.le_refl _) fun k o ho _ => ⟨fun _ => opers_lt ho, fun _ => trivial⟩⟩
          have := hL.drop
          rw [T.vmk ops.size (Nat.le_refl _), T.nk ops.size (Nat.le_refl _), k1] at this
          exact this
        · have hst : Step φ (σ 0).h w φ' (σ ops.size).h w' := by
            refine ⟨I.ext, fun c l hc => ?_, fun c l h1 h2 => ?_, hrel, I.keep, I.size, I.os, I.tape, I.output⟩
            · rcases I.dom c l hc with h1 | ⟨h1, k, hk, _, h2, h3⟩
              · exact .inl h1
              · have e1 := T.next (i := 0) (j := k) (by omega) (by omega)
                have e2 := T.next (i := k + 1) (j := ops.size) (by omega) (by omega)
                exact .inr ⟨h1, by omega, by omega⟩
            · rcases I.newl c l h1 h2 with h3 | ⟨c', l', m1, m2, m3, m4, m5, m6⟩
              · exact .inl h3
              · exact .inr ⟨c', l', m1, m2, m3, m4, by rw [← hget c' (hr.dom c' l' m1)]; exact m5, m6⟩
          rw [k1] at hst
          exact hst
      · have hast := trace_astep (ops := ops) (fun k o ho => k2 k o (Nat.zero_le k) (opers_list ho)) (by rw [k1]; exact hwf) ops.size (Nat.le_refl _)
        rw [k1] at hast
        exact ⟨hast, fun b φ a w hl hd hr hg win => absurd hl.le hn⟩
end
end Go.Ai

namespace Go.Ai
open Go
set_option linter.unusedVariables false
set_option linter.unusedSectionVars false

section
variable {P : Program}
theorem comp_ok (hm : P.follows .mixedOrders = true) (c : Code) : ∀ vm n, CmdOk P vm n c (comp P vm n c) := by
  induction c with
  | skip => exact fun vm n => cmd_skip
  | region id ops draw =>
    intro vm n
    cases draw with
    | true => exact cmd_drawn hm
    | false => exact cmd_region
  | seq a b iha ihb => exact fun vm n => cmd_seq (iha vm n) (ihb vm n)
  | cond x a b iha ihb => exact fun vm n => cmd_cond (iha vm n) (ihb vm n)
  | block id a ih => exact fun vm n => cmd_block (ih vm n)
  | loop a ih => exact fun vm n => cmd_loop (ih vm n)
  | rangeFunc f ps as bd => exact fun vm n => cmd_rangeFunc
  | exit id => exact fun vm n => cmd_exit
  | scope a ih => exact fun vm n => cmd_scope (ih vm n)
  | label l => exact fun vm n => cmd_label
  | goto l => exact fun vm n e hE r ds h hwf => trivial
  | ret => exact fun vm n => cmd_ret
  | refuse w => exact fun vm n e hE r ds h hwf => trivial
def NatOk (P : Program) (f : FuncId) (g : List AV → H → CRes) : Prop := ∀ args h v h', h.WF → g args h = .ret v h' → SimC P h h' v fun φ s => ∃ cl, VRels φ args cl ∧ s = callFunc f cl.toArray
/-- what a program is to be like -/
structure Fit (P : Program) (X : FuncId → Option (List AV → H → CRes)) : Prop where
  mixed : P.follows .mixedOrders = true
  names : ∀ (f : Nat) (fn : Func), P.funcs[f]? = some fn → fn.body.isSome = true → fn.name ≠ "runtime.NumGoroutine"
  nat : ∀ f g, X f = some g → NatOk P f g
theorem callFunc_enter {f : FuncId} {fn : Func} {c : Code} (hf : P.funcs[f]? = some fn) (hb : fn.body = some c) (hn : fn.name ≠ "runtime.NumGoroutine") (args : Array Value) (w : World) :
    (callFunc f args).run P w = .ok (.enter f args) w := by
  have h1 : ¬ (fn.name == "runtime.NumGoroutine") = true := by simpa using hn
  simp only [callFunc, Sem.run_bind, run_program, Result.andThen_ok, hf]
  rw [if_neg h1, if_neg (by simp [hb])]
  rfl
theorem mkE_sim {X : FuncId → Option (List AV → H → CRes)} (F : Fit P X) : ∀ k, ESim P (mkE P X k) := by
  intro k
  induction k with
  | zero => exact ⟨fun f args h v h' _ hr => (by cases hr), fun l args h v h' _ hr => (by cases hr)⟩
  | succ k ih =>
    refine ⟨fun f args h v h' hwf hr => ?_, fun l args h v h' hwf hr => ?_⟩
    · have hr' : (fcOf P X f).run (mkE P X k) args h = .ret v h' := hr
      unfold fcOf at hr'
      cases hX : X f with
      | some g => rw [hX] at hr'; exact F.nat f g hX args h v h' hwf hr'
      | none =>
        rw [hX] at hr'
        cases hf : P.funcs[f]? with
        | none => rw [hf] at hr'; cases hr'
        | some fn =>
          rw [hf] at hr'
          cases hb : fn.body with
          | none => simp only [hb] at hr'; cases hr'
          | some c =>
            simp only [hb] at hr'
            obtain ⟨h1, h2⟩ := func_ret ih hf hb (fun vm n => comp_ok F.mixed c vm n) hwf hr'
            refine ⟨h1, fun kd hkd φ s w hC hrel hg win => ?_⟩
            obtain ⟨cl, hcl, rfl⟩ := hC
            obtain ⟨cv, w', φ', h3, h4, h5⟩ := h2 kd φ w cl hcl hrel hg win
            exact ⟨cv, w', φ', .enter (callFunc_enter hf hb (F.names f fn hf (by simp [hb])) _ w) h3, h4, h5⟩
    · exact roundF_ok ih (fun vm n c => comp_ok F.mixed c vm n) hwf hr
/-- **the interpreter is right**: a call that it carries out to an end returns so, whatever the tape -/
theorem call_calls {X : FuncId → Option (List AV → H → CRes)} (F : Fit P X) {k : Nat} {f : FuncId} {args : List AV} {h h' : H} {v : AV} (hwf : h.WF) (hX : X f = none)
    (hr : (mkE P X k).call f args h = .ret v h') {φ : Phi} {w : World} {cl : List Value} (hcl : VRels φ args cl) (hrel : RelF φ h.get w) (hg : GRel P φ) (win : Win φ h h') :
    Calls P f cl.toArray w fun e w' => ∃ cv φ', e = .returned cv ∧ VRel φ' v cv ∧ Step φ h w φ' h' w' := by
  cases k with
  | zero => cases hr
  | succ k =>
    have hr' : (fcOf P X f).run (mkE P X k) args h = .ret v h' := hr
    unfold fcOf at hr'
    rw [hX] at hr'
    cases hf : P.funcs[f]? with
    | none => rw [hf] at hr'; cases hr'
    | some fn =>
      rw [hf] at hr'
      cases hb : fn.body with
      | none => simp only [hb] at hr'; cases hr'
      | some c =>
        simp only [hb] at hr'
        obtain ⟨h1, h2⟩ := func_ret (mkE_sim F k) hf hb (fun vm n => comp_ok F.mixed c vm n) hwf hr'
        obtain ⟨cv, w', φ', h3, h4, h5⟩ := h2 .normal φ w cl hcl hrel hg win
        intro cs
        obtain ⟨fr, s1, s2, s3, s4, s5, fn', s6, s7⟩ := h3 cs
        refine ⟨.returned cv, w', fr, ⟨cv, φ', rfl, h4, h5⟩, ?_, s2, ?_⟩
        · exact s1
        · exact ⟨s3, s4, s5, fn', by rw [s2]; exact s6, s7⟩
/-- where the package variables lie, and nothing else -/
def phi0 (G : Nat) : Phi := fun g => if g < G then some ⟨g, 0, 0⟩ else none
end
end Go.Ai

namespace Go.Ai
open Go Go.RowKit
set_option linter.unusedVariables false

/-- a heap in which nothing but the package variables is known to lie, and of these nothing but where -/
def h0 (G : Nat) : H := ⟨G, G, [], gone6⟩
/-- the run ended with 'true', and wrote over nothing that was there -/
def okRun : CRes → Bool
  | .ret (.bool true) ⟨_, _, [], _⟩ => true
  | _ => false
theorem okRun_spec {x : CRes} (h : okRun x = true) : ∃ h', x = .ret (.bool true) h' ∧ h'.log = [] := by
  unfold okRun at h
  split at h
  · exact ⟨_, rfl, rfl⟩
  · cases h
theorem h0_wf {G : Nat} (hG : G ≤ maxBlocks) : (h0 G).WF := ⟨hG, Nat.le_refl _, fun b _ _ => get_gone6 b, fun b hb => by cases hb⟩
theorem h0_rel {G : Nat} (hG : G ≤ maxBlocks) {W : World} (hW : G ≤ W.heap.size) : RelF (phi0 G) (h0 G).get W where
  dom b l hb := by
    unfold phi0 at hb
    split at hb
    · rename_i h; exact Nat.lt_of_lt_of_le h hG
    · cases hb
  lt b l hb := by
    unfold phi0 at hb
    split at hb
    · rename_i h; cases hb; exact Nat.lt_of_lt_of_le h hW
    · cases hb
  obj b l _ hg := absurd (get_gone6 b) hg
  inj b c l m _ _ hg _ _ := absurd (get_gone6 b) hg
section
variable {P : Program}
theorem phi0_grel {G : Nat} (hG : P.globals.size ≤ G) : GRel P (phi0 G) := fun g hg => ⟨0, by unfold phi0; rw [if_pos (Nat.lt_of_lt_of_le hg hG)]⟩
theorem phi0_win {G : Nat} (h' : H) : Win (phi0 G) (h0 G) h' := fun b hb _ => by
  unfold phi0
  rw [if_neg]
  have : G ≤ b := hb
  omega
/-- **a closed run, carried over to the machine** -/
theorem run_calls {X : FuncId → Option (List AV → H → CRes)} (F : Fit P X) {k f G : Nat} {args : List AV} {cl : List Value} (hX : X f = none) (hG : G ≤ maxBlocks) (hP : P.globals.size ≤ G)
    (hrun : okRun ((mkE P X k).call f args (h0 G)) = true) {W : World} (hW : G ≤ W.heap.size) (hcl : VRels (phi0 G) args cl) :
    Calls P f cl.toArray W fun e w' => e = .returned (.bool true) ∧ Below W.heap.size W w' := by
  obtain ⟨h', h1, h2⟩ := okRun_spec hrun
  refine (call_calls F (h0_wf hG) hX h1 hcl (h0_rel hG hW) (phi0_grel hP) (phi0_win h')).mono fun e w' ⟨cv, φ', he, hv, st⟩ => ?_
  cases hv
  refine ⟨he, st.os, st.tape, st.output, st.size, fun k hk => st.keep k hk fun b l hb hl he => ⟨hb, by rw [h2]; simp⟩⟩
theorem heap_of_shaped {W : World} (hsh : W.ShapedOpen P) (hb : Nat.blt P.globals.size (begin P (fun _ _ => 0) default).world.heap.size = true) : P.globals.size ≤ W.heap.size := by
  have h1 : P.globals.size < (begin P (fun _ _ => 0) default).world.heap.size := blt_iff.1 hb
  obtain ⟨o, _, h2, _⟩ := hsh.2 P.globals.size (Nat.le_refl _) h1
  have := (Array.getElem?_eq_some_iff.1 h2).1
  omega
theorem names_of {n : String} (h : ((List.range P.funcs.size).filter fun i => (P.funcs[i]?).any (·.name == n)) = []) (f : Nat) (fn : Func) (hf : P.funcs[f]? = some fn) : fn.name ≠ n := by
  intro he
  have hlt := (Array.getElem?_eq_some_iff.1 hf).1
  have : f ∈ (List.range P.funcs.size).filter fun i => (P.funcs[i]?).any (·.name == n) := by
    refine List.mem_filter.2 ⟨List.mem_range.2 hlt, ?_⟩
    rw [hf]
    simp [he]
  rw [h] at this
  cases this
/-- the wrap of a row that lists variables, the world's shape kept -/
theorem returns_and {H' : Type} {enc : TypeId × Value → H'} {a : Assume} {C : Checked} {os : Os} {f : FuncId} {fn : Func} {s : ChangeSpec} {conds : List PathCond} {apart fresh handsOn again : Bool} {X : World → Array Value → Prop}
    (hX : ∀ (w w' : World) (args : Array Value), w.heap = w'.heap → X w args → X w' args)
    (own : ownKnob C.prog.godebug = none) (started : os.Started) (noInit : C.prog.inits.idxOf? f = none) (hfn : C.prog.funcs[f]? = some fn)
    (witness : ∃ (w : World) (tape : Tape) (i : Input), w.os = os ∧ (w.forCall tape i).Shaped C.prog ∧ i.vars = [] ∧ Input.okWide C.prog (w.forCall tape i) .any w.heap.size f i ∧
      ((s.pre enc C.prog fn conds apart (w.forCall tape i).memory i.args ∧ X (w.forCall tape i).memory i.args) ∧ sizedMet enc C.prog fn (OpenSpec.ofChange s) apart (w.forCall tape i).memory i.args) ∧ a.holds C.prog (lone (Frame.enter C.prog f i.args .normal) [] (w.forCall tape i)))
    (contract : ∀ (W : World) (base : Nat) (args : Array Value) (ds gs : List (DataW H')) (before : List MemPlace),
      (∀ (j : Nat) t v, fn.params[j]? = some t → args[j]? = some v → Value.okWide C.prog W .any base t v) →
      DataW.Whole enc C.prog fn.params.toList s.vars apart W args.toList ds gs before →
      (DataW.weightsEach C.prog (fn.params.toList ++ s.plain.varTypes C.prog) (ds ++ gs)).all (· ≤ reachBytes) = true → X W args → W.ShapedOpen C.prog →
      Calls C.prog f args W fun e W' => ∃ v, e = .returned v ∧ s.post enc C.prog fn apart fresh handsOn again W args v W') :
    ReturnsInHanded a C os f .any (fun w args => (s.pre enc C.prog fn conds apart w args ∧ X w args) ∧ sizedMet enc C.prog fn (OpenSpec.ofChange s) apart w args) (s.post enc C.prog fn apart fresh handsOn again) := by
  refine returnsInHanded_of_calls own started noInit witness fun w tape i _ hsh _ hok hpre _ => ?_
  obtain ⟨_, _, _, fn', hfn', _, _, _, _, hval⟩ := hok
  obtain rfl : fn' = fn := Option.some.inj (hfn'.symm.trans hfn)
  obtain ⟨⟨⟨ds, gs, before, hw, _⟩, hx⟩, hz⟩ := hpre
  refine (contract (w.forCall tape i) w.heap.size i.args ds gs before hval (DataW.Whole.of_heap (w' := w.forCall tape i) (by rfl) hw) (hz.weights hw) (hX _ _ _ (by rfl) hx) hsh).mono fun e W' ⟨v, he, hp⟩ => ?_
  subst he
  exact ChangeSpec.post_blind hp
end
end Go.Ai

namespace Go.Ai
open Go
set_option linter.unusedVariables false

section
variable {P : Program}
/-- a function of the library without a Go body -/
structure IsExt (P : Program) (f : FuncId) (e : Array Value → Sem Value) : Prop where
  h : ∃ fn, P.funcs[f]? = some fn ∧ (fn.name == "runtime.NumGoroutine") = false ∧ fn.body.isNone = true ∧ Extern.findNext fn = none ∧ Extern.find fn = some e
theorem ext_run {f : FuncId} {e : Array Value → Sem Value} (hx : IsExt P f e) (args : Array Value) (w : World) : (callFunc f args).run P w = (vN (e args)).run P w := by
  obtain ⟨fn, hf, hname, hb, hn, he⟩ := hx.h
  simp only [callFunc, Sem.run_bind, run_program, Result.andThen_ok, hf]
  rw [if_neg (by rw [hname]; simp), if_pos hb]
  simp only [hn, he, Sem.run_bind, mark, Sem.run, Result.andThen_ok]
/-- an extern that leaves memory alone -/
theorem ext_quiet {f : FuncId} {e : Array Value → Sem Value} (hx : IsExt P f e) {args : List AV} {h : H} {v : AV}
    (hq : ∀ φ w cl, VRels φ args cl → RelF φ h.get w → ∃ cv, (e cl.toArray).run P w = .ok cv w ∧ VRel φ v cv) :
    SimC P h h v fun φ s => ∃ cl, VRels φ args cl ∧ s = callFunc f cl.toArray := by
  refine ⟨AStep.refl h, fun kd _ φ s w hC hr _ _ => ?_⟩
  obtain ⟨cl, hcl, rfl⟩ := hC
  obtain ⟨cv, h1, h2⟩ := hq φ w cl hcl hr
  exact ⟨cv, w, φ, .value ((ext_run hx _ w).trans (run_val h1)), h2, Step.refl hr⟩
theorem natNop_ok {f : FuncId} {e : Array Value → Sem Value} (hx : IsExt P f e) (hq : ∀ args w, (e args).run P w = .ok undef w) : NatOk P f natNop := by
  intro args h v h' _ hr
  simp only [natNop, CRes.ret.injEq] at hr
  obtain ⟨rfl, rfl⟩ := hr
  exact ext_quiet hx fun φ w cl _ _ => ⟨undef, hq _ w, .undef⟩
theorem natMark_ok {f : FuncId} {m : Addr → Mark} (hx : IsExt P f (Extern.Race.marked m)) : NatOk P f natMark := by
  intro args h v h' _ hr
  unfold natMark at hr
  split at hr
  · simp only [CRes.ret.injEq] at hr
    obtain ⟨rfl, rfl⟩ := hr
    refine ext_quiet hx fun φ w cl hcl _ => ⟨undef, ?_, .undef⟩
    cases hcl with
    | cons h1 h2 =>
      cases h1 with
      | ptr hb => simp [Extern.Race.marked, Extern.Race.at_, mark, Sem.run, Extern.Race.none_, undef]
  · cases hr
theorem asInt_run (k : IntKind) (n : Int) (w : World) : (asInt (.int k n)).run P w = .ok n w := by simp [asInt, asIntOf]
theorem three_eq (n : String) (x y c : Nat) (hc : c ≤ 1) (w : World) : (Extern.MathBitsCarry.three n #[.int .u64 (.ofNat x), .int .u64 (.ofNat y), .int .u64 (.ofNat c)]).run P w = .ok (x, y, c) w := by
  have e : Extern.MathBitsCarry.three n #[.int .u64 (.ofNat x), .int .u64 (.ofNat y), .int .u64 (.ofNat c)] = (do
      let c := (← asInt (.int .u64 (.ofNat c))).toNat
      if c > 1 then unsupported (.noEntry ("extern/math/bits." ++ n ++ ": a carry that is neither 0 nor 1"))
      pure ((← asInt (.int .u64 (.ofNat x))).toNat, (← asInt (.int .u64 (.ofNat y))).toNat, c)) := rfl
  have e1 : ¬ (c > 1) := by omega
  rw [e]
  simp only [Sem.run_bind, asInt_run, Result.andThen_ok]
  rw [if_neg (by simpa using e1)]
  simp only [Sem.run_bind, asInt_run, Result.andThen_ok, Sem.run_pure]
  rfl
theorem loadT_eq (t : Extern.Atomic.T) (a : Addr) : Extern.Atomic.loadT t #[.pointer (some a)] = (do Extern.Atomic.read t (← asAddr (.pointer (some a)))) := rfl
theorem storeT_eq (a : Addr) (v : Value) : Extern.Atomic.storeT #[.pointer (some a), v] = (do store (← asAddr (.pointer (some a))) v .atomic; pure Extern.Atomic.none_) := rfl
theorem casT_run (k : IntKind) (a : Addr) (x y z : Int) (w : World) (h1 : (Extern.Atomic.touchesFrozen a).run P w = .ok false w) (h2 : (Extern.Atomic.read (.int k) a).run P w = .ok (.int k z) w) :
    (Extern.Atomic.casT (.int k) #[.pointer (some a), .int k x, .int k y]).run P w = (do (if (z == x) = true then store a (.int k y) .atomic else pure ()); pure (.bool (z == x)) : Sem Value).run P w := by
  have e : Extern.Atomic.casT (.int k) #[.pointer (some a), .int k x, .int k y] = (do
      let a ← asAddr (.pointer (some a))
      if ← Extern.Atomic.touchesFrozen a then unsupported (.unsafePointer "a write to bytes that a string shares")
      let eq ← match Extern.Atomic.T.int k, ← Extern.Atomic.read (.int k) a, Value.int k x with
        | _, .int _ x, .int _ y => pure (x == y)
        | .ptr, .pointer x, .pointer y => samePointer x y
        | .int _, .pointer (some _), .int _ 0 | .int _, .int _ 0, .pointer (some _) => pure false
        | .int _, .pointer (some _), _ | .int _, _, .pointer (some _) => unsupported .addressObserved
        | _, _, _ => stuck "atomic.CompareAndSwap: old is no T"
      if eq then store a (.int k y) .atomic
      pure (.bool eq)) := rfl
  rw [e]
  simp only [asAddr, Sem.run_bind, Sem.run_pure, Result.andThen_ok, h1]
  rw [if_neg (by simp)]
  simp only [Sem.run_bind, Sem.run_pure, Result.andThen_ok, h2]
  cases (z == x) <;> simp
theorem update_eq (op : IntKind → Int → Int → Sem Value) (k : IntKind) (b : Bool) (a : Addr) (y : Value) : Extern.Atomic.update op k b #[.pointer (some a), y] = (do
    let a ← asAddr (.pointer (some a))
    let old ← Extern.Atomic.read (.int k) a
    let new ← op k (← asInt old) (← asInt y)
    store a new .atomic
    pure (if b then new else old)) := rfl
theorem natAdd64_ok {f : FuncId} (hx : IsExt P f fun args => do let (x, y, c) ← Extern.MathBitsCarry.three "Add64" args; pure (Extern.MathBitsCarry.pair ((x + y + c) % Extern.MathBitsCarry.m64) ((x + y + c) / Extern.MathBitsCarry.m64))) : NatOk P f natAdd64 := by
  intro args h v h' _ hr
  unfold natAdd64 at hr
  split at hr
  · rename_i x y c
    split at hr
    · rename_i hc
      simp only [fN_eq, CRes.ret.injEq] at hr
      obtain ⟨rfl, rfl⟩ := hr
      have hc' := Nat.le_of_ble_eq_true hc
      refine ext_quiet hx fun φ w cl hcl _ => ?_
      cases hcl with
      | cons h1 hl =>
        cases h1
        cases hl with
        | cons h2 hl =>
          cases h2
          cases hl with
          | cons h3 hl =>
            cases h3
            cases hl
            refine ⟨_, ?_, .tuple (vs' := [.int .u64 (Int.ofNat ((x + y + c) % 18446744073709551616)), .int .u64 (Int.ofNat ((x + y + c) / 18446744073709551616))]) (.cons .int (.cons .int .nil))⟩
            have := three_eq (P := P) "Add64" x y c hc' w
            simp only [Sem.run_bind, this, Result.andThen_ok, Sem.run_pure]
            rfl
    · cases hr
  · cases hr
theorem natSub64_ok {f : FuncId} (hx : IsExt P f fun args => do let (x, y, b) ← Extern.MathBitsCarry.three "Sub64" args; pure (Extern.MathBitsCarry.pair ((x + Extern.MathBitsCarry.m64 - y - b) % Extern.MathBitsCarry.m64) (if x < y + b then 1 else 0))) : NatOk P f natSub64 := by
  intro args h v h' _ hr
  unfold natSub64 at hr
  split at hr
  · rename_i x y c
    split at hr
    · rename_i hc
      simp only [fN_eq] at hr
      have hc' := Nat.le_of_ble_eq_true hc
      have hv : ∃ bb : Nat, bb = (if x < y + c then 1 else 0) ∧ v = .tuple [.int .u64 (.ofNat (Nat.mod (Nat.sub (Nat.sub (Nat.add x 18446744073709551616) y) c) 18446744073709551616)), .int .u64 (.ofNat bb)] ∧ h' = h := by
        split at hr
        · rename_i hb
          simp only [CRes.ret.injEq] at hr
          exact ⟨1, (if_pos (blt_iff.1 hb)).symm, hr.1.symm, hr.2.symm⟩
        · rename_i hb
          simp only [CRes.ret.injEq] at hr
          exact ⟨0, (if_neg (fun h => by rw [show x.blt (y.add c) = true from blt_iff.2 h] at hb; cases hb)).symm, hr.1.symm, hr.2.symm⟩
      obtain ⟨bb, hbb, rfl, rfl⟩ := hv
      refine ext_quiet hx fun φ w cl hcl _ => ?_
      cases hcl with
      | cons h1 hl =>
        cases h1
        cases hl with
        | cons h2 hl =>
          cases h2
          cases hl with
          | cons h3 hl =>
            cases h3
            cases hl
            refine ⟨_, ?_, .tuple (vs' := [.int .u64 (Int.ofNat ((x + 18446744073709551616 - y - c) % 18446744073709551616)), .int .u64 (Int.ofNat bb)]) (.cons .int (.cons .int .nil))⟩
            rw [hbb]
            have := three_eq (P := P) "Sub64" x y c hc' w
            simp only [Sem.run_bind, this, Result.andThen_ok, Sem.run_pure, Extern.MathBitsCarry.pair]
            have e2 : Int.ofNat (if x < y + c then 1 else 0) = (if x < y + c then (1 : Int) else 0) := by split <;> rfl
            simp [Extern.MathBitsCarry.m64]
    · cases hr
  · cases hr

-- one cell
theorem cell1_cases {h : H} {b o : Nat} : (∃ w, ∀ K, cell1 h b o K = .fail w) ∨ ∃ v, (∀ K, cell1 h b o K = K v) ∧
    ∀ φ w l, φ b = some l → RelF φ h.get w → ∃ cv, w.cell? ⟨l.blk, l.base + o, none⟩ = some cv ∧ w.frozen? ⟨l.blk, l.base + o, none⟩ = false ∧ VRel φ v cv ∧ (w.shape? l.blk).isSome = true := by
  unfold cell1
  cases hg : h.get b with
  | cells el cs =>
    simp only [nthK_eq]
    cases hx : cs[o]? with
    | none => exact .inl ⟨_, fun _ => rfl⟩
    | some x =>
      refine .inr ⟨x, fun _ => rfl, fun φ w l hb r => ?_⟩
      obtain ⟨c, e, fr, k1, k2, k3, k4, k5⟩ := r.cells hb hg
      obtain ⟨cv, m1, m2, m3⟩ := k3.get _ _ hx
      have hlt := (Array.getElem?_eq_some_iff.1 m1).1
      exact ⟨cv, (cell_of k1 _).trans m1, frozen_of k1 (k4 _ hlt), m2, by simp [World.shape?, k1]⟩
  | _ => exact .inl ⟨.s "cell", fun _ => rfl⟩
theorem store1_cases {h : H} (hwf : h.WF) {b o : Nat} {v : AV} : (∃ w, ∀ K, store1 h b o v K = .fail w) ∨ ∃ h', (∀ K, store1 h b o v K = K h') ∧ AStep h h' ∧
    ∀ φ w l cv, φ b = some l → RelF φ h.get w → VRel φ v cv → isCellV cv = true → ∃ w', (∀ m, (store ⟨l.blk, l.base + o, none⟩ cv m).run P w = .ok () w') ∧ Step φ h w φ h' w' := by
  unfold store1 storeA
  cases hg : h.get b with
  | cells el cs =>
    simp only [spliceK_eq]
    by_cases hs : o + [v].length ≤ cs.length
    · simp only [if_pos hs, H.put_eq]
      by_cases hlt : b < h.next
      · simp only [if_pos hlt]
        refine .inr ⟨_, fun _ => rfl, AStep.upd hlt (cells_ne_gone hg) _, fun φ w l cv hb r hv hcv => ?_⟩
        obtain ⟨c, e, fr, k1, k2, k3, k4, k5⟩ := r.cells hb hg
        have hroom : l.base + o < c.size := by
          obtain ⟨x, hx⟩ : ∃ x, cs[o]? = some x := ⟨_, List.getElem?_eq_getElem (by simp at hs; omega)⟩
          obtain ⟨y, m1, _⟩ := k3.get _ _ hx
          exact (Array.getElem?_eq_some_iff.1 m1).1
        obtain ⟨w', m1, m2⟩ := run_store1 (P := P) k1 hcv hroom (k4 _ hroom)
        have hcell : ∃ x, w.cell? ⟨l.blk, l.base + o, none⟩ = some x := ⟨c[l.base + o], by rw [cell_of k1]; simp [hroom]⟩
        obtain ⟨x, hx⟩ := hcell
        have hm : ∀ m, (store ⟨l.blk, l.base + o, none⟩ cv m).run P w = (store ⟨l.blk, l.base + o, none⟩ cv).run P w := by
          intro m
          unfold store
          cases cv <;> simp [isCellV] at hcv <;> simp only [Sem.run, hx]
        refine ⟨w', fun m => (hm m).trans m1, Step.upd r hwf hb hlt (cells_ne_gone hg) (.inr ?_) m2.heap m2.size m2.os m2.tape m2.output⟩
        have hsp := k3.splice (.cons hv .nil) (by simpa using hcv) hs
        have e1 : wr c (l.base + o) [cv] = c.setIfInBounds (l.base + o) cv := rfl
        rw [e1] at hsp
        refine .cells (by simpa using k2) hsp (by simpa using k4) fun t ht => ?_
        rw [length_splice hs]
        simpa using k5 t ht
      · simp only [if_neg hlt]; exact .inl ⟨_, fun _ => rfl⟩
    · simp only [if_neg hs]; exact .inl ⟨_, fun _ => rfl⟩
  | _ => exact .inl ⟨.s "store", fun _ => rfl⟩
def atT : Option IntKind → Extern.Atomic.T
  | some k => .int k
  | none => .ptr
theorem fits_cell {φ : Phi} {k : Option IntKind} {v : AV} {cv : Value} (hf : fitsT k v = true) (hv : VRel φ v cv) : isCellV cv = true := by
  cases v <;> simp [fitsT] at hf <;> cases hv <;> rfl
theorem read_run {k : Option IntKind} {v : AV} {φ : Phi} {cv : Value} {a : Addr} {w : World} (hf : fitsT k v = true) (hv : VRel φ v cv) (hc : w.cell? a = some cv) : (Extern.Atomic.read (atT k) a).run P w = .ok cv w := by
  unfold Extern.Atomic.read
  have hl : (load a .atomic).run P w = .ok cv w := by simp [load, Sem.run, hc]
  simp only [Sem.run_bind, hl, Result.andThen_ok]
  cases k with
  | some k =>
    cases v <;> simp [fitsT] at hf
    cases hv
    have := keq_true hf
    subst this
    simp [atT]
  | none =>
    cases v <;> simp [fitsT] at hf <;> cases hv <;> simp [atT]
theorem natLoad_ok {f : FuncId} {k : Option IntKind} (hx : IsExt P f (Extern.Atomic.loadT (atT k))) : NatOk P f (natLoad k) := by
  intro args h v h' _ hr
  unfold natLoad at hr
  split at hr
  · rename_i b o
    rcases cell1_cases (h := h) (b := b) (o := o) with ⟨w, hw⟩ | ⟨x, h1, h2⟩
    · rw [hw] at hr; cases hr
    · rw [h1] at hr
      split at hr
      · rename_i hf
        simp only [CRes.ret.injEq] at hr
        obtain ⟨rfl, rfl⟩ := hr
        refine ext_quiet hx fun φ w cl hcl r => ?_
        cases hcl with
        | cons k1 hl =>
          cases hl
          cases k1 with
          | @ptr _ _ l hb =>
            obtain ⟨cv, m1, m2, m3, m4⟩ := h2 φ w l hb r
            refine ⟨cv, ?_, m3⟩
            have e1 := loadT_eq (atT k) ⟨l.blk, l.base + o, none⟩
            show (Extern.Atomic.loadT (atT k) #[.pointer (some ⟨l.blk, l.base + o, none⟩)]).run P w = _
            rw [e1]
            simp only [asAddr, Sem.run_bind, Sem.run_pure, Result.andThen_ok]
            exact read_run hf m3 m1
      · cases hr
  · cases hr
theorem natStore_ok {f : FuncId} {k : Option IntKind} (hx : IsExt P f Extern.Atomic.storeT) : NatOk P f (natStore k) := by
  intro args h v h' hwf hr
  unfold natStore at hr
  split at hr
  · rename_i b o x
    split at hr
    · rename_i hf
      rcases store1_cases (P := P) hwf (b := b) (o := o) (v := x) with ⟨w, hw⟩ | ⟨h2, h1, h3, h4⟩
      · rw [hw] at hr; cases hr
      · rw [h1] at hr
        simp only [CRes.ret.injEq] at hr
        obtain ⟨rfl, rfl⟩ := hr
        refine ⟨h3, fun kd _ φ s w hC r _ _ => ?_⟩
        obtain ⟨cl, hcl, rfl⟩ := hC
        cases hcl with
        | cons k1 hl =>
          cases hl with
          | @cons _ cv _ _ k2 hl =>
            cases hl
            cases k1 with
            | @ptr _ _ l hb =>
              obtain ⟨w', m1, m2⟩ := h4 φ w l cv hb r k2 (fits_cell hf k2)
              refine ⟨undef, w', φ, .value ((ext_run hx _ w).trans (run_val ?_)), .undef, m2⟩
              have e1 := storeT_eq ⟨l.blk, l.base + o, none⟩ cv
              show (Extern.Atomic.storeT #[.pointer (some ⟨l.blk, l.base + o, none⟩), cv]).run P w = _
              rw [e1]
              simp [asAddr, m1, Extern.Atomic.none_, undef]
    · cases hr
  · cases hr
theorem touches_run {a : Addr} {w : World} (hs : (w.shape? a.block).isSome = true) (hf : w.frozen? a = false) : (Extern.Atomic.touchesFrozen a).run P w = .ok false w := by
  simp [Extern.Atomic.touchesFrozen, viewAt, shape, frozen, Sem.run, hs, hf]
theorem natCas_ok {f : FuncId} {k : IntKind} (hx : IsExt P f (Extern.Atomic.casT (.int k))) : NatOk P f (natCas k) := by
  intro args h v h' hwf hr
  unfold natCas at hr
  split at hr
  · rename_i b o k1 x k2 y
    split at hr
    · rename_i hkk
      simp only [Bool.and_eq_true] at hkk
      have e1 := keq_true hkk.1
      have e2 := keq_true hkk.2
      subst e1; subst e2
      rcases cell1_cases (h := h) (b := b) (o := o) with ⟨w, hw⟩ | ⟨u, h1, h2⟩
      · rw [hw] at hr; cases hr
      · rw [h1] at hr
        split at hr
        · rename_i k3 z
          split at hr
          · rename_i hk3
            have e3 := keq_true hk3
            subst e3
            have rd : ∀ φ w l, φ b = some l → RelF φ h.get w → (Extern.Atomic.read (.int k) ⟨l.blk, l.base + o, none⟩).run P w = .ok (.int k z) w ∧ (Extern.Atomic.touchesFrozen ⟨l.blk, l.base + o, none⟩).run P w = .ok false w := by
              intro φ w l hb r
              obtain ⟨cv, m1, m2, m3, m4⟩ := h2 φ w l hb r
              cases m3
              exact ⟨read_run (k := some k) (v := .int k z) (φ := φ) (keq_self k) .int m1, touches_run m4 m2⟩
            have run : ∀ φ w l, φ b = some l → RelF φ h.get w → (Extern.Atomic.casT (.int k) #[.pointer (some ⟨l.blk, l.base + o, none⟩), .int k x, .int k y]).run P w =
                (do (if (z == x) = true then store ⟨l.blk, l.base + o, none⟩ (.int k y) .atomic else pure ()); pure (.bool (z == x)) : Sem Value).run P w := by
              intro φ w l hb r
              obtain ⟨r1, r2⟩ := rd φ w l hb r
              exact casT_run k _ x y z w r2 r1
            split at hr
            · rename_i hzx
              rw [ieq_eq] at hzx
              rcases store1_cases (P := P) hwf (b := b) (o := o) (v := .int k y) with ⟨w, hw⟩ | ⟨hh, j1, j2, j3⟩
              · rw [hw] at hr; cases hr
              · rw [j1] at hr
                simp only [CRes.ret.injEq] at hr
                obtain ⟨rfl, rfl⟩ := hr
                refine ⟨j2, fun kd _ φ s w hC r _ _ => ?_⟩
                obtain ⟨cl, hcl, rfl⟩ := hC
                cases hcl with
                | cons q1 hl =>
                  cases hl with
                  | cons q2 hl =>
                    cases q2
                    cases hl with
                    | cons q3 hl =>
                      cases q3
                      cases hl
                      cases q1 with
                      | @ptr _ _ l hb =>
                        obtain ⟨w', m1, m2⟩ := j3 φ w l (.int k y) hb r .int rfl
                        refine ⟨.bool true, w', φ, .value ((ext_run hx _ w).trans (run_val ?_)), .bool, m2⟩
                        refine (run φ w l hb r).trans ?_
                        simp [hzx, m1]
            · rename_i hzx
              rw [ieq_eq] at hzx
              simp only [CRes.ret.injEq] at hr
              obtain ⟨rfl, rfl⟩ := hr
              refine ext_quiet hx fun φ w cl hcl r => ?_
              cases hcl with
              | cons q1 hl =>
                cases hl with
                | cons q2 hl =>
                  cases q2
                  cases hl with
                  | cons q3 hl =>
                    cases q3
                    cases hl
                    cases q1 with
                    | @ptr _ _ l hb =>
                      refine ⟨.bool false, ?_, .bool⟩
                      refine (run φ w l hb r).trans ?_
                      simp [hzx]
          · cases hr
        · cases hr
    · cases hr
  · cases hr
theorem natAddInt_ok {f : FuncId} {k : IntKind} (hx : IsExt P f (Extern.Atomic.update (Op.intArith .add) k true)) : NatOk P f (natAddInt k) := by
  intro args h v h' hwf hr
  unfold natAddInt at hr
  split at hr
  · rename_i b o k1 x
    split at hr
    · rename_i hkk
      have e1 := keq_true hkk
      subst e1
      rcases cell1_cases (h := h) (b := b) (o := o) with ⟨w, hw⟩ | ⟨u, h1, h2⟩
      · rw [hw] at hr; cases hr
      · rw [h1] at hr
        split at hr
        · rename_i k3 z
          split at hr
          · rename_i hk3
            have e3 := keq_true hk3
            subst e3
            simp only [fI_eq, wrapA_eq] at hr
            rcases store1_cases (P := P) hwf (b := b) (o := o) (v := .int k (k.wrap (Int.add z x))) with ⟨w, hw⟩ | ⟨hh, j1, j2, j3⟩
            · rw [hw] at hr; cases hr
            · rw [j1] at hr
              simp only [CRes.ret.injEq] at hr
              obtain ⟨rfl, rfl⟩ := hr
              refine ⟨j2, fun kd _ φ s w hC r _ _ => ?_⟩
              obtain ⟨cl, hcl, rfl⟩ := hC
              cases hcl with
              | cons q1 hl =>
                cases hl with
                | cons q2 hl =>
                  cases q2
                  cases hl
                  cases q1 with
                  | @ptr _ _ l hb =>
                    obtain ⟨cv, m1, m2, m3, m4⟩ := h2 φ w l hb r
                    cases m3
                    have rd : (Extern.Atomic.read (.int k) ⟨l.blk, l.base + o, none⟩).run P w = .ok (.int k z) w := read_run (k := some k) (v := .int k z) (φ := φ) (keq_self k) .int m1
                    obtain ⟨w', n1, n2⟩ := j3 φ w l (.int k (k.wrap (Int.add z x))) hb r .int rfl
                    refine ⟨.int k (k.wrap (Int.add z x)), w', φ, .value ((ext_run hx _ w).trans (run_val ?_)), .int, n2⟩
                    have n1' : (store ⟨l.blk, l.base + o, none⟩ (.int k (k.wrap (z + x))) .atomic).run P w = .ok () w' := n1 .atomic
                    have e1 := update_eq (Op.intArith .add) k true ⟨l.blk, l.base + o, none⟩ (.int k x)
                    refine (congrArg (fun s => Sem.run P s w) e1).trans ?_
                    simp only [asAddr, asInt_run, Op.intArith, Sem.run_bind, Sem.run_pure, Result.andThen_ok, rd, n1', if_true]
                    rfl
          · cases hr
        · cases hr
    · cases hr
  · cases hr
end
end Go.Ai

namespace Go.Ai
open Go Go.RowKit
set_option linter.unusedVariables false

section
variable {P : Program}
/-- the code of a function's end came to a result 'true', and wrote over nothing that was there -/
noncomputable def okRest (P : Program) (fn : Func) (vm n : Nat) : Res → Bool
  | .ret r (.fn []) ⟨nx, th, [], ob⟩ => (match resultsA P vm n r ⟨nx, th, [], ob⟩ fn.results.toList with | some [.bool true] => true | _ => false)
  | .norm r (.fn []) ⟨nx, th, [], ob⟩ => (match resultsA P vm n r ⟨nx, th, [], ob⟩ fn.results.toList with | some [.bool true] => true | _ => false)
  | _ => false
theorem okRest_spec {fn : Func} {vm n : Nat} {x : Res} (h : okRest P fn vm n x = true) : ∃ r h', (x = .ret r (.fn []) h' ∨ x = .norm r (.fn []) h') ∧ h'.log = [] ∧ resultsA P vm n r h' fn.results.toList = some [.bool true] := by
  unfold okRest at h
  split at h
  · split at h
    · rename_i hr; exact ⟨_, _, .inl rfl, rfl, hr⟩
    · cases h
  · split at h
    · rename_i hr; exact ⟨_, _, .inr rfl, rfl, hr⟩
    · cases h
  · cases h
/-- the registers of a frame of which some temporaries are known -/
theorem frame_lrel {φ : Phi} {vm n : Nat} {l : List AV} {cl : List Value} {tmps : Array Value} {r' : R3} (hn : n ≤ 512) (hsz : tmps.size = n) (hv : VRels φ l cl) (hpre : ∀ (i : Nat) v, cl[i]? = some v → tmps[i]? = some v)
    (hr : ∀ t, t < 512 → (regOf t).get r' = if 0 ≤ t ∧ t < 0 + l.length ∧ bit vm t = true then l.getD (t - 0) .any else (regOf t).get blankR) : LRel φ ⟨vm, n, []⟩ [] r' tmps := by
  refine ⟨hsz, hn, fun t => ?_⟩
  simp only [tmpC]
  cases ht : Nat.blt t n with
  | false => exact .any
  | true =>
    have htn := blt_iff.1 ht
    cases hb : bit vm t with
    | false => exact .any
    | true =>
      simp only
      rw [hr t (by omega)]
      by_cases hc : t < l.length
      · rw [if_pos ⟨Nat.zero_le _, by omega, hb⟩]
        obtain ⟨x, hx⟩ : ∃ x, l[t]? = some x := ⟨_, List.getElem?_eq_getElem hc⟩
        obtain ⟨y, hy, hxy⟩ := hv.get t x hx
        have e1 : l.getD (t - 0) .any = x := by simp [List.getD_eq_getElem?_getD, hx]
        have e2 : tmps.getD t undef = y := by rw [Array.getD_eq_getD_getElem?, hpre t y hy]; rfl
        rw [e1, e2]; exact hxy
      · rw [if_neg (by omega), blank_get]; exact .any
theorem reach_arrives {b : Frame} {a a' : Act} {w w' : World} {c : Code} {x : AOut} (hx : x = .norm ∨ x = .ret) (h : Reach P ⟨b.fn, b.kind, none⟩ a w [.code c] x a' w') (k : List Item) (cs : List Frame) :
    Arrives P (lone (b.at a (.code c :: k)) cs w) b k cs (match x with | .ret => .ret | _ => .normal) a' w' := by
  have hat : ∀ a todo, (⟨b.fn, b.kind, none⟩ : Base).at a todo = b.at a todo := fun a todo => rfl
  rcases hx with rfl | rfl
  · have := h k cs
    rw [hat, hat] at this
    exact this
  · obtain ⟨k1, s⟩ := h k cs
    rw [hat, hat] at s
    exact ⟨.code .ret :: k1, s.trans (.one step_ret)⟩
/-- **the end of a function, closed but for what it does not look at**, in a walk: 'B': the blocks below it stay -/
theorem ai_rest {X : FuncId → Option (List AV → H → CRes)} (F : Fit P X) {k vm n : Nat} {c : Code} {fn : Func} {avs : List AV} {h : H} (hwf : h.WF) (hn : n ≤ 512)
    (hrun : okRest P fn vm n (setArgs vm n 0 avs blankR fun r => (comp P vm n c).run (mkE P X k) r (.fn []) h) = true)
    {φ : Phi} {a : Act} {w : World} {cl : List Value} (hsz : a.tmps.size = n) (hav : VRels φ avs cl) (hpre : ∀ (i : Nat) v, cl[i]? = some v → a.tmps[i]? = some v) (hd : a.defers = [])
    (hrel : RelF φ h.get w) (hg : GRel P φ) (hwin : ∀ h', Win φ h h') {B : Nat} (hB : B ≤ w.heap.size) (hlow : ∀ b l, b < h.next → φ b = some l → l.blk < B → b < h.thr)
    {R : Ending → World → Prop} {Q : Exit → Act → World → Prop} (hret : ∀ a w, bodyPost P fn R .ret a w → Q .ret a w) (hnorm : ∀ a w, bodyPost P fn R .normal a w → Q .normal a w)
    (hR : ∀ w', Below B w w' → R (.returned (.bool true)) w') : c.wp P Q a w := by
  rcases setArgs_cases vm n hn avs 0 blankR with ⟨x, hx⟩ | ⟨r1, k1, k2, k3⟩
  · rw [hx] at hrun; cases hrun
  · rw [k1] at hrun
    have hl := frame_lrel hn hsz hav hpre k3
    obtain ⟨r2, h', e, hlog, hres⟩ := okRest_spec hrun
    have hcmd := comp_ok F.mixed c vm n (mkE P X k) (mkE_sim F k) r1 (.fn []) h hwf
    have key : ∀ x : AOut, (x = .norm ∨ x = .ret) → OkOut P ⟨vm, n, []⟩ ⟨vm, n, []⟩ [] r1 (.fn []) h [.code c] x [] r2 (.fn []) h' → c.wp P Q a w := by
      intro x hx ho b kk cs
      obtain ⟨a', w', φ', s, l', d', st⟩ := ho.2 ⟨b.fn, b.kind, none⟩ φ a w hl ⟨rfl, by rw [hd]; exact .nil⟩ hrel hg (hwin h')
      refine ⟨_, a', w', ?_, reach_arrives hx s kk cs⟩
      obtain ⟨cv, z1, z2⟩ := results_rel l' st.rel hres
      have hcv : cv = .bool true := by cases z2; rfl
      subst hcv
      have hdef : a'.defers = [] := by
        have := d'.2
        generalize a'.defers = dd at this
        cases this; rfl
      have hb : Below B w w' := ⟨st.os, st.tape, st.output, st.size, fun k hk => st.keep k (Nat.lt_of_lt_of_le hk hB) fun b l hb hl he => ⟨hlow b l hb hl (by omega), by rw [hlog]; simp⟩⟩
      rcases hx with rfl | rfl
      · exact hnorm _ _ ⟨hdef, _, z1, hR w' hb⟩
      · exact hret _ _ ⟨hdef, _, z1, hR w' hb⟩
    rcases e with e | e
    · rw [e] at hcmd; exact key .ret (.inr rfl) hcmd
    · rw [e] at hcmd; exact key .norm (.inl rfl) hcmd
/-- memory that a walk has made, taken into the abstract heap -/
structure Taken (P : Program) (h : H) (φ : Phi) (w : World) (B : Nat) : Prop where
  wf : h.WF
  rel : RelF φ h.get w
  g : GRel P φ
  win : ∀ h', Win φ h h'
  low : ∀ b l, b < h.next → φ b = some l → l.blk < B → b < h.thr
  B : B ≤ w.heap.size
theorem Taken.start {G : Nat} (hG : G ≤ maxBlocks) (hP : P.globals.size ≤ G) {W : World} (hW : G ≤ W.heap.size) : Taken P (h0 G) (phi0 G) W W.heap.size :=
  ⟨h0_wf hG, h0_rel hG hW, phi0_grel hP, fun h' => phi0_win h', fun b l hb _ _ => hb, Nat.le_refl _⟩
/-- a new block of cells of which nothing is known -/
theorem Taken.cells {h : H} {φ : Phi} {w : World} {B : Nat} (T : Taken P h φ w B) (hl : h.next < maxBlocks) {l : List AV} {cs : Array Value} {t : TypeId} (hv : VRels φ l cs.toList) (hc : ∀ v ∈ cs.toList, isCellV v = true) :
    Taken P (h.push (.cells (some t) l)) (φ.put h.next ⟨w.heap.size, 0, cs.size⟩) (w.alloc (.cells cs t (0, 0))) B where
  wf := T.wf.push hl _
  rel := by
    have hn : φ h.next = none := T.win (h.push .gone) h.next (Nat.le_refl _) (Nat.lt_succ_self _)
    have hlen := hv.length
    refine (Step.new (w' := w.alloc (.cells cs t (0, 0))) (O := .cells cs t (0, 0)) T.rel T.wf hl hn ?_ rfl rfl rfl rfl).rel
    refine .cells rfl ⟨fun i v hi => ?_⟩ (fun i _ h => by omega) fun t' ht => ⟨rfl, by rw [hlen]; simp, by cases ht; rfl⟩
    obtain ⟨y, h1, h2⟩ := hv.get i v hi
    exact ⟨y, by simpa using h1, h2, hc y (List.mem_of_getElem? h1)⟩
  g := by
    have hn : φ h.next = none := T.win (h.push .gone) h.next (Nat.le_refl _) (Nat.lt_succ_self _)
    exact T.g.mono (Phi.le_put hn _)
  win h' b h1 h2 := by
    have h1' : h.next + 1 ≤ b := h1
    have hne : b ≠ h.next := by omega
    have : φ b = none := T.win h' b (by omega) h2
    simp [Phi.put, hne, this]
  low b l hb hφ hB := by
    have hb' : b < h.next + 1 := hb
    by_cases e : b = h.next
    · subst e
      rw [Phi.put_same] at hφ
      cases hφ
      have hlt : w.heap.size < B := hB
      have := T.B
      omega
    · have : φ b = some l := by simpa [Phi.put, e] using hφ
      exact T.low b l (by omega) this hB
  B := by
    have := T.B
    show B ≤ (w.heap.push (.cells cs t (0, 0))).size
    rw [Array.size_push]
    omega
end
end Go.Ai

namespace Go.Ai
open Go Go.RowKit
set_option linter.unusedVariables false

/-- a function without arguments that is known to return true -/
noncomputable def natTrue (args : List AV) (h : H) : CRes := match args with | [] => .ret (.bool true) h | _ => .fail "true"
/-- one function more is known -/
noncomputable def withF (f : FuncId) (g : List AV → H → CRes) (X : FuncId → Option (List AV → H → CRes)) (f' : FuncId) : Option (List AV → H → CRes) := cond (Nat.beq f' f) (some g) (X f')
section
variable {P : Program} {X : FuncId → Option (List AV → H → CRes)}
theorem Fit.with_ (F : Fit P X) {f : FuncId} {g : List AV → H → CRes} (h : NatOk P f g) : Fit P (withF f g X) where
  mixed := F.mixed
  names := F.names
  nat f' g' hX := by
    unfold withF at hX
    cases hb : Nat.beq f' f with
    | true =>
      have e := Nat.eq_of_beq_eq_true hb
      subst e
      rw [hb] at hX
      cases hX
      exact h
    | false =>
      rw [hb] at hX
      exact F.nat f' g' hX
theorem Fit.none (mixed : P.follows .mixedOrders = true) (names : ∀ (f : Nat) (fn : Func), P.funcs[f]? = some fn → fn.body.isSome = true → fn.name ≠ "runtime.NumGoroutine") : Fit P (fun _ => Option.none) :=
  ⟨mixed, names, fun f g h => by cases h⟩
theorem heap_of_grel {φ : Phi} {g : Nat → AObj} {w : World} (hg : GRel P φ) (r : RelF φ g w) : P.globals.size ≤ w.heap.size := by
  rcases Nat.eq_zero_or_pos P.globals.size with h | h
  · omega
  · obtain ⟨sz, hs⟩ := hg (P.globals.size - 1) (by omega)
    have h1 := r.lt _ _ hs
    have h2 : (⟨P.globals.size - 1, 0, sz⟩ : Loc).blk = P.globals.size - 1 := rfl
    rw [h2] at h1
    omega
/-- new memory alone -/
theorem Step.fresh {φ : Phi} {h : H} {w w' : World} (r : RelF φ h.get w) (hb : Below w.heap.size w w') : Step φ h w φ h w' where
  ext := Phi.le_refl φ
  dom b l hb := .inl hb
  newl b l hn hs := by rw [hn] at hs; cases hs
  rel := ⟨r.dom, fun b l h => Nat.lt_of_lt_of_le (r.lt b l h) hb.size, fun b l h hg => by
    obtain ⟨o, h1, h2⟩ := r.obj b l h hg
    exact ⟨o, by rw [hb.block _ (r.lt b l h)]; exact h1, h2⟩, r.inj⟩
  keep β hβ _ := hb.block β hβ
  size := hb.size
  os := hb.os
  tape := hb.tape
  output := hb.output
theorem natTrue_ok (F : Fit P X) {k f : Nat} (hX : X f = none) (hG : P.globals.size ≤ maxBlocks) (hrun : okRun ((mkE P X k).call f [] (h0 P.globals.size)) = true) : NatOk P f natTrue := by
  intro args h v h' hwf hr
  unfold natTrue at hr
  split at hr
  · simp only [CRes.ret.injEq] at hr
    obtain ⟨rfl, rfl⟩ := hr
    refine ⟨AStep.refl h, fun kd hkd φ s w hC hrel hg win => ?_⟩
    obtain ⟨cl, hcl, rfl⟩ := hC
    cases hcl
    -- the run, from a heap of which nothing is known
    obtain ⟨h1, e1, e2⟩ := okRun_spec hrun
    have hW := heap_of_grel hg hrel
    have sim := (mkE_sim F k).call f [] (h0 P.globals.size) (.bool true) h1 (h0_wf hG) e1
    obtain ⟨cv, w', φ', d1, d2, st⟩ := sim.2 kd hkd (phi0 P.globals.size) _ w ⟨[], .nil, rfl⟩ (h0_rel hG hW) (phi0_grel (Nat.le_refl _)) (phi0_win h1)
    cases d2
    have hb : Below w.heap.size w w' := ⟨st.os, st.tape, st.output, st.size, fun k hk => st.keep k hk fun b l hb hl he => ⟨hb, by rw [e2]; simp⟩⟩
    exact ⟨.bool true, w', φ, d1, .bool, Step.fresh hrel hb⟩
  · cases hr
end
end Go.Ai

namespace Go.Ai
open Go Go.RowKit
set_option linter.unusedVariables false
section
variable {P : Program}
/-- **a run that looks at no old memory, carried over to the machine**: 'φ' says where the old blocks lie that it hands on -/
theorem run_calls' {X : FuncId → Option (List AV → H → CRes)} (F : Fit P X) {k f n : Nat} {args : List AV} {cl : List Value} (hX : X f = none) (hn : n ≤ maxBlocks)
    (hrun : okRun ((mkE P X k).call f args (h0 n)) = true) {W : World} {φ : Phi} (hφ : ∀ b l, φ b = some l → b < n ∧ l.blk < W.heap.size) (hg : GRel P φ) (hcl : VRels φ args cl) :
    Calls P f cl.toArray W fun e w' => e = .returned (.bool true) ∧ Below W.heap.size W w' := by
  obtain ⟨h', h1, h2⟩ := okRun_spec hrun
  have hrel : RelF φ (h0 n).get W := ⟨fun b l h => Nat.lt_of_lt_of_le (hφ b l h).1 hn, fun b l h => (hφ b l h).2, fun b l _ hg => absurd (get_gone6 b) hg, fun b c l m _ _ hg _ _ => absurd (get_gone6 b) hg⟩
  have hwin : Win φ (h0 n) h' := fun b hb _ => by
    cases hh : φ b with
    | none => rfl
    | some l => have := (hφ b l hh).1; have hb' : n ≤ b := hb; omega
  refine (call_calls F (h0_wf hn) hX h1 hcl hrel hg hwin).mono fun e w' ⟨cv, φ', he, hv, st⟩ => ?_
  cases hv
  exact ⟨he, st.os, st.tape, st.output, st.size, fun k hk => st.keep k hk fun b l hb hl he => ⟨hb, by rw [h2]; simp⟩⟩
theorem phi0_lt {G : Nat} {W : World} (hW : G ≤ W.heap.size) : ∀ b l, phi0 G b = some l → b < G ∧ l.blk < W.heap.size := fun b l h => by
  unfold phi0 at h
  split at h
  · rename_i hb; cases h; exact ⟨hb, Nat.lt_of_lt_of_le hb hW⟩
  · cases h
theorem phi_put_lt {n : Nat} {φ : Phi} {W : World} (hφ : ∀ b l, φ b = some l → b < n ∧ l.blk < W.heap.size) {L : Loc} (hL : L.blk < W.heap.size) : ∀ b l, φ.put n L b = some l → b < n + 1 ∧ l.blk < W.heap.size := fun b l h => by
  unfold Phi.put at h
  split at h
  · rename_i hb; cases h; exact ⟨by omega, hL⟩
  · have := hφ b l h; exact ⟨by omega, this.2⟩
theorem phi_put_grel {n : Nat} {φ : Phi} (hP : P.globals.size ≤ n) (hg : GRel P φ) {L : Loc} : GRel P (φ.put n L) := fun g h => by
  unfold Phi.put
  rw [if_neg (by omega)]
  exact hg g h

/-! what an argument is at least -/
theorem cell_of_okWide {w : World} {r : Go.Reach} {base : Nat} {t : TypeId} {v : Value} (h : Cell.okWide P w r base t v) : isCellV v = true := by
  unfold Cell.okWide at h
  split at h
  all_goals first
    | rfl
    | (unfold Cell.ok at h; split at h <;> first | rfl | exact h.elim)
theorem spot_of_has {w : World} {r : Go.Reach} {base n : Nat} {a : Addr} {e : TypeId} (h : w.has P r base a e n) : a.spot = none ∧ a.block < w.heap.size := by
  obtain ⟨_, h1, row, cells, h2, _⟩ := h
  refine ⟨h1, ?_⟩
  unfold World.shape? at h2
  split at h2
  · rename_i hh; exact (Array.getElem?_eq_some_iff.1 hh).1
  · cases h2
theorem slice_of_okWide {w : World} {r : Go.Reach} {base : Nat} {t e : TypeId} {v : Value} (ht : P.underlying t = some (.slice e)) (h : Cell.okWide P w r base t v) :
    v = .slice none 0 0 ∨ ∃ b o len cap, v = .slice (some ⟨b, o, none⟩) len cap ∧ b < w.heap.size ∧ len ≤ cap := by
  unfold Cell.okWide at h
  rw [ht] at h
  have h' : Cell.ok P w r base t v := by
    split at h
    all_goals first | exact h | (rename_i hh; simp at hh; done)
  unfold Cell.ok at h'
  rw [ht] at h'
  split at h'
  all_goals first
    | exact h'.elim
    | (left; rfl)
    | skip
  all_goals first
    | (rename_i hh; simp at hh; done)
    | skip
  · rename_i a len cap _
    obtain ⟨k1, k2, k3⟩ := h'
    obtain ⟨k4, k5⟩ := spot_of_has k3
    obtain ⟨b, o, s⟩ := a
    simp only at k4
    subst k4
    exact .inr ⟨b, o, len, cap, rfl, k5, k1⟩
def isStruct (P : Program) (t : TypeId) : Bool := match P.underlying t with | some (.struct _) => true | _ => false
/-- a struct's cells -/
theorem agg_of_okWide {w : World} {r : Go.Reach} {base : Nat} {t : TypeId} {ts : List TypeId} {v : Value} (ht : isStruct P t = true) (hc : P.cellTypes P.depth t = some ts) (hn : P.cellsOf t = ts.length)
    (h : Value.okWide P w r base t v) : ∃ cs : List Value, v = .agg cs.toArray ∧ cs.length = ts.length ∧ ∀ (i : Nat) c u, cs[i]? = some c → ts[i]? = some u → Cell.okWide P w r base u c := by
  unfold isStruct at ht
  split at ht <;> try cases ht
  rename_i fs hfs
  unfold Value.okWide at h
  rw [hfs] at h
  obtain ⟨cs, rfl, h1, ts', h2, _, h3⟩ := h
  obtain rfl : ts' = ts := Option.some.inj (h2.symm.trans hc)
  refine ⟨cs.toList, rfl, by simp [h1, hn], fun i c u hi hu => ?_⟩
  have hi' : cs[i]? = some c := by simpa using hi
  obtain ⟨u', k1, k2⟩ := h3 i c hi'
  have hlt := (Array.getElem?_eq_some_iff.1 hi').1
  rw [Nat.mod_eq_of_lt (by omega), hu] at k1
  cases k1
  exact k2
def opqs (n : Nat) : List AV := Nat.rec [] (fun _ l => .opq :: l) n
theorem opqs_rel {φ : Phi} : ∀ {cs : List Value}, (∀ c ∈ cs, isCellV c = true) → VRels φ (opqs cs.length) cs
  | [], _ => .nil
  | c :: cs, h => .cons (.opq (h c (by simp))) (opqs_rel fun c hc => h c (by simp [hc]))
/-- a struct that is not looked at -/
theorem opq_agg {w : World} {r : Go.Reach} {base n : Nat} {t : TypeId} {ts : List TypeId} {v : Value} (ht : isStruct P t = true) (hc : P.cellTypes P.depth t = some ts) (hn : P.cellsOf t = ts.length) (hl : ts.length = n)
    (h : Value.okWide P w r base t v) (φ : Phi) : VRel φ (.agg (opqs n)) v := by
  obtain ⟨cs, rfl, h1, h2⟩ := agg_of_okWide ht hc hn h
  have hall : ∀ c ∈ cs, isCellV c = true := fun c hc => by
    obtain ⟨i, hi⟩ := List.mem_iff_getElem?.1 hc
    have hlt := (List.getElem?_eq_some_iff.1 hi).1
    exact cell_of_okWide (h2 i c (ts[i]'(by omega)) hi (by rw [List.getElem?_eq_getElem]))
  have := VRel.agg (opqs_rel (φ := φ) hall) hall
  rw [h1, hl] at this
  exact this
/-- a cell that is not looked at -/
theorem opq_cell {w : World} {r : Go.Reach} {base : Nat} {t : TypeId} {v : Value} (ht : (match P.underlying t with | some (.struct _) | some (.array _ _) => false | _ => true) = true) (h : Value.okWide P w r base t v) (φ : Phi) : VRel φ .opq v := by
  refine .opq ?_
  unfold Value.okWide at h
  split at h
  · rename_i hh; rw [hh] at ht; cases ht
  · rename_i hh; rw [hh] at ht; cases ht
  · exact cell_of_okWide h
theorem Below.trodAll {H' : Type} {enc : TypeId × Value → H'} (hl : laidOutB P = true) {W W' : World} (hb : Below W.heap.size W W') :
    ∀ {ts : List TypeId} {vs : List Value} {ds : List (DataW H')} {ps : List MemPlace}, (ts.all fun t => P.readableRec t && decide (t < P.types.size)) = true → DataW.TrodAll enc P W 0 (fun _ => true) true ts vs ds ps →
      DataW.TrodAll enc P W' 0 (fun b => decide (b < W.heap.size)) true ts vs ds ps
  | [], [], [], _, _, h => h
  | [], [], _ :: _, _, _, h => h.elim
  | [], _ :: _, _, _, _, h => h.elim
  | _ :: _, [], _, _, _, h => h.elim
  | _ :: _, _ :: _, [], _, _, h => h.elim
  | t :: ts, v :: vs, d :: ds, ps, hv, h => by
    have hlt := DataW.TrodAll.lt h
    obtain ⟨p, q, h1, h2, rfl⟩ := h
    simp only [List.all_cons, Bool.and_eq_true, decide_eq_true_eq] at hv
    exact ⟨p, q, Below.trod hl hv.1.1 hv.1.2 h1 hb fun x hx => hlt x (by simp [hx]), Below.trodAll hl hb hv.2 h2, rfl⟩
end
end Go.Ai
