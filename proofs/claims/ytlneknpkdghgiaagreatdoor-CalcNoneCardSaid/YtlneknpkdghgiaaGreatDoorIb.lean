/- The soundness of the interpreter, continued: each operation. No condition. -/
import Derived.Test.YtlneknpkdghgiaaGreatDoorIa
import Derived.Laws.Append
set_option linter.unusedVariables false
set_option linter.unusedSimpArgs false
set_option linter.unnecessarySimpa false
set_option linter.unusedSectionVars false
namespace Go.Ai
open Go
set_option linter.unusedVariables false

section
variable {P : Program}
theorem toBytesS_spec {src dst e : TypeId} (hs : P.underlying src = some .string) (hd : P.underlying dst = some (.slice e)) (he : P.underlying e = some (.int .u8)) (a : AV) :
    OpSpec P (toBytesS a) (C1 a fun ca => vN (convert src dst ca)) := by
  intro h hwf
  cases a with
  | str s =>
    simp only [toBytesS, fN_eq, bytesA_eq, lenA_eq]
    refine spec_new (o := .cells none (s.map fun b => .int .u8 (.ofNat b))) (v := fun b => .slo b 0 s.length 1) hwf ?_
    rintro φ σ w ⟨ca, ha, rfl⟩ r
    cases ha with
    | @str b =>
      have hcap : b.size ≤ grownCap w b.size 0 e := by simp [grownCap, Question.cut]
      refine ⟨.slice (some ⟨w.heap.size, 0, none⟩) b.size (grownCap w b.size 0 e),
        .cells (b.data.map (fun x => Value.int .u8 (x.toNat : Int)) ++ Array.replicate (grownCap w b.size 0 e - b.size) (.int .u8 0)) e (grownCap w b.size 0 e, grownCap w b.size 0 e + 1),
        grownCap w b.size 0 e, (w.drew.alloc (.cells (b.data.map (fun x => Value.int .u8 (x.toNat : Int)) ++ Array.replicate (grownCap w b.size 0 e - b.size) (.int .u8 0)) e)).freeze ⟨w.heap.size, grownCap w b.size 0 e, none⟩ 1, ?_, ?_, rfl, rfl, rfl, ?_, ?_⟩
      · refine Yield.val ?_
        have hsz : b.data.size = b.size := rfl
        have hrow : (b.data.map (fun x : UInt8 => Value.int .u8 (x.toNat : Int)) ++ Array.replicate (grownCap w b.size 0 e - b.size) (Value.int .u8 0)).size = grownCap w b.size 0 e := by simp [hsz]; omega
        generalize hR : (b.data.map (fun x : UInt8 => Value.int .u8 (x.toNat : Int)) ++ Array.replicate (grownCap w b.size 0 e - b.size) (Value.int .u8 0)) = R at hrow ⊢
        have hsh : (w.drew.alloc (.cells R e)).shape? w.heap.size = some (e, grownCap w b.size 0 e) := by
          rw [← hrow]
          unfold World.shape?
          rw [show w.heap.size = w.drew.heap.size from rfl, heap_alloc_new]
        simp only [convert, Sem.run_bind, run_und hs, run_und hd, run_und he, Result.andThen_ok, Conv.stringToBytes, run_choose, Question.forced, Bool.false_eq_true, if_false, World.drew_eq, newRow, run_newObj, World.alloc_eq,
          Sem.run_pure, markStringish, run_shape, run_freeze]
        have hg : (Question.appendCap b.size 0 e).cut (w.tape w.drawn (Question.appendCap b.size 0 e)) = grownCap w b.size 0 e := rfl
        have hdr : w.drew.heap.size = w.heap.size := rfl
        simp only [hg, hR, hdr, hsh, Sem.run_bind, run_freeze, Result.andThen_ok, Sem.run_pure]
      · simp only [World.freeze, World.alloc, World.drew]
        apply Array.ext_getElem?
        intro i
        simp [Array.getElem?_modify, Array.getElem?_push]
        by_cases hi : w.heap.size = i
        · subst hi; simp
        · have hi' : i ≠ w.heap.size := fun x => hi x.symm
          simp [hi, hi']
      · have hsz : b.data.size = b.size := rfl
        refine .cells (by simp; omega) ⟨fun i v hv => ?_⟩ (fun i hi => by simp at hi ⊢; omega) (by simp)
        have hlt : i < b.size := by
          have := (List.getElem?_eq_some_iff.1 hv).1
          simpa [baS_length] using this
        obtain ⟨y, y1, y2⟩ := (bytes_rel (φ := φ) b).get _ _ hv
        refine ⟨y, ?_, y2, ?_⟩
        · simp only [Nat.zero_add]
          rw [Array.getElem?_append_left (by simp [hsz, hlt])]
          simpa using y1
        · have := List.mem_of_getElem? y1
          obtain ⟨x, _, rfl⟩ := List.mem_map.1 this
          rfl
      · intro φ' _ hn
        have := VRel.slo (φ := φ') (b := h.next) (o := 0) (len := b.size) (esz := 1) (c := grownCap w b.size 0 e) hn hcap (by simp)
        simpa [baS_length] using this
  | _ => exact spec_fail

theorem toUnsafeS_spec {src dst el : TypeId} {n : Nat} (hs : P.underlying src = some (.pointer el)) (hd : P.underlying dst = some .unsafePointer) (hn : szOf P el = some (n + 1)) (a : AV) :
    OpSpec P (toUnsafeS a) (C1 a fun ca => vN (convert src dst ca)) := by
  intro h hwf
  cases a with
  | nilptr =>
    refine spec_pure1 fun φ ca w ha => ?_
    cases ha
    exact ⟨_, by simp [convert, run_und hs, run_und hd, Conv.unsafePointer], .nilptr⟩
  | ptr b o =>
    simp only [toUnsafeS, H.cells]
    cases hc : h.get b with
    | cells el' cs =>
      simp only
      cases hb : Nat.blt o (lenA cs) with
      | false => exact spec_fail
      | true =>
        have ho : o < cs.length := by rw [lenA_eq] at hb; exact Nat.le_of_ble_eq_true hb
        refine spec_pure ?_
        rintro φ σ w ⟨ca, ha, rfl⟩ r
        cases ha with
        | @ptr _ _ L hp =>
          obtain ⟨c, e, fr, k1, k2, k3, k4, k5⟩ := r.cells hp hc
          obtain ⟨x, hx⟩ : ∃ x, cs[o]? = some x := ⟨_, List.getElem?_eq_getElem ho⟩
          obtain ⟨cv, m1, _⟩ := k3.get _ _ hx
          have hlt := (Array.getElem?_eq_some_iff.1 m1).1
          refine ⟨_, run_val ?_, .ptr hp⟩
          have hsh : w.shape? L.blk = some (e, c.size) := by simp [World.shape?, k1]
          simp [convert, run_und hs, run_und hd, Conv.unsafePointer, Conv.seenAt, viewAt, cellsIn, hsh, sz_sizeOf hn]
          omega
    | _ => exact spec_fail
  | _ => exact spec_fail
theorem ofUnsafeS_spec {src dst u : TypeId} {n : Nat} (hs : P.underlying src = some .unsafePointer) (hd : P.underlying dst = some (.pointer u)) (hn : szOf P u = some (n + 1)) (a : AV) :
    OpSpec P (ofUnsafeS (fun e n o => liesAt P P.depth e (n / P.cellsOf e) o u 1) a) (C1 a fun ca => vN (convert src dst ca)) := by
  intro h hwf
  cases a with
  | nilptr =>
    refine spec_pure1 fun φ ca w ha => ?_
    cases ha
    exact ⟨_, by simp [convert, run_und hs, run_und hd, Conv.unsafePointer], .nilptr⟩
  | ptr b o =>
    simp only [ofUnsafeS]
    cases hc : h.get b with
    | cells el' cs =>
      cases el' with
      | none => exact spec_fail
      | some e =>
        simp only
        cases hl : liesAt P P.depth e (lenA cs / P.cellsOf e) o u 1 with
        | false => exact spec_fail
        | true =>
          refine spec_pure ?_
          rintro φ σ w ⟨ca, ha, rfl⟩ r
          cases ha with
          | @ptr _ _ L hp =>
            obtain ⟨c, e', fr, k1, k2, k3, k4, k5⟩ := r.cells hp hc
            obtain ⟨q1, q2, q3⟩ := k5 e rfl
            subst q3
            refine ⟨_, run_val ?_, .ptr hp⟩
            have hsh : w.shape? L.blk = some (e', c.size) := by simp [World.shape?, k1]
            rw [lenA_eq, q2] at hl
            simp [convert, run_und hs, run_und hd, Conv.unsafePointer, Conv.seenAt, viewAt, variablesAt, hsh, sz_sizeOf hn, q1, hl]
    | _ => exact spec_fail
  | _ => exact spec_fail

-- rows filled with zero values
theorem replA_eq (n : Nat) (z : List AV) : ∀ K, replA n z K = K (List.replicate n z).flatten := by
  induction n with
  | zero => intro K; rfl
  | succ n ih =>
    intro K
    have : replA (n + 1) z K = replA n z fun r => appK z r K := rfl
    rw [this, ih, appK_eq]
    rfl
theorem range_rows {α : Type} (g : Nat → α) (m : Nat) : ∀ n, (List.range (n * m)).map (fun i => g (i % m)) = (List.replicate n ((List.range m).map g)).flatten := by
  intro n
  induction n with
  | zero => simp
  | succ n ih =>
    have e : (n + 1) * m = m + n * m := by rw [Nat.add_mul, Nat.one_mul, Nat.add_comm]
    rw [e, List.range_add, List.map_append, List.map_map, List.replicate_succ, List.flatten_cons, ← ih]
    congr 1
    · apply List.map_congr_left
      intro i hi
      rw [Nat.mod_eq_of_lt (List.mem_range.1 hi)]
    · apply List.map_congr_left
      intro i _
      simp
theorem zeroCells_eq (z : Array Value) (n : Nat) : (Builtin.zeroCells z n).toList = (List.replicate n z.toList).flatten := by
  unfold Builtin.zeroCells
  rw [Array.toList_map, Array.toList_range, range_rows (fun i => z[i]!)]
  congr 2
  apply List.ext_getElem
  · simp
  · intro i h1 h2
    simp at h1
    simp [h1]
theorem madeCells_eq (z : Array Value) (n : Nat) : (Go.madeCells z (n * z.size)).toList = (List.replicate n z.toList).flatten := by
  rw [← zeroCells_eq]; rfl
theorem VRels.repl {φ : Phi} {z : List AV} {zv : List Value} (h : VRels φ z zv) (n : Nat) : VRels φ (List.replicate n z).flatten (List.replicate n zv).flatten := by
  induction n with
  | zero => exact .nil
  | succ n ih => rw [List.replicate_succ, List.replicate_succ, List.flatten_cons, List.flatten_cons]; exact h.append ih
theorem repl_cell {zv : List Value} (h : ∀ x ∈ zv, isCellV x = true) (n : Nat) : ∀ x ∈ (List.replicate n zv).flatten, isCellV x = true := by
  intro x hx
  obtain ⟨l, hl, hx⟩ := List.mem_flatten.1 hx
  rw [List.mem_replicate] at hl
  exact h x (hl.2 ▸ hx)
theorem zeroAt_rel {n : Nat} {t : TypeId} {z : List AV} (h : zeroAt P n t = some z) :
    z.length = n ∧ ∃ i v, P.info? t = some i ∧ i.zero = some v ∧ v.cells.size = n ∧ (∀ w, (zeroValue t).run P w = .ok v w) ∧ ∀ φ : Phi, VRels φ z v.cells.toList ∧ ∀ x ∈ v.cells.toList, isCellV x = true := by
  unfold zeroAt at h
  split at h
  · rename_i z' hz
    split at h
    · rename_i hb
      simp only [Option.some.injEq] at h; subst h
      have hl := Nat.eq_of_beq_eq_true hb
      rw [lenA_eq] at hl
      refine ⟨hl, ?_⟩
      have hz' := hz
      unfold zeroOf zeroV at hz'
      cases hi : P.info? t with
      | none => rw [hi] at hz'; cases hz'
      | some i =>
        rw [hi] at hz'
        cases hzv : i.zero with
        | none => simp [hzv] at hz'
        | some v =>
          obtain ⟨v', h1, h2⟩ := zeroOf_rel hz
          have : v' = v := by
            have hh := h1 default
            simp [zeroValue, typeInfo, hi, hzv] at hh
            exact hh.symm
          subst this
          refine ⟨i, v', rfl, hzv, ?_, h1, h2⟩
          have := (h2 (fun _ => none)).1.length
          rw [hl] at this
          simpa using this.symm
    · cases h
  · cases h
theorem makeSliceS_spec {ty el : TypeId} {i : TypeInfo} {z : List AV} (hu : P.underlying ty = some (.slice el)) (hi : P.info? el = some i) (hz : zeroAt P i.size el = some z) (l cp : AV) :
    OpSpecA P (makeSliceS el i.bytes z l cp) (C2 l cp fun cl cc => vN (Instr.makeSlice ty cl cc)) := by
  intro h hwf
  obtain ⟨z0, i', v, z1, z2, z3, z4, z5⟩ := zeroAt_rel hz
  rw [hi] at z1
  have := Option.some.inj z1
  subst this
  unfold makeSliceS
  split
  · rename_i kl ln kc cn
    cases hb : cond (Nat.ble ln cn) (capOK i.bytes cn) false with
    | false => exact specA_fail
    | true =>
      simp only [replA_eq]
      have hlc : ln ≤ cn := by
        cases hh : Nat.ble ln cn with
        | true => exact Nat.le_of_ble_eq_true hh
        | false => rw [hh] at hb; cases hb
      have hok : capOK i.bytes cn = true := by
        cases hh : Nat.ble ln cn with
        | true => rw [hh] at hb; exact hb
        | false => rw [hh] at hb; cases hb
      have hcap : cn ≤ 1000000 ∧ i.bytes ≤ 4096 := by
        unfold capOK at hok
        cases hh : Nat.ble cn 1000000 with
        | true => rw [hh] at hok; exact ⟨Nat.le_of_ble_eq_true hh, Nat.le_of_ble_eq_true hok⟩
        | false => rw [hh] at hok; cases hok
      refine specA_new (o := .cells (some el) (List.replicate cn z).flatten) (v := fun b => .slice b 0 ln cn) hwf ?_
      rintro φ σ w ⟨cl, cc, hl, hc, rfl⟩ r
      cases hl; cases hc
      have hbytes : (i.bytes : Int) * (Int.ofNat cn) ≤ 281474976710656 := by
        have : i.bytes * cn ≤ 4096 * 1000000 := Nat.mul_le_mul hcap.2 hcap.1
        have e : (i.bytes : Int) * (Int.ofNat cn) = ((i.bytes * cn : Nat) : Int) := by simp
        rw [e]; omega
      have hrun := run_make (P := P) w ty el i v hu hi z2 kl kc (Int.ofNat ln) (Int.ofNat cn) (Int.natCast_nonneg _) (by simpa using hlc) hbytes (by simp; omega)
      have hcells : (Go.madeCells v.cells ((Int.ofNat cn).toNat * i.size)).toList = (List.replicate cn v.cells.toList).flatten := by
        rw [toNat_ofNat, ← z3, madeCells_eq]
      refine ⟨_, _, _, _, Yield.val hrun, rfl, rfl, rfl, rfl, rel_row' (n := w.heap.size) (t := el) (a := Go.madeCells v.cells ((Int.ofNat cn).toNat * i.size)) ?_ ?_ _ (fun u hu => by cases hu; rfl), fun φ' _ hn => ?_⟩
      · rw [hcells]; exact (z5 φ).1.repl cn
      · rw [hcells]; exact repl_cell (z5 φ).2 cn
      · exact VRel.slice (o := 0) (len := ln) (cap := cn) hn
  · exact specA_fail
theorem makeMap_spec (h : H) (hwf : h.WF) {ty : TypeId} : SpecA P (fun φ σ => σ = vN (Instr.makeMap ty none)) h fun K => h.new (.map []) fun b h => K (.map b) h := by
  refine specA_new (o := .map []) (v := fun b => .map b) hwf ?_
  rintro φ σ w rfl r
  exact ⟨_, .map #[] 0, 0, w.alloc (.map #[] 0), Yield.val (by simp [Instr.makeMap]), rfl, rfl, rfl, rfl, .map .nil, fun φ' _ hn => .map hn⟩
theorem makeMapS_spec {ty k e : TypeId} (hu : P.underlying ty = some (.map k e)) (a : AV) : OpSpecA P (makeMapS a) (C1 a fun ca => vN (Instr.makeMap ty (some ca))) := by
  intro h hwf
  cases a with
  | int kk n =>
    refine specA_new (o := .map []) (v := fun b => .map b) hwf ?_
    rintro φ σ w ⟨ca, ha, rfl⟩ r
    cases ha
    exact ⟨_, .map #[] 0, 0, w.alloc (.map #[] 0), Yield.val (by simp [Instr.makeMap, run_und hu, asInt, asIntOf]), rfl, rfl, rfl, rfl, .map .nil, fun φ' _ hn => .map hn⟩
  | _ => exact specA_fail
end
end Go.Ai

namespace Go.Ai
open Go
set_option linter.unusedVariables false

section
variable {P : Program}
/-- cells, all of them -/
def Full (φ : Phi) (cs : List AV) (c : Array Value) : Prop := VRels φ cs c.toList ∧ ∀ x ∈ c.toList, isCellV x = true
theorem Full.crel {φ : Phi} {cs : List AV} {c : Array Value} (h : Full φ cs c) : CRel φ 0 cs c :=
  ⟨fun i v hv => let ⟨y, h1, h2⟩ := h.1.get i v hv; ⟨y, by simpa using h1, h2, h.2 y (List.mem_of_getElem? h1)⟩⟩
theorem CRel.full {φ : Phi} {cs : List AV} {c : Array Value} (h : CRel φ 0 cs c) (hl : cs.length = c.size) : Full φ cs c := by
  constructor
  · refine VRels.of_get (by simpa using hl) fun i x y hx hy => ?_
    obtain ⟨cv, h1, h2, _⟩ := h.get i x hx
    simp at h1 hy
    rw [hy] at h1
    cases h1; exact h2
  · intro x hx
    obtain ⟨i, hi⟩ := List.mem_iff_getElem?.1 hx
    have hlt := (List.getElem?_eq_some_iff.1 hi).1
    simp at hlt
    obtain ⟨a, ha⟩ : ∃ a, cs[i]? = some a := ⟨_, List.getElem?_eq_getElem (by omega)⟩
    obtain ⟨cv, h1, _, h3⟩ := h.get i a ha
    simp at h1 hi
    rw [hi] at h1; cases h1; exact h3
theorem fold_wr (vs : List Value) : ∀ (k off : Nat) (c : Array Value), ((vs.zipIdx k).foldl (fun cs (p : Value × Nat) => cs.setIfInBounds (off + p.2) p.1) c) = wr c (off + k) vs := by
  induction vs with
  | nil => intro k off c; rfl
  | cons v vs ih =>
    intro k off c
    simp only [List.zipIdx_cons, List.foldl_cons, wr]
    rw [ih (k + 1) off]
    congr 1
theorem fold_wr_arr (vs : Array Value) (off : Nat) (c : Array Value) : vs.zipIdx.foldl (fun cs (c, j) => cs.setIfInBounds (off + j) c) c = wr c off vs.toList := by
  have := fold_wr vs.toList 0 off c
  rw [← Array.foldl_toList, Array.toList_zipIdx]
  exact this
theorem fillA_cases (ps : List (Nat × Nat)) : ∀ (vs z : List AV), (∃ e, ∀ K, fillA ps vs z K = .fail e) ∨ ∃ cs, (∀ K, fillA ps vs z K = K cs) ∧
    ∀ (φ : Phi) (cz : Array Value) (cvs : List Value) (place : Nat → Option (Nat × Nat)) (is : List Nat), Full φ z cz → VRels φ vs cvs → is.length = ps.length → (∀ (j : Nat) (p : Nat × Nat) (i : Nat), ps[j]? = some p → is[j]? = some i → place i = some p) →
      ∃ cc, Instr.fill place cz (is.zip cvs) = some cc ∧ Full φ cs cc ∧ cc.size = cz.size := by
  induction ps with
  | nil =>
    intro vs z
    cases vs with
    | nil => exact .inr ⟨z, fun _ => rfl, fun φ cz cvs place is hz hv hl _ => by
        cases hv
        have : is = [] := List.length_eq_zero_iff.1 hl
        subst this
        exact ⟨cz, rfl, hz, rfl⟩⟩
    | cons v vs => exact .inl ⟨_, fun _ => rfl⟩
  | cons p ps ih =>
    intro vs z
    cases vs with
    | nil => exact .inl ⟨_, fun _ => rfl⟩
    | cons v vs =>
      have hd : ∀ K, fillA (p :: ps) (v :: vs) z K = (match cellsOfA v with
        | some cs => match Nat.beq (lenA cs) p.2 with
          | true => spliceK (.fail "fill") p.1 cs z fun cells => fillA ps vs cells K
          | false => .fail "fill: size"
        | none => .fail "fill") := fun _ => rfl
      cases hc : cellsOfA v with
      | none => exact .inl ⟨_, fun K => by rw [hd, hc]⟩
      | some cs =>
        cases hb : Nat.beq (lenA cs) p.2 with
        | false => exact .inl ⟨_, fun K => by rw [hd, hc]; simp only [hb]; rfl⟩
        | true =>
          have hl := Nat.eq_of_beq_eq_true hb
          rw [lenA_eq] at hl
          by_cases hs : p.1 + cs.length ≤ z.length
          · rcases ih vs (splice p.1 cs z) with ⟨e, he⟩ | ⟨r, h1, h2⟩
            · exact .inl ⟨e, fun K => by rw [hd, hc]; simp only [hb, spliceK_eq, if_pos hs, he]⟩
            · refine .inr ⟨r, fun K => by rw [hd, hc]; simp only [hb, spliceK_eq, if_pos hs, h1], ?_⟩
              intro φ cz cvs place is hz hv hlen hpl
              cases hv with
              | @cons _ cv _ cvs hv hvl =>
                cases is with
                | nil => simp at hlen
                | cons i is =>
                  obtain ⟨q1, q2⟩ := hv.cells hc
                  have hcl := q1.length
                  have hzl := hz.1.length
                  simp at hcl hzl
                  have hcr := hz.crel.splice (o := p.1) q1 q2 hs
                  rw [Nat.zero_add] at hcr
                  have hfull := hcr.full (by rw [length_splice hs, size_wr]; simpa using hzl)
                  obtain ⟨cc, k1, k2, k3⟩ := h2 φ _ cvs place is hfull hvl (by simpa using hlen) (fun j p' i' hj hi' => hpl (j + 1) p' i' (by simpa using hj) (by simpa using hi'))
                  refine ⟨cc, ?_, k2, by rw [k3, size_wr]⟩
                  simp only [List.zip_cons_cons, Instr.fill, hpl 0 p i rfl rfl]
                  have : ¬ ((cv.cells.size ≠ p.2 || p.1 + cv.cells.size > cz.size) = true) := by
                    simp; omega
                  rw [if_neg this]
                  rw [fold_wr_arr]
                  exact k1
          · exact .inl ⟨_, fun K => by rw [hd, hc]; simp only [hb, spliceK_eq, if_neg hs]; rfl⟩
theorem mapE_length {α β : Type} {f : α → Option β} : ∀ {l : List α} {r : List β}, mapE f l = some r → r.length = l.length
  | [], r, h => by simp [mapE] at h; subst h; rfl
  | x :: l, r, h => by
    simp only [mapE] at h
    split at h
    · rename_i y r' h1 h2
      simp only [Option.some.injEq] at h; subst h
      simp [mapE_length h2]
    · cases h
theorem mapE_get {α β : Type} {f : α → Option β} : ∀ {l : List α} {r : List β}, mapE f l = some r → ∀ (i : Nat) x, l[i]? = some x → ∃ y, r[i]? = some y ∧ f x = some y
  | [], r, h, i, x, hx => by simp at hx
  | z :: l, r, h, i, x, hx => by
    simp only [mapE] at h
    split at h
    · rename_i y r' h1 h2
      simp only [Option.some.injEq] at h; subst h
      cases i with
      | zero => simp at hx; subst hx; exact ⟨y, rfl, h1⟩
      | succ i => simpa using mapE_get h2 i x (by simpa using hx)
    · cases h

/-- the parts of a build: where, and which operands -/
def CB (F : Array (Nat × Value) → Sem Next) (is : List Nat) (vs : List AV) : Phi → Sem Next → Prop := fun φ σ => ∃ cvs, VRels φ vs cvs ∧ σ = F (is.zip cvs).toArray
theorem run_mapM_places (w : World) : ∀ (fs : List Field) {pl : List (Nat × Nat)}, mapE (fun f : Field => (szOf P f.type).map fun n => (f.offset, n)) fs = some pl →
    (fs.mapM fun f => do pure (f.offset, ← sizeOf f.type) : Sem (List (Nat × Nat))).run P w = .ok pl w := by
  intro fs
  induction fs with
  | nil => intro pl h; simp [mapE] at h; subst h; simp
  | cons f fs ih =>
    intro pl h
    simp only [mapE] at h
    split at h
    · rename_i y r h1 h2
      simp only [Option.some.injEq] at h; subst h
      cases hs : szOf P f.type with
      | none => rw [hs] at h1; cases h1
      | some n =>
        rw [hs] at h1
        simp only [Option.map_some, Option.some.injEq] at h1; subst h1
        simp only [List.mapM_cons, Sem.run_bind, sz_sizeOf hs, Result.andThen_ok, Sem.run_pure, ih h2]
    · cases h
theorem buildStruct_spec {ty : TypeId} {fs : Array Field} {z : List AV} {pl ps : List (Nat × Nat)} {is : List Nat} (hu : P.underlying ty = some (.struct fs)) (hz : zeroOf P ty = some z)
    (hpl : mapE (fun f : Field => (szOf P f.type).map fun n => (f.offset, n)) fs.toList = some pl) (hps : mapE (fun i => pl[i]?) is = some ps) (vs : List AV) :
    OpSpecP P (buildS ps z vs) (CB (fun parts => vN (Instr.build ty parts)) is vs) := by
  intro h hwf
  obtain ⟨v, z1, z2⟩ := zeroOf_rel hz
  rcases fillA_cases ps vs z with ⟨e, he⟩ | ⟨cs, h1, h2⟩
  · simp only [buildS, he]; exact specP_fail
  · simp only [buildS, h1]
    refine specP_pure ?_
    rintro φ σ w ⟨cvs, hv, rfl⟩ r
    have hsz := mapE_length hps
    obtain ⟨cc, k1, k2, k3⟩ := h2 φ v.cells cvs (fun i => pl.toArray[i]?) is (z2 φ) hv hsz.symm (fun j p i hp hi => by
      obtain ⟨y, y1, y2⟩ := mapE_get hps j i hi
      rw [hp] at y1; cases y1
      simpa using y2)
    refine ⟨.agg cc, run_val ?_, by simpa using VRel.agg k2.1 k2.2⟩
    have hm := run_mapM_places (P := P) w fs.toList hpl
    have hm' : (fs.mapM fun f => do pure (f.offset, ← sizeOf f.type) : Sem (Array (Nat × Nat))).run P w = .ok pl.toArray w := by
      rw [Array.mapM_eq_mapM_toList]
      simp only [Sem.run_bind, Sem.run_map, hm, Result.andThen_ok, Sem.run_pure]
    simp only [Instr.build, Sem.run_bind, z1, Result.andThen_ok, run_und hu, hm']
    rw [k1]
    rfl
theorem buildArr_spec {ty el : TypeId} {len n : Nat} {z : List AV} {is : List Nat} (hu : P.underlying ty = some (.array len el)) (hz : zeroOf P ty = some z) (hn : szOf P el = some n) (vs : List AV) :
    OpSpecP P (buildS (is.map fun i => (i * n, n)) z vs) (CB (fun parts => vN (Instr.build ty parts)) is vs) := by
  intro h hwf
  obtain ⟨v, z1, z2⟩ := zeroOf_rel hz
  rcases fillA_cases (is.map fun i => (i * n, n)) vs z with ⟨e, he⟩ | ⟨cs, h1, h2⟩
  · simp only [buildS, he]; exact specP_fail
  · simp only [buildS, h1]
    refine specP_pure ?_
    rintro φ σ w ⟨cvs, hv, rfl⟩ r
    obtain ⟨cc, k1, k2, k3⟩ := h2 φ v.cells cvs (fun i => some (i * n, n)) is (z2 φ) hv (by simp) (fun j p i hp hi => by
      rw [List.getElem?_map, hi] at hp
      simpa using hp)
    refine ⟨.agg cc, run_val ?_, by simpa using VRel.agg k2.1 k2.2⟩
    simp only [Instr.build, Sem.run_bind, z1, Result.andThen_ok, run_und hu, sz_sizeOf hn]
    rw [k1]
    rfl
theorem buildSlice_spec {ty el : TypeId} {len n : Nat} {z : List AV} {is : List Nat} (hu : P.underlying ty = some (.slice el)) (hz : zeroAt P n el = some z) (hn : szOf P el = some n)
    (hlen : Nat.ble (len * n) 100000 = true) (vs : List AV) :
    OpSpecA P (buildSliceS el (is.map fun i => (i * n, n)) len z vs) (CB (fun parts => vN (Instr.buildSlice ty len parts)) is vs) := by
  intro h hwf
  obtain ⟨z0, i, v, zi, z2, z3, z4, z5⟩ := zeroAt_rel hz
  simp only [buildSliceS, replA_eq]
  rcases fillA_cases (is.map fun i => (i * n, n)) vs (List.replicate len z).flatten with ⟨e, he⟩ | ⟨cs, h1, h2⟩
  · simp only [he]; exact specA_fail
  · simp only [h1]
    refine specA_new (o := .cells (some el) cs) (v := fun b => .slice b 0 len len) hwf ?_
    rintro φ σ w ⟨cvs, hv, rfl⟩ r
    have hrow : Full φ (List.replicate len z).flatten (Go.madeCells v.cells (len * n)) := by
      constructor
      · rw [← z3, madeCells_eq]; exact (z5 φ).1.repl len
      · rw [← z3, madeCells_eq]; exact repl_cell (z5 φ).2 len
    obtain ⟨cc, k1, k2, k3⟩ := h2 φ _ cvs (fun i => some (i * n, n)) is hrow hv (by simp) (fun j p i hp hi => by
      rw [List.getElem?_map, hi] at hp
      simpa using hp)
    have hle : ¬ (len * n > 2 ^ 24) := by have := Nat.le_of_ble_eq_true hlen; omega
    refine ⟨_, .cells cc el, cc.size, w.alloc (.cells cc el), Yield.val (v := .slice (some ⟨w.heap.size, 0, none⟩) len len) ?_, rfl, rfl, rfl, rfl, rel_row' k2.1 k2.2 _ (fun u hu => by cases hu; rfl), fun φ' _ hn => ?_⟩
    · by_cases h0 : len * n = 0
      · have e1 : Go.madeCells v.cells (len * n) = #[] := Array.size_eq_zero_iff.1 (by rw [size_madeCells, h0])
        rw [e1] at k1
        simp only [Instr.buildSlice, Sem.run_bind, run_und hu, Result.andThen_ok, sz_sizeOf hn, if_neg hle, Sem.run_pure, if_pos h0]
        have e2 : (Array.range (len * n)).map ((#[] : Array Value)[· % (#[] : Array Value).size]!) = #[] := Array.size_eq_zero_iff.1 (by simp [h0])
        rw [e2, k1]
        simp [newRow]
      · simp only [Instr.buildSlice, Sem.run_bind, run_und hu, Result.andThen_ok, sz_sizeOf hn, if_neg hle, Sem.run_pure, if_neg h0, z4]
        have e2 : (Array.range (len * n)).map (v.cells[· % v.cells.size]!) = Go.madeCells v.cells (len * n) := rfl
        rw [e2, k1]
        simp [newRow]
    · exact VRel.slice (o := 0) hn
end
end Go.Ai

namespace Go.Ai
open Go
set_option linter.unusedVariables false

section
variable {P : Program} {ats : Array TypeId} {st xt ty el : TypeId} {i : TypeInfo} {zv : Value}
theorem run_app_in {w : World} (h0 : ats[0]? = some st) (h1 : ats[1]? = some xt) (hu : P.underlying st = some (.slice el)) (hx : P.underlying xt = some .string ∨ ∃ e, P.underlying xt = some (.slice e))
    (hi : P.info? el = some i) {base : Option Addr} {sLen sCap n : Nat} {cx : Value} {news : Array Value} (hlen : (Builtin.lenOf cx).run P w = .ok n w) (hf : (Builtin.firstCells i.size n cx).run P w = .ok news w)
    (hle : sLen + n ≤ sCap) :
    (Builtin.append_ ats ty #[.slice base sLen sCap, cx]).run P w =
      ((match base with | some a => storeCells (a.add (sLen * i.size)) news.toList | none => pure ()).run P w).andThen fun _ w => .ok (.slice base (sLen + n) sCap) w := by
  rcases hx with hx | ⟨e, hx⟩
  · simp [Builtin.append_, h0, h1, run_und hu, run_und hx, sizeOf, run_info hi, hlen, hf, hle]
    cases base <;> simp
  · simp [Builtin.append_, h0, h1, run_und hu, run_und hx, sizeOf, run_info hi, hlen, hf, hle]
    cases base <;> simp
theorem run_app_grow {w : World} (h0 : ats[0]? = some st) (h1 : ats[1]? = some xt) (hu : P.underlying st = some (.slice el)) (hx : P.underlying xt = some .string ∨ ∃ e, P.underlying xt = some (.slice e))
    (hi : P.info? el = some i) (hz : i.zero = some zv) {base : Option Addr} {sLen sCap n : Nat} {cx : Value} {olds news : Array Value} (hlen : (Builtin.lenOf cx).run P w = .ok n w)
    (hf : (Builtin.firstCells i.size n cx).run P w.drew = .ok news w.drew) (hfo : (Builtin.firstCells i.size sLen (.slice base sLen sCap)).run P w.drew = .ok olds w.drew)
    (hg : sCap < sLen + n) (hneed : sLen + n ≤ 1000000) (hbytes : i.bytes ≤ 4096) :
    (Builtin.append_ ats ty #[.slice base sLen sCap, cx]).run P w =
      .ok (.slice (some ⟨w.heap.size, 0, none⟩) (sLen + n) (grownCap w (sLen + n) sCap el))
        (w.drew.alloc (.cells (olds ++ news ++ Builtin.zeroCells zv.cells (grownCap w (sLen + n) sCap el - (sLen + n))) el)) := by
  have hn : ¬ (sLen + n ≤ sCap) := by omega
  have h63' : ¬ (9223372036854775807 < ((sLen : Int) + (n : Int))) := by omega
  have h48' : ¬ (281474976710656 < Builtin.nextslicecap (sLen + n) sCap * i.bytes) := by
    have := growslice_fits (need := sLen + n) (old := sCap) (bytes := i.bytes) hg (by
      have : (sLen + n) * i.bytes ≤ 1000000 * 4096 := Nat.mul_le_mul hneed hbytes
      omega)
    omega
  rcases hx with hx | ⟨e, hx⟩ <;>
    simp [Builtin.append_, h0, h1, run_und hu, run_und hx, sizeOf, run_info hi, zeroValue, hz, hlen, hf, hfo, hn, h63', h48', Question.forced, newRow, grownCap]
theorem run_app_in0 {w : World} {k : IntKind} (h0 : ats[0]? = some st) (h1 : ats[1]? = some xt) (hu : P.underlying st = some (.slice el)) (hx : P.underlying xt = some (.int k))
    (hi : P.info? el = some i) (hz : i.zero = some zv) (hzs : zv.cells.size = i.size) {base : Option Addr} {sLen sCap n : Nat} {k' : IntKind}
    (hle : sLen + n ≤ sCap) (hneed : sLen + n ≤ 1000000) (hbytes : i.bytes ≤ 4096) :
    (Builtin.append_ ats ty #[.slice base sLen sCap, .int k' (n : Int)]).run P w =
      ((match base with | some a => storeCells (a.add (sLen * i.size)) (Builtin.zeroCells zv.cells n).toList | none => pure ()).run P w).andThen fun _ w => .ok (.slice base (sLen + n) sCap) w := by
  have wl : IntKind.i64.wrap (n : Int) = n := by rw [IntKind.wrap_i64]; omega
  have b1 : ¬ (281474976710656 < (n : Int) * (i.bytes : Int)) := by
    have : n * i.bytes ≤ 1000000 * 4096 := Nat.mul_le_mul (by omega) hbytes
    have e : (n : Int) * (i.bytes : Int) = ((n * i.bytes : Nat) : Int) := by simp
    rw [e]; omega
  have b2 : ¬ ((n : Int) < 0) := by omega
  by_cases hns : n * i.size = 0
  · have e : Builtin.zeroCells zv.cells n = #[] := Array.size_eq_zero_iff.1 (by simp [Builtin.zeroCells, hzs, hns])
    rw [e]
    simp [Builtin.append_, h0, h1, run_und hu, run_und hx, sizeOf, run_info hi, asInt, asIntOf, wl, b1, b2, hns, hle]
    cases base <;> simp
  · simp [Builtin.append_, h0, h1, run_und hu, run_und hx, sizeOf, run_info hi, zeroValue, hz, asInt, asIntOf, wl, b1, b2, hns, hle]
    cases base <;> simp
theorem run_app_grow0 {w : World} {k : IntKind} (h0 : ats[0]? = some st) (h1 : ats[1]? = some xt) (hu : P.underlying st = some (.slice el)) (hx : P.underlying xt = some (.int k))
    (hi : P.info? el = some i) (hz : i.zero = some zv) (hzs : zv.cells.size = i.size) {base : Option Addr} {sLen sCap n : Nat} {k' : IntKind} {olds : Array Value}
    (hfo : (Builtin.firstCells i.size sLen (.slice base sLen sCap)).run P w.drew = .ok olds w.drew)
    (hg : sCap < sLen + n) (hneed : sLen + n ≤ 1000000) (hbytes : i.bytes ≤ 4096) :
    (Builtin.append_ ats ty #[.slice base sLen sCap, .int k' (n : Int)]).run P w =
      .ok (.slice (some ⟨w.heap.size, 0, none⟩) (sLen + n) (grownCap w (sLen + n) sCap el))
        (w.drew.alloc (.cells (olds ++ Builtin.zeroCells zv.cells n ++ Builtin.zeroCells zv.cells (grownCap w (sLen + n) sCap el - (sLen + n))) el)) := by
  have wl : IntKind.i64.wrap (n : Int) = n := by rw [IntKind.wrap_i64]; omega
  have b1 : ¬ (281474976710656 < (n : Int) * (i.bytes : Int)) := by
    have : n * i.bytes ≤ 1000000 * 4096 := Nat.mul_le_mul (by omega) hbytes
    have e : (n : Int) * (i.bytes : Int) = ((n * i.bytes : Nat) : Int) := by simp
    rw [e]; omega
  have b2 : ¬ ((n : Int) < 0) := by omega
  have hn : ¬ (sLen + n ≤ sCap) := by omega
  have h63' : ¬ (9223372036854775807 < ((sLen : Int) + (n : Int))) := by omega
  have h48' : ¬ (281474976710656 < Builtin.nextslicecap (sLen + n) sCap * i.bytes) := by
    have := growslice_fits (need := sLen + n) (old := sCap) (bytes := i.bytes) hg (by
      have : (sLen + n) * i.bytes ≤ 1000000 * 4096 := Nat.mul_le_mul hneed hbytes
      omega)
    omega
  by_cases hns : n * i.size = 0
  · have e : Builtin.zeroCells zv.cells n = #[] := Array.size_eq_zero_iff.1 (by simp [Builtin.zeroCells, hzs, hns])
    rw [e]
    simp [Builtin.append_, h0, h1, run_und hu, run_und hx, sizeOf, run_info hi, zeroValue, hz, asInt, asIntOf, wl, b1, b2, hns, hn, h63', h48', hfo, Question.forced, newRow, grownCap]
  · simp [Builtin.append_, h0, h1, run_und hu, run_und hx, sizeOf, run_info hi, zeroValue, hz, asInt, asIntOf, wl, b1, b2, hns, hn, h63', h48', hfo, Question.forced, newRow, grownCap]
end
end Go.Ai

namespace Go.Ai
open Go
set_option linter.unusedVariables false

section
variable {P : Program}
theorem Step.regone {φ : Phi} {h : H} {w w' : World} (r : RelF φ h.get w) (hwf : h.WF) {b : Nat} {l : Loc} (hb : φ b = some l) (hlt : b < h.next) (hg : h.get b ≠ .gone)
    (hl : h.next < maxBlocks) {o : AObj} (win : Win φ h ((h.upd b .gone).push o)) {O : Obj} {sz : Nat}
    (ho : ORel φ ⟨w.heap.size, 0, sz⟩ o O) (hh : w'.heap = w.heap.push O) (hos : w'.os = w.os) (ht : w'.tape = w.tape) (hout : w'.output = w.output) :
    Step φ h w (φ.put h.next ⟨w.heap.size, 0, sz⟩) ((h.upd b .gone).push o) w' := by
  obtain ⟨X, hX, _⟩ := r.obj b l hb hg
  have s1 : Step φ h w φ (h.upd b .gone) w := Step.upd (o := .gone) (O := X) r hwf hb hlt hg (.inl rfl) (fun k => by
    split
    · rename_i e; subst e; exact hX
    · rfl) rfl rfl rfl rfl
  have hn : φ h.next = none := win h.next (Nat.le_refl _) (Nat.lt_succ_self _)
  have s2 : Step φ (h.upd b .gone) w (φ.put h.next ⟨w.heap.size, 0, sz⟩) ((h.upd b .gone).push o) w' := Step.new (h := h.upd b .gone) s1.rel (hwf.upd hlt .gone) hl hn ho hh hos ht hout
  exact Step.trans hwf (AStep.upd hlt hg .gone) (AStep.push (h := h.upd b .gone) hl o) win s1 s2
theorem rel_rowZ {φ : Phi} {n : Nat} {t : TypeId} {cs : List AV} {l : List Value} {z : Array Value} (h : VRels φ cs l) (hc : ∀ x ∈ l, isCellV x = true) :
    ORel φ ⟨n, 0, l.length + z.size⟩ (.cells none cs) (.cells (l.toArray ++ z) t (0, 0)) := by
  refine .cells (by simp) ⟨fun i v hv => ?_⟩ (fun i _ => by simp) (by simp)
  obtain ⟨y, h1, h2⟩ := h.get _ _ hv
  have hlt := (List.getElem?_eq_some_iff.1 h1).1
  refine ⟨y, ?_, h2, hc y (List.mem_of_getElem? h1)⟩
  rw [Nat.zero_add, Array.getElem?_append_left (by simpa using hlt)]
  simpa using h1
/-- the cells that an open slice begins with -/
theorem firstSlo_cases (h : H) (esz n b o m e : Nat) : (∃ w, ∀ K, firstA h esz n (.slo b o m e) K = .fail w) ∨ ∃ cs : List AV, (∀ K, firstA h esz n (.slo b o m e) K = K cs) ∧ cs.length = n * esz ∧ h.get b ≠ .gone ∧
    ∀ φ w l, RelF φ h.get w → φ b = some l → ∃ vs c t fr, w.heap[l.blk]? = some (.cells c t fr) ∧ c.size = l.size ∧ (∀ i, i < c.size → ¬ (fr.1 ≤ i ∧ i < fr.2)) ∧ VRels φ cs vs ∧ (∀ v ∈ vs, isCellV v = true) ∧
      (∀ (j : Nat) v, vs[j]? = some v → c[l.base + o + j]? = some v) ∧ ∀ ln cp, (Builtin.firstCells esz n (.slice (some ⟨l.blk, l.base + o, none⟩) ln cp)).run P w = .ok vs.toArray w := by
  cases hc : h.get b with
  | cells el cs =>
    by_cases h1 : o ≤ cs.length
    · by_cases h2 : n * esz ≤ (cs.drop o).length
      · refine .inr ⟨(cs.drop o).take (n * esz), fun K => by simp only [firstA, H.cells, hc, dropK_eq, takeK_eq, if_pos h1]; exact if_pos h2, by simp at h2 ⊢; omega, by simp, ?_⟩
        intro φ w l r hb
        obtain ⟨c, t, fr, k1, k2, k3, k4, k5⟩ := r.cells hb hc
        obtain ⟨vs, m1, m2, m3, m4⟩ := k3.read (o := o) (n := n * esz) (by simp at h2; omega)
        refine ⟨vs, c, t, fr, k1, k2, k4, m2, m3, m4, fun ln cp => ?_⟩
        have hl := run_loads (P := P) k1 vs m4
        rw [m1] at hl
        exact hl
      · exact .inl ⟨_, fun K => by simp only [firstA, H.cells, hc, dropK_eq, takeK_eq, if_pos h1]; exact if_neg h2⟩
    · exact .inl ⟨_, fun K => by simp only [firstA, H.cells, hc, dropK_eq, if_neg h1]; rfl⟩
  | _ => exact .inl ⟨_, fun K => by simp only [firstA, H.cells, hc]; rfl⟩

/-- what an append does on the other side -/
def AppC (P : Program) (h : H) (esz n : Nat) (el : TypeId) (zv : Value) (s : AV) (new : List AV) (φ : Phi) (σ : Sem Next) : Prop :=
  ∀ w, RelF φ h.get w → ∃ base sLen sCap news, VRel φ s (.slice base sLen sCap) ∧ VRels φ new news ∧ (∀ v ∈ news, isCellV v = true) ∧
    (sLen + n ≤ sCap → ∀ w', (match base with | some a => storeCells (a.add (sLen * esz)) news | none => pure ()).run P w = .ok () w' → σ.run P w = .ok (.value (.slice base (sLen + n) sCap)) w') ∧
    (sCap < sLen + n → ∀ olds, (Builtin.firstCells esz sLen (.slice base sLen sCap)).run P w.drew = .ok olds w.drew → ∃ cap, sLen + n ≤ cap ∧
      σ.run P w = .ok (.value (.slice (some ⟨w.heap.size, 0, none⟩) (sLen + n) cap)) (w.drew.alloc (.cells (olds ++ news.toArray ++ Builtin.zeroCells zv.cells (cap - (sLen + n))) el)))
theorem appendA_spec {h : H} (hwf : h.WF) {esz n : Nat} {el : TypeId} {zv : Value} (hz : zv.cells.size = esz) (s : AV) (new : List AV) (hnl : new.length = n * esz) :
    SpecAt P (AppC P h esz n el zv s new) h fun K => appendA esz n s new h K := by
  have zsz : ∀ k, (Builtin.zeroCells zv.cells k).size = k * esz := fun k => by simp [Builtin.zeroCells, hz]
  have drewF : ∀ {φ : Phi} {w : World}, RelF φ h.get w → RelF φ h.get w.drew := fun r => r.world rfl
  -- a new row
  have grown : ∀ {φ : Phi} {w : World} {cap sLen : Nat} {old : List AV} {olds news : List Value}, VRels φ old olds → (∀ v ∈ olds, isCellV v = true) → VRels φ new news → (∀ v ∈ news, isCellV v = true) → old.length = sLen * esz →
      sLen + n ≤ cap → ∃ sz, (0 + 0 + cap * esz ≤ sz) ∧
      ORel φ ⟨w.heap.size, 0, sz⟩ (.cells none (old ++ new)) (.cells (olds.toArray ++ news.toArray ++ Builtin.zeroCells zv.cells (cap - (sLen + n))) el (0, 0)) := by
    intro φ w cap sLen old olds news h1 h2 h3 h4 h5 h6
    have := rel_rowZ (n := w.heap.size) (t := el) (z := Builtin.zeroCells zv.cells (cap - (sLen + n))) (h1.append h3) (fun v hv => by
      rcases List.mem_append.1 hv with hv | hv
      · exact h2 v hv
      · exact h4 v hv)
    have e : (olds ++ news).toArray = olds.toArray ++ news.toArray := by simp
    rw [e] at this
    refine ⟨_, ?_, this⟩
    have l1 := h1.length
    have l2 := h3.length
    rw [List.length_append, ← l1, ← l2, h5, hnl, zsz, ← Nat.add_mul, ← Nat.add_mul]
    have : sLen + n + (cap - (sLen + n)) = cap := by omega
    rw [this]; omega
  cases s
  case snil =>
    simp only [appendA]
    cases n with
    | zero =>
      refine spec_pure ?_
      intro φ σ w hC r
      obtain ⟨base, sLen, sCap, news, k1, k2, k3, k4, k5⟩ := hC w r
      cases k1
      exact ⟨_, k4 (Nat.le_refl _) w rfl, .snil⟩
    | succ n =>
      refine spec_new (o := .cells none new) (v := fun b => .slo b 0 (n + 1) esz) hwf ?_
      intro φ σ w hC r
      obtain ⟨base, sLen, sCap, news, k1, k2, k3, k4, k5⟩ := hC w r
      cases k1
      obtain ⟨cap, c1, c2⟩ := k5 (by omega) #[] rfl
      obtain ⟨sz, g1, g2⟩ := grown (w := w) (sLen := 0) (cap := cap) VRels.nil (by simp) k2 k3 (by simp) c1
      refine ⟨_, _, sz, _, .inl c2, rfl, rfl, rfl, rfl, g2, fun φ' _ hn => ?_⟩
      rw [Nat.zero_add] at c1 ⊢
      exact .slo (o := 0) hn c1 g1
  case slice b o len cap =>
    simp only [appendA, fN_eq]
    cases hb : Nat.ble (Nat.add len n) cap with
    | true =>
      have hle : len + n ≤ cap := Nat.le_of_ble_eq_true hb
      cases new with
      | nil =>
        refine spec_pure ?_
        intro φ σ w hC r
        obtain ⟨base, sLen, sCap, news, k1, k2, k3, k4, k5⟩ := hC w r
        cases k1 with
        | @slice _ _ _ _ L hL =>
          cases k2
          exact ⟨_, k4 hle w rfl, .slice hL⟩
      | cons x new =>
        simp only
        refine storeA_spec P hwf b _ (x :: new) _ ?_
        intro φ σ w hC r
        obtain ⟨base, sLen, sCap, news, k1, k2, k3, k4, k5⟩ := hC w r
        cases k1 with
        | @slice _ _ _ _ L hL =>
          refine ⟨_, L, news, hL, k2, k3, .slice hL, fun w' hw' => .inl (k4 hle w' ?_)⟩
          simp only [addr_add, Nat.add_assoc]
          exact hw'
    | false =>
      have hgt : cap < len + n := by
        rcases Nat.lt_or_ge cap (len + n) with h | h
        · exact h
        · have := Nat.ble_eq_true_of_le h; rw [show Nat.add len n = len + n from rfl, this] at hb; cases hb
      rcases firstA_cases (P := P) h esz len (.slice b o len cap) with ⟨e, hf⟩ | ⟨old, h1, h2, h3⟩
      · simp only [hf]; exact spec_fail
      · simp only [h1, appK_eq]
        refine spec_new (o := .cells none (old ++ new)) (v := fun b => .slo b 0 (len + n) esz) hwf ?_
        intro φ σ w hC r
        obtain ⟨base, sLen, sCap, news, k1, k2, k3, k4, k5⟩ := hC w r
        cases k1 with
        | @slice _ _ _ _ L hL =>
          obtain ⟨olds, m1, m2, m3⟩ := h3 (by simp) φ w.drew _ (drewF r) (.slice hL)
          obtain ⟨cap', c1, c2⟩ := k5 hgt _ m3
          obtain ⟨sz, g1, g2⟩ := grown (w := w) m1 m2 k2 k3 (h2 (by simp)) c1
          exact ⟨_, _, sz, _, .inl c2, rfl, rfl, rfl, rfl, g2, fun φ' _ hn => .slo (o := 0) hn c1 g1⟩
  case slo b o len e =>
    simp only [appendA]
    cases he : Nat.beq e esz with
    | false => exact spec_fail
    | true =>
      have := Nat.eq_of_beq_eq_true he
      subst this
      simp only [fN_eq]
      rcases firstSlo_cases (P := P) h e len b o len e with ⟨e, hf⟩ | ⟨old, h1, h2, hg, h3⟩
      · simp only [hf]; exact spec_fail
      · simp only [h1, appK_eq, H.put_eq, H.new_eq]
        refine spec_if fun hlt => ?_
        have hnx : (h.upd b .gone).next = h.next := rfl
        simp only [hnx]
        refine spec_if fun hl => ?_
        refine .inr ⟨.slo h.next 0 (len + n) e, (h.upd b .gone).push (.cells none (old ++ new)), fun _ => rfl, (AStep.upd hlt hg .gone).trans (AStep.push (h := h.upd b .gone) hl _), ?_⟩
        intro φ σ w hC r win
        have hnone : φ h.next = none := win h.next (Nat.le_refl _) (Nat.lt_succ_self _)
        obtain ⟨base, sLen, sCap, news, k1, k2, k3, k4, k5⟩ := hC w r
        have hnlen := k2.length
        cases k1 with
        | @slo _ _ _ _ c L hL hc hs =>
          obtain ⟨olds, row, t, fr, q1, q2, q3, q4, q5, q6, q7⟩ := h3 φ w L r hL
          have holen := q4.length
          by_cases hin : len + n ≤ sCap
          · -- in place
            have hroom : L.base + o + len * e + 0 + news.length ≤ row.size := by
              rw [q2, ← hnlen, hnl]
              have : len * e + n * e ≤ sCap * e := by rw [← Nat.add_mul]; exact Nat.mul_le_mul_right _ hin
              omega
            obtain ⟨w', w1, w2⟩ := run_storeCells (P := P) news 0 (off := L.base + o + len * e) q1 k3 hroom q3
            have hrun := k4 hin w' (by simp only [addr_add]; exact w1)
            refine ⟨_, w', φ.put h.next ⟨L.blk, L.base + o, L.size⟩, .inl hrun, ?_, Step.alias r hwf hL hlt hg hl hnone ?_ w2.heap w2.size w2.os w2.tape w2.output⟩
            · have := VRel.slo (φ := φ.put h.next ⟨L.blk, L.base + o, L.size⟩) (b := h.next) (o := 0) (len := len + n) (esz := e) (c := sCap) (Phi.put_same _ _ _) hin (by simpa using hs)
              simpa using this
            · refine .cells (by rw [size_wr]; exact q2) ⟨fun i v hv => ?_⟩ (by rw [size_wr]; exact q3) (by simp)
              dsimp only
              rw [wr_get _ _ _ _ (by omega)]
              by_cases hi : i < old.length
              · rw [List.getElem?_append_left hi] at hv
                obtain ⟨y, y1, y2⟩ := q4.get i v hv
                rw [if_neg (by omega)]
                exact ⟨y, q6 i y y1, y2, q5 y (List.mem_of_getElem? y1)⟩
              · rw [List.getElem?_append_right (by omega)] at hv
                obtain ⟨y, y1, y2⟩ := k2.get _ v hv
                have hlt' := (List.getElem?_eq_some_iff.1 y1).1
                rw [if_pos ⟨by omega, by omega⟩]
                have e1 : L.base + o + i - (L.base + o + len * e + 0) = i - old.length := by omega
                rw [e1]
                exact ⟨y, y1, y2, k3 y (List.mem_of_getElem? y1)⟩
          · -- a new row
            obtain ⟨olds', row', t', fr', q1', q2', q3', q4', q5', q6', q7'⟩ := h3 φ w.drew L (drewF r) hL
            obtain ⟨cap', c1, c2⟩ := k5 (by omega) _ (q7' len sCap)
            obtain ⟨sz, g1, g2⟩ := grown (w := w) q4' q5' k2 k3 h2 c1
            exact ⟨_, _, _, .inl c2, .slo (o := 0) (Phi.put_same _ _ _) c1 g1, Step.regone r hwf hL hlt hg hl win g2 rfl rfl rfl rfl⟩
        | @slo0 _ _ _ L a hL =>
          have hold : old = [] := List.length_eq_zero_iff.1 (by rw [h2]; simp)
          subst hold
          obtain ⟨olds, row, t, fr, q1, q2, q3, q4, q5, q6, q7⟩ := h3 φ w L r hL
          by_cases hn0 : n = 0
          · subst hn0
            have hnew : new = [] := List.length_eq_zero_iff.1 (by rw [hnl]; simp)
            subst hnew
            cases k2
            have hrun := k4 (Nat.le_refl _) w rfl
            refine ⟨_, w, φ.put h.next ⟨L.blk, 0, L.size⟩, .inl hrun, .slo0 (Phi.put_same _ _ _), Step.alias (O := .cells row t fr) r hwf hL hlt hg hl hnone ?_ (fun k => ?_) rfl rfl rfl rfl⟩
            · exact .cells q2 ⟨fun i v hv => by simp at hv⟩ q3 (by simp)
            · split
              · rename_i e'; subst e'; exact q1
              · rfl
          · have hf0 : (Builtin.firstCells e 0 (.slice (some a) 0 0)).run P w.drew = .ok (#[] : Array Value) w.drew := by
              simp only [Builtin.firstCells, Nat.zero_mul]; rfl
            obtain ⟨cap', c1, c2⟩ := k5 (by omega) _ hf0
            obtain ⟨sz, g1, g2⟩ := grown (w := w) (sLen := 0) (cap := cap') VRels.nil (by simp) k2 k3 (by simp) c1
            exact ⟨_, _, _, .inl c2, .slo (o := 0) (Phi.put_same _ _ _) c1 g1, Step.regone r hwf hL hlt hg hl win g2 rfl rfl rfl rfl⟩
  all_goals exact spec_fail

theorem capOK_le {bytes need : Nat} (h : capOK bytes need = true) : need ≤ 1000000 ∧ bytes ≤ 4096 := by
  unfold capOK at h
  cases hh : Nat.ble need 1000000 with
  | true => rw [hh] at h; exact ⟨Nat.le_of_ble_eq_true hh, Nat.le_of_ble_eq_true h⟩
  | false => rw [hh] at h; cases h
theorem lenOf_slice (base : Option Addr) (n c m : Nat) (w : World) (h : (Builtin.lenOf (.slice base n c)).run P w = .ok m w) : n = m := by
  simp [Builtin.lenOf] at h; exact h
theorem appendA_slice (esz n : Nat) (s : AV) (new : List AV) (h : H) : (∃ e, ∀ K, appendA esz n s new h K = .fail e) ∨ ∀ (φ : Phi) cs, VRel φ s cs → ∃ base sLen sCap, cs = .slice base sLen sCap := by
  cases s
  case snil => exact .inr fun φ cs hs => by cases hs; exact ⟨_, _, _, rfl⟩
  case slice => exact .inr fun φ cs hs => by cases hs; exact ⟨_, _, _, rfl⟩
  case slo => exact .inr fun φ cs hs => by cases hs <;> exact ⟨_, _, _, rfl⟩
  all_goals exact .inl ⟨_, fun _ => rfl⟩
theorem appendS_spec {ats : Array TypeId} {st xt ty el : TypeId} {i : TypeInfo} {z : List AV} (h0 : ats[0]? = some st) (h1 : ats[1]? = some xt) (hu : P.underlying st = some (.slice el))
    (hx : P.underlying xt = some .string ∨ ∃ e, P.underlying xt = some (.slice e)) (hi : P.info? el = some i) (hz : zeroAt P i.size el = some z) (s x : AV) :
    OpSpec P (appendS i.size i.bytes s x) (C2 s x fun ca cx => vN (Builtin.append_ ats ty #[ca, cx])) := by
  intro h hwf
  obtain ⟨z0, i', zv, z1, z2, z3, z4, z5⟩ := zeroAt_rel hz
  rw [hi] at z1
  have := Option.some.inj z1
  subst this
  refine lenOfA_spec x (fun n K => lenOfA s fun m => match capOK i.bytes (Nat.add n m) with
    | true => firstA h i.size n x fun new => appendA i.size n s new h K
    | false => .fail "append: too long") fun n hn => ?_
  refine lenOfA_spec s (fun m K => match capOK i.bytes (Nat.add n m) with
    | true => firstA h i.size n x fun new => appendA i.size n s new h K
    | false => .fail "append: too long") fun m hm => ?_
  cases hok : capOK i.bytes (Nat.add n m) with
  | false => exact spec_fail
  | true =>
    obtain ⟨b1, b2⟩ := capOK_le hok
    rcases firstA_cases (P := P) h i.size n x with ⟨e, hf⟩ | ⟨new, f1, f2, f3⟩
    · simp only [hf]; exact spec_fail
    · simp only [f1]
      have hnl : new.length = n * i.size ∨ x = .snil := by
        by_cases hxn : x = .snil
        · exact .inr hxn
        · exact .inl (f2 hxn)
      have hnl' : new.length = n * i.size := by
        rcases hnl with hh | hh
        · exact hh
        · subst hh
          have : n = 0 := by
            have := hn (fun _ => none) _ .snil default
            simp [Builtin.lenOf] at this
            exact this.symm
          subst this
          have h3 := f1 fun cs => .fail (.s (toString cs.length))
          have h4 : (fun cs : List AV => Res.fail (.s (toString cs.length))) [] = .fail (.s (toString new.length)) := h3
          obtain ⟨vs, v1, _, v3⟩ := f3 (by simp) (fun _ => none) { (default : World) with heap := #[] } _ ⟨by simp, by simp, by simp, by simp⟩ .snil
          simp [Builtin.firstCells] at v3
          rw [v1.length, v3]; simp
      rcases appendA_slice i.size n s new h with ⟨e, hf⟩ | hsl
      · simp only [hf]; exact spec_fail
      · refine (appendA_spec (P := P) (el := el) hwf z3 s new hnl').mono ?_
        rintro φ σ ⟨ca, cx, ha, hcx, rfl⟩ w r
        obtain ⟨base, sLen, sCap, rfl⟩ := hsl φ ca ha
        have hsm := lenOf_slice (P := P) base sLen sCap m w (hm φ _ ha w)
        subst hsm
        have hle : ∀ b o k e, x = .slo b o k e → n ≤ k := by
          rintro b o k e rfl
          have h1 := hn φ cx hcx w
          cases hcx with
          | slo => exact Nat.le_of_eq (lenOf_slice (P := P) _ _ _ n w h1).symm
          | slo0 => exact Nat.le_of_eq (lenOf_slice (P := P) _ _ _ n w h1).symm
        obtain ⟨news, v1, v2, v3⟩ := f3 hle φ w cx r hcx
        obtain ⟨news', v1', v2', v3'⟩ := f3 hle φ w.drew cx (r.world rfl) hcx
        have hb1 : sLen + n ≤ 1000000 := by rw [Nat.add_comm]; exact b1
        by_cases hin : sLen + n ≤ sCap
        · refine ⟨base, sLen, sCap, news, ha, v1, v2, fun _ w' hw' => run_val ?_, fun hg => absurd hg (by omega)⟩
          rw [run_app_in h0 h1 hu hx hi (hn φ cx hcx w) v3 hin]
          cases base with
          | none => simp only at hw' ⊢; rw [hw']; rfl
          | some a => simp only at hw' ⊢; rw [hw']; rfl
        · refine ⟨base, sLen, sCap, news', ha, v1', v2', fun hh => absurd hh hin, fun hg olds ho => ⟨grownCap w (sLen + n) sCap el, ?_, run_val ?_⟩⟩
          · simp [grownCap, Question.cut]
          · exact run_app_grow h0 h1 hu hx hi z2 (hn φ cx hcx w) v3' ho hg hb1 b2
theorem appendMakeS_spec {ats : Array TypeId} {st xt ty el : TypeId} {i : TypeInfo} {z : List AV} {k : IntKind} (h0 : ats[0]? = some st) (h1 : ats[1]? = some xt) (hu : P.underlying st = some (.slice el))
    (hx : P.underlying xt = some (.int k)) (hi : P.info? el = some i) (hz : zeroAt P i.size el = some z) (s x : AV) :
    OpSpec P (appendMakeS i.size i.bytes z s x) (C2 s x fun ca cx => vN (Builtin.append_ ats ty #[ca, cx])) := by
  intro h hwf
  obtain ⟨z0, i', zv, z1, z2, z3, z4, z5⟩ := zeroAt_rel hz
  rw [hi] at z1
  have := Option.some.inj z1
  subst this
  cases x with
  | int kx nx =>
    cases nx with
    | negSucc n => exact spec_fail
    | ofNat n =>
      refine lenOfA_spec s (fun m K => match capOK i.bytes (Nat.add n m) with
        | true => replA n z fun new => appendA i.size n s new h K
        | false => .fail "append: too long") fun m hm => ?_
      cases hok : capOK i.bytes (Nat.add n m) with
      | false => exact spec_fail
      | true =>
        obtain ⟨b1, b2⟩ := capOK_le hok
        simp only [replA_eq]
        have hnl : ((List.replicate n z).flatten).length = n * i.size := by simp [z0]
        rcases appendA_slice i.size n s (List.replicate n z).flatten h with ⟨e, hf⟩ | hsl
        · simp only [hf]; exact spec_fail
        · refine (appendA_spec (P := P) (el := el) hwf z3 s _ hnl).mono ?_
          rintro φ σ ⟨ca, cx, ha, hcx, rfl⟩ w r
          cases hcx
          obtain ⟨base, sLen, sCap, rfl⟩ := hsl φ ca ha
          have hsm := lenOf_slice (P := P) base sLen sCap m w (hm φ _ ha w)
          subst hsm
          have hb1 : sLen + n ≤ 1000000 := by rw [Nat.add_comm]; exact b1
          refine ⟨base, sLen, sCap, (List.replicate n zv.cells.toList).flatten, ha, (z5 φ).1.repl n, repl_cell (z5 φ).2 n, fun hin w' hw' => run_val ?_, fun hg olds ho => ⟨grownCap w (sLen + n) sCap el, ?_, run_val ?_⟩⟩
          · have := run_app_in0 (P := P) (ty := ty) (w := w) (k' := kx) (base := base) (n := n) h0 h1 hu hx hi z2 z3 hin hb1 b2
            refine Eq.trans this ?_
            rw [zeroCells_eq]
            cases base with
            | none => simp only at hw' ⊢; rw [hw']; rfl
            | some a => simp only at hw' ⊢; rw [hw']; rfl
          · simp [grownCap, Question.cut]
          · have := run_app_grow0 (P := P) (ty := ty) (w := w) (k' := kx) (n := n) h0 h1 hu hx hi z2 z3 ho hg hb1 b2
            refine Eq.trans this ?_
            have e : (List.replicate n zv.cells.toList).flatten.toArray = Builtin.zeroCells zv.cells n := by
              apply Array.ext'
              rw [zeroCells_eq]
            rw [e]
  | _ => exact spec_fail
end
end Go.Ai

namespace Go.Ai
open Go
set_option linter.unusedVariables false

section
variable {P : Program} {ats : Array TypeId} {t ty el : TypeId}
theorem minN_eq (a b : Nat) : minN a b = min a b := by
  unfold minN
  cases h : Nat.ble a b with
  | true => have := Nat.le_of_ble_eq_true h; simp; omega
  | false =>
    have : ¬ a ≤ b := fun hh => by have := Nat.ble_eq_true_of_le hh; rw [h] at this; cases this
    simp; omega
theorem run_copy {w : World} {n m sz : Nat} {base : Option Addr} {c : Nat} {cx : Value} {news : Array Value} (h0 : ats[0]? = some t) (hu : P.underlying t = some (.slice el)) (hs : szOf P el = some sz)
    (hlen : (Builtin.lenOf cx).run P w = .ok n w) (hf : (Builtin.firstCells sz (min n m) cx).run P w = .ok news w) :
    (Builtin.copy_ ats ty #[.slice base m c, cx]).run P w =
      ((match base with | some a => storeCells a news.toList | none => pure ()).run P w).andThen fun _ w => .ok (.int .i64 ((min n m : Nat) : Int)) w := by
  have e : Nat.min n m = min n m := rfl
  simp [Builtin.copy_, h0, run_und hu, sz_sizeOf hs, hlen, e, hf]
  cases base <;> simp [goInt]
theorem copyS_spec {sz : Nat} (h0 : ats[0]? = some t) (hu : P.underlying t = some (.slice el)) (hs : szOf P el = some sz) (d x : AV) :
    OpSpec P (copyS sz d x) (C2 d x fun cd cx => vN (Builtin.copy_ ats ty #[cd, cx])) := by
  intro h hwf
  unfold copyS
  rcases lenOfA_cases (P := P) x with ⟨e, he⟩ | ⟨n, hn1, hn⟩
  · simp only [he]; exact spec_fail
  simp only [hn1]
  rcases lenOfA_cases (P := P) d with ⟨e, he⟩ | ⟨m, hm1, hm⟩
  · simp only [he]; exact spec_fail
  simp only [hm1, fN_eq, minN_eq]
  rcases firstA_cases (P := P) h sz (min n m) x with ⟨e, hf⟩ | ⟨new, f1, f2, f3⟩
  · simp only [hf]; exact spec_fail
  · simp only [f1]
    have first : ∀ (φ : Phi) w cx, RelF φ h.get w → VRel φ x cx → ∃ vs : List Value, VRels φ new vs ∧ (∀ v ∈ vs, isCellV v = true) ∧ (Builtin.firstCells sz (min n m) cx).run P w = .ok vs.toArray w := by
      intro φ w cx r hcx
      refine f3 ?_ φ w cx r hcx
      rintro b o k e rfl
      have h1 := hn φ cx hcx w
      have : n = k := by
        cases hcx with
        | slo => exact (lenOf_slice (P := P) _ _ _ n w h1).symm
        | slo0 => exact (lenOf_slice (P := P) _ _ _ n w h1).symm
      omega
    have dlen : ∀ (φ : Phi) base k c w, VRel φ d (.slice base k c) → k = m := fun φ base k c w hd => lenOf_slice (P := P) base k c m w (hm φ _ hd w)
    cases d
    case snil =>
      refine spec_pure ?_
      rintro φ σ w ⟨cd, cx, hd, hcx, rfl⟩ r
      have hk : 0 = m := by cases hd; exact dlen φ none 0 0 w .snil
      subst hk
      cases hd
      obtain ⟨vs, v1, v2, v3⟩ := first φ w cx r hcx
      refine ⟨_, run_val ((run_copy h0 hu hs (hn φ cx hcx w) v3).trans rfl), ?_⟩
      have : min n 0 = 0 := by omega
      rw [this]; exact .int
    case slice b o ln cp =>
      cases new with
      | nil =>
        refine spec_pure ?_
        rintro φ σ w ⟨cd, cx, hd, hcx, rfl⟩ r
        have hd' := hd
        cases hd with
        | slice hb =>
          have hk := dlen φ _ ln cp w hd'
          subst hk
          obtain ⟨vs, v1, v2, v3⟩ := first φ w cx r hcx
          cases v1
          exact ⟨_, run_val ((run_copy h0 hu hs (hn φ cx hcx w) v3).trans rfl), .int⟩
      | cons y new =>
        refine storeA_spec P hwf b o (y :: new) _ ?_
        rintro φ σ w ⟨cd, cx, hd, hcx, rfl⟩ r
        have hd' := hd
        cases hd with
        | @slice _ _ _ _ L hb =>
          have hk := dlen φ _ ln cp w hd'
          subst hk
          obtain ⟨vs, v1, v2, v3⟩ := first φ w cx r hcx
          refine ⟨_, L, vs, hb, v1, v2, .int, fun w' hw' => Yield.val ?_⟩
          rw [run_copy h0 hu hs (hn φ cx hcx w) v3]
          simp only [hw']; rfl
    case slo b o ln e =>
      cases new with
      | nil =>
        refine spec_pure ?_
        rintro φ σ w ⟨cd, cx, hd, hcx, rfl⟩ r
        have hd' := hd
        obtain ⟨vs, v1, v2, v3⟩ := first φ w cx r hcx
        cases v1
        cases hd with
        | slo hb =>
          have hk := dlen φ _ ln _ w hd'
          subst hk
          exact ⟨_, run_val ((run_copy h0 hu hs (hn φ cx hcx w) v3).trans rfl), .int⟩
        | slo0 hb =>
          have hk := dlen φ _ 0 _ w hd'
          subst hk
          exact ⟨_, run_val ((run_copy h0 hu hs (hn φ cx hcx w) v3).trans rfl), .int⟩
      | cons y new =>
        refine storeA_spec P hwf b o (y :: new) _ ?_
        rintro φ σ w ⟨cd, cx, hd, hcx, rfl⟩ r
        have hd' := hd
        obtain ⟨vs, v1, v2, v3⟩ := first φ w cx r hcx
        cases hd with
        | @slo _ _ _ _ c L hb =>
          have hk := dlen φ _ ln _ w hd'
          subst hk
          refine ⟨_, L, vs, hb, v1, v2, .int, fun w' hw' => Yield.val ?_⟩
          rw [run_copy h0 hu hs (hn φ cx hcx w) v3]
          simp only [hw']; rfl
        | slo0 hb =>
          have hk := dlen φ _ 0 _ w hd'
          subst hk
          exfalso
          by_cases hxn : x = .snil
          · subst hxn
            cases hcx
            simp [Builtin.firstCells] at v3
            subst v3
            cases v1
          · have := f2 hxn
            simp at this
    all_goals exact spec_fail

-- clear
theorem run_clear0 {w : World} {c : Nat} {base : Option Addr} (h0 : ats[0]? = some t) (hu : P.underlying t = some (.slice el)) : (Builtin.clear_ ats ty #[.slice base 0 c]).run P w = .ok (.tuple #[]) w := by
  cases base <;> simp [Builtin.clear_, h0, run_und hu]
theorem run_clear {w w' : World} {n c : Nat} {a : Addr} {i : TypeInfo} {zv : Value} (h0 : ats[0]? = some t) (hu : P.underlying t = some (.slice el)) (hz : ∀ w, (zeroValue el).run P w = .ok zv w)
    (hs : (storeCells a (Builtin.zeroCells zv.cells (n + 1)).toList).run P w = .ok () w') : (Builtin.clear_ ats ty #[.slice (some a) (n + 1) c]).run P w = .ok (.tuple #[]) w' := by
  simp [Builtin.clear_, h0, run_und hu, hz, hs]
theorem clearSlS_spec {z : List AV} (h0 : ats[0]? = some t) (hu : P.underlying t = some (.slice el)) (hz : zeroOf P el = some z) (x : AV) :
    OpSpec P (clearSlS z x) (C1 x fun cx => vN (Builtin.clear_ ats ty #[cx])) := by
  intro h hwf
  obtain ⟨zv, z1, z2⟩ := zeroOf_rel hz
  cases x
  case snil => exact spec_pure1 fun φ ca w ha => by cases ha; exact ⟨_, run_clear0 h0 hu, .undef⟩
  case slice b o n c =>
    cases n with
    | zero => exact spec_pure1 fun φ ca w ha => by cases ha; exact ⟨_, run_clear0 h0 hu, .undef⟩
    | succ n =>
      simp only [clearSlS, replA_eq]
      refine storeA_spec P hwf b o _ _ ?_
      rintro φ σ w ⟨ca, ha, rfl⟩ r
      cases ha with
      | @slice _ _ _ _ L hb =>
        refine ⟨_, L, (List.replicate (n + 1) zv.cells.toList).flatten, hb, (z2 φ).1.repl _, repl_cell (z2 φ).2 _, .undef, fun w' hw' => Yield.val (run_clear (i := default) h0 hu z1 ?_)⟩
        rw [zeroCells_eq]; exact hw'
  case slo b o n c =>
    cases n with
    | zero => exact spec_pure1 fun φ ca w ha => by cases ha <;> exact ⟨_, run_clear0 h0 hu, .undef⟩
    | succ n =>
      simp only [clearSlS, replA_eq]
      refine storeA_spec P hwf b o _ _ ?_
      rintro φ σ w ⟨ca, ha, rfl⟩ r
      cases ha with
      | @slo _ _ _ _ c L hb =>
        refine ⟨_, L, (List.replicate (n + 1) zv.cells.toList).flatten, hb, (z2 φ).1.repl _, repl_cell (z2 φ).2 _, .undef, fun w' hw' => Yield.val (run_clear (i := default) h0 hu z1 ?_)⟩
        rw [zeroCells_eq]; exact hw'
  all_goals exact spec_fail

-- objects that are no rows
theorem run_setObj {w : World} {b : Nat} {O : Obj} (o : Obj) (h : w.heap[b]? = some O) (hc : ∀ c e f, O ≠ .cells c e f) : ∃ w', (setObj b o).run P w = .ok () w' ∧ SameBut w w' b o := by
  refine ⟨{ w with heap := w.heap.setIfInBounds b o }, ?_, ⟨fun k => ?_, by simp, rfl, rfl, rfl⟩⟩
  · unfold setObj
    simp only [Sem.run, h]
  · by_cases e : k = b
    · subst e
      have hlt := (Array.getElem?_eq_some_iff.1 h).1
      simp only [if_true]
      exact Array.getElem?_setIfInBounds_self_of_lt hlt
    · simp only [if_neg e]
      exact Array.getElem?_setIfInBounds_ne (fun x => e x.symm)
theorem map_ne_gone {h : H} {b : Nat} {es : List (AV × AV)} (hc : h.get b = .map es) : h.get b ≠ .gone := by rw [hc]; exact fun h => by cases h
theorem clearMapS_spec {k e : TypeId} (h0 : ats[0]? = some t) (hu : P.underlying t = some (.map k e)) (x : AV) :
    OpSpec P (clearMapS x) (C1 x fun cx => vN (Builtin.clear_ ats ty #[cx])) := by
  intro h hwf
  cases x
  case mapnil => exact spec_pure1 fun φ ca w ha => by cases ha; exact ⟨_, by simp [Builtin.clear_, h0, run_und hu]; rfl, .undef⟩
  case map b =>
    simp only [clearMapS]
    cases hg : h.get b with
    | map es =>
      refine spec_put hwf (map_ne_gone hg) ?_
      rintro φ σ w ⟨ca, ha, rfl⟩ r hlt
      cases ha with
      | @map _ L hb =>
        obtain ⟨es', clock, h1, h2⟩ := r.map hb hg
        obtain ⟨w', w1, w2⟩ := run_setObj (P := P) (.map #[] clock) h1 (by simp)
        exact ⟨_, L, _, w', hb, Yield.val (by simp [Builtin.clear_, h0, run_und hu, run_getObj_map h1, w1]; rfl), w2, .map .nil, .undef⟩
    | _ => exact spec_fail
  all_goals exact spec_fail
end
end Go.Ai

namespace Go.Ai
open Go
set_option linter.unusedVariables false

section
variable {P : Program}
-- keys
def CkOk (P : Program) (t : TypeId) (d : Nat) (rec : AV → Bool) : Prop :=
  ∀ (φ : Phi) a ca e w, rec a = true → VRel φ a ca → (Instr.checkKey e d t ca).run P w = .ok () w
theorem ckFs_ok (d : Nat) (e : Bool) (rec : TypeId → AV → Bool) (hrec : ∀ t, CkOk P t d (rec t)) (φ : Phi) (xs : List AV) (cx : List Value)
    (hx : VRels φ xs cx) (hcx : ∀ x ∈ cx, isCellV x = true) (w : World) :
    ∀ (fs : List Field), ckFs P rec xs fs = true → (forIn (m := Sem) fs PUnit.unit fun (f : Field) (_ : PUnit) => (do
      if f.name ≠ "_" then Instr.checkKey e d f.type (← part f.type cx.toArray f.offset)
      pure (ForInStep.yield PUnit.unit) : Sem (ForInStep PUnit))).run P w = .ok PUnit.unit w := by
  intro fs
  induction fs with
  | nil => intro _; simp
  | cons f fs ih =>
    intro h
    simp only [ckFs] at h
    cases hn : (f.name != "_") with
    | false =>
      rw [hn] at h
      have : ¬ f.name ≠ "_" := by simpa using hn
      simp only [List.forIn_cons, if_neg this, Sem.run_bind, Sem.run_pure, Result.andThen_ok]
      exact ih h
    | true =>
      rw [hn] at h
      have : f.name ≠ "_" := by simpa using hn
      cases ha : partD (aggT P f.type) (szOf P f.type) f.offset xs with
      | none => rw [ha] at h; cases h
      | some a =>
        rw [ha] at h
        simp only [] at h
        obtain ⟨va, k1, k2⟩ := partD_rel ha hx hcx w
        cases hr : rec f.type a with
        | false => rw [hr] at h; cases h
        | true =>
          rw [hr] at h
          have h3 := hrec f.type φ a va e w hr k2
          simp only [List.forIn_cons, if_pos this, Sem.run_bind, k1, Result.andThen_ok, h3, Sem.run_pure]
          exact ih h
theorem ckAr_ok {el : TypeId} {m d : Nat} (e : Bool) (rec : AV → Bool) (hm : szOf P el = some m) (hrec : CkOk P el d rec) (φ : Phi) (xs : List AV) (cx : List Value)
    (hx : VRels φ xs cx) (hcx : ∀ x ∈ cx, isCellV x = true) (w : World) :
    ∀ (k i : Nat), ckAr rec (aggT P el) m xs k i = true → (forIn (m := Sem) (List.range' i k) PUnit.unit fun (i : Nat) (_ : PUnit) => (do
      Instr.checkKey e d el (← part el cx.toArray (i * (← sizeOf el)))
      pure (ForInStep.yield PUnit.unit) : Sem (ForInStep PUnit))).run P w = .ok PUnit.unit w := by
  intro k
  induction k with
  | zero => intro i _; simp
  | succ k ih =>
    intro i h
    simp only [ckAr] at h
    rw [← hm] at h
    cases ha : partD (aggT P el) (szOf P el) (i * m) xs with
    | none => rw [ha] at h; cases h
    | some a =>
      rw [ha] at h
      simp only [] at h
      obtain ⟨va, k1, k2⟩ := partD_rel ha hx hcx w
      cases hr : rec a with
      | false => rw [hr] at h; cases h
      | true =>
        rw [hr] at h
        have h3 := hrec φ a va e w hr k2
        have ih' := ih (i + 1) h
        simp only [List.range'_succ, List.forIn_cons, Sem.run_bind, sz_sizeOf hm, k1, Result.andThen_ok, h3, Sem.run_pure]
        exact ih'
theorem ckP_ok : ∀ (n : Nat) (t : TypeId) (d : Nat), n ≤ d → CkOk P t d (ckP P n t) := by
  intro n
  induction n with
  | zero => intro t d _ φ a ca e w h; cases h
  | succ n ih =>
    intro t d hd φ a ca e w h ha
    obtain ⟨d, rfl⟩ : ∃ e, d = e + 1 := ⟨d - 1, by omega⟩
    simp only [ckP] at h
    split at h
    · rename_i hu
      split at h <;> try (cases h; done)
      cases ha
      simp [Instr.checkKey, run_und hu]
    · rename_i k hu
      split at h <;> try (cases h; done)
      cases ha
      simp [Instr.checkKey, run_und hu]
    · rename_i hu
      split at h <;> try (cases h; done)
      cases ha
      simp [Instr.checkKey, run_und hu]
    · rename_i fs hu
      split at h <;> try (cases h; done)
      cases ha with
      | agg hxs hcx =>
        have := ckFs_ok d e (ckP P n) (fun t => ih t d (by omega)) φ _ _ hxs hcx w _ h
        simp only [Instr.checkKey, Sem.run_bind, run_und hu, Result.andThen_ok, ← Array.forIn_toList]
        simp only [Sem.run_bind] at this
        simp at this ⊢
        simp [this]
    · rename_i len el hu
      split at h <;> try (cases h; done)
      rename_i xs m hm
      cases ha with
      | agg hxs hcx =>
        have := ckAr_ok e (ckP P n el) hm (ih el d (by omega)) φ _ _ hxs hcx w _ _ h
        simp only [Instr.checkKey, Sem.run_bind, run_und hu, Result.andThen_ok]
        simp [Std.Legacy.Range.forIn_eq_forIn_range', Std.Legacy.Range.size] at this ⊢
        simp [this]
    · cases h

-- to find a key
def findP (eqt : AV → AV → Option Bool) (k : AV) : List (AV × AV) → Nat → Option (Option (Nat × AV))
  | [], _ => some none
  | p :: es, i => match eqt k p.1 with
    | some true => some (some (i, p.2))
    | some false => findP eqt k es (i + 1)
    | none => none
theorem findA_eq (eqt : AV → AV → Option Bool) (k : AV) (es : List (AV × AV)) (K : Option (Nat × AV) → Res) :
    findA eqt k es K = match findP eqt k es 0 with | some r => K r | none => .fail "key" := by
  suffices h : ∀ i, (List.rec (motive := fun _ => Nat → Res) (fun _ => K none) (fun p _ ih i => match eqt k p.1 with
      | some true => K (some (i, p.2))
      | some false => fN (Nat.succ i) fun i => ih i
      | none => .fail "key") es i : Res) = match findP eqt k es i with | some r => K r | none => .fail "key" from h 0
  induction es with
  | nil => intro i; rfl
  | cons p es ih =>
    intro i
    simp only [findP]
    cases eqt k p.1 with
    | none => rfl
    | some b => cases b with
      | true => rfl
      | false => simp only [fN_eq]; exact ih (i + 1)
/-- what was found, on both sides -/
def FR (φ : Phi) (es : List (AV × AV)) (es' : List MapEntry) (i : Nat) : Option (Nat × AV) → Option (Nat × Value) → Prop
  | none, none => True
  | some (j, v), some (j', v') => j = j' ∧ i ≤ j ∧ VRel φ v v' ∧ ∃ p e, es[j - i]? = some p ∧ es'[j - i]? = some e ∧ VRel φ p.1 e.key ∧ e.val = v'
  | _, _ => False
theorem FR.shift {φ : Phi} {p : AV × AV} {e : MapEntry} {es : List (AV × AV)} {es' : List MapEntry} {i : Nat} {r : Option (Nat × AV)} {r' : Option (Nat × Value)} (h : FR φ es es' (i + 1) r r') : FR φ (p :: es) (e :: es') i r r' := by
  cases r with
  | none => cases r' with
    | none => trivial
    | some => cases h
  | some r => cases r' with
    | none => cases h
    | some r' =>
      obtain ⟨j, v⟩ := r
      obtain ⟨j', v'⟩ := r'
      obtain ⟨h1, h2, h3, q, f, h4, h5, h6, h7⟩ := h
      obtain ⟨k, rfl⟩ : ∃ k, j = i + 1 + k := ⟨j - (i + 1), by omega⟩
      have e1 : i + 1 + k - (i + 1) = k := by omega
      have e2 : i + 1 + k - i = k + 1 := by omega
      rw [e1] at h4 h5
      exact ⟨h1, by omega, h3, q, f, by rw [e2]; simpa using h4, by rw [e2]; simpa using h5, h6, h7⟩
theorem beq_ba (a b : ByteArray) : (a == b) = beqL (baS a) (baS b) := by
  have := beqL_eq a.data.toList b.data.toList
  have e : beqL (baS a) (baS b) = (a.data.toList == b.data.toList) := this
  rw [e, Bool.eq_iff_iff]
  obtain ⟨x⟩ := a
  obtain ⟨y⟩ := b
  have : ((ByteArray.mk x == ByteArray.mk y) = true) = ((x == y) = true) := rfl
  rw [this]
  simp [← Array.toList_inj]
theorem sameNow_eqP {n : Nat} {t : TypeId} {d : TypeDesc} (hu : P.underlying t = some d) {φ : Phi} {a b : AV} {ca cb : Value} {r q : Bool} (h : eqP P n t a b = some r) (ha : VRel φ a ca) (hb : VRel φ b cb)
    (hs : Instr.sameNow d ca cb = some q) : q = r := by
  cases n with
  | zero => cases h
  | succ n =>
    simp only [eqP, hu] at h
    split at h
    · rename_i he
      cases he
      split at h <;> simp only [Option.some.injEq, reduceCtorEq] at h
      cases ha; cases hb
      simp only [Instr.sameNow, Option.some.injEq] at hs
      rw [← hs, ← h]
    · rename_i he
      cases he
      split at h <;> try (simp only [reduceCtorEq] at h)
      rename_i k1 x k2 y
      cases ha; cases hb
      cases hk : keq k1 k2 with
      | false => rw [hk] at h; cases h
      | true =>
        rw [hk] at h
        simp only [cond_true, Option.some.injEq] at h
        have := keq_true hk
        subst this
        simp only [Instr.sameNow, if_true, Option.some.injEq] at hs
        rw [← hs, ← h, ieq_eq]
    · rename_i he
      cases he
      split at h <;> simp only [Option.some.injEq, reduceCtorEq] at h
      cases ha; cases hb
      simp only [Instr.sameNow, Option.some.injEq] at hs
      rw [← hs, ← h, beq_ba]
    · rename_i he
      cases he
      cases ha <;> cases hb <;> simp [Instr.sameNow] at hs
    · rename_i he
      cases he
      cases ha <;> cases hb <;> simp [Instr.sameNow] at hs
    · cases h
theorem findP_ok {kt : TypeId} {d : TypeDesc} (hu : P.underlying kt = some d) {φ : Phi} {k : AV} {ck : Value} (hk : VRel φ k ck) (w : World) :
    ∀ {es : List (AV × AV)} {es' : List MapEntry} (i : Nat) {r : Option (Nat × AV)}, ERels φ es es' → findP (eqP P 20 kt) k es i = some r →
      ∃ r', FR φ es es' i r r' ∧ (Instr.findAsking kt ck es' i).run P w = .ok r' w ∧ ∀ q, Instr.findNow d ck es' i = some q → q = r' := by
  intro es es' i r hes
  induction hes generalizing i r with
  | nil =>
    intro h
    simp only [findP, Option.some.injEq] at h; subst h
    exact ⟨none, trivial, by simp [Instr.findAsking], fun q hq => by simp [Instr.findNow] at hq; exact hq.symm⟩
  | @cons a v e l l' hka hv hl ih =>
    intro h
    simp only [findP] at h
    cases he : eqP P 20 kt k a with
    | none => rw [he] at h; cases h
    | some b =>
      rw [he] at h
      have hq : (Op.equal kt ck e.key).run P w = .ok b w := eqP_ok 20 kt 10000 (by omega) φ k a b ck e.key w he hk hka
      cases b with
      | true =>
        simp only [Option.some.injEq] at h; subst h
        refine ⟨some (i, e.val), ⟨rfl, Nat.le_refl _, hv, (a, v), e, by simp, by simp, hka, rfl⟩, by simp [Instr.findAsking, hq], fun q hq' => ?_⟩
        simp only [Instr.findNow] at hq'
        cases hs : Instr.sameNow d ck e.key with
        | none => rw [hs] at hq'; cases hq'
        | some c =>
          have := sameNow_eqP hu he hk hka hs
          subst this
          rw [hs] at hq'
          simp only [Option.some.injEq] at hq'
          exact hq'.symm
      | false =>
        obtain ⟨r', f1, f2, f3⟩ := ih (i + 1) h
        refine ⟨r', f1.shift, by simp [Instr.findAsking, hq, f2], fun q hq' => ?_⟩
        simp only [Instr.findNow] at hq'
        cases hs : Instr.sameNow d ck e.key with
        | none => rw [hs] at hq'; cases hq'
        | some c =>
          have := sameNow_eqP hu he hk hka hs
          subst this
          rw [hs] at hq'
          exact f3 q hq'
theorem run_find {kt : TypeId} {d : TypeDesc} (hu : P.underlying kt = some d) {φ : Phi} {k : AV} {ck : Value} (hk : VRel φ k ck) (w : World)
    {es : List (AV × AV)} {es' : List MapEntry} {r : Option (Nat × AV)} (hes : ERels φ es es') (h : findP (eqP P 20 kt) k es 0 = some r) :
    ∃ r', FR φ es es' 0 r r' ∧ (Instr.findKey kt ck es').run P w = .ok r' w := by
  obtain ⟨r', f1, f2, f3⟩ := findP_ok hu hk w 0 hes h
  refine ⟨r', f1, ?_⟩
  simp only [Instr.findKey, Sem.run_bind, run_und hu, Result.andThen_ok]
  cases hq : Instr.findNow d ck es' 0 with
  | none => exact f2
  | some q => rw [f3 q hq]; rfl
end
end Go.Ai

namespace Go.Ai
open Go
set_option linter.unusedVariables false

section
variable {P : Program}
theorem mapA_cases (h : H) (m : AV) : (∃ e, ∀ K : Nat → List (AV × AV) → Res, h.map m K = .fail e) ∨ ∃ b es, m = .map b ∧ h.get b = .map es ∧ ∀ K : Nat → List (AV × AV) → Res, h.map m K = K b es := by
  cases m
  case map b =>
    cases hc : h.get b with
    | map es => exact .inr ⟨b, es, rfl, hc, fun K => by simp only [H.map, hc]⟩
    | _ => exact .inl ⟨_, fun K => by simp only [H.map, hc]; rfl⟩
  all_goals exact .inl ⟨_, fun _ => rfl⟩
theorem lookupOut_eq (ok : Bool) (v : AV) (b : Bool) (h : H) (K : KV) : lookupOut ok v b h K = K (if ok then .tuple [v, .bool b] else v) h := by cases ok <;> rfl
theorem rel_out {φ : Phi} {v : AV} {cv : Value} (hv : VRel φ v cv) (ok b : Bool) : VRel φ (if ok then .tuple [v, .bool b] else v) (if ok then .tuple #[cv, .bool b] else cv) := by
  cases ok with
  | true => simpa using VRel.tuple (.cons hv (.cons (.bool (b := b)) .nil))
  | false => exact hv
theorem lookupS_spec {ty kt el : TypeId} {d : TypeDesc} {z : AV} (hu : P.underlying ty = some (.map kt el)) (hz : zeroV P el = some z) (ok : Bool) (m k : AV) :
    OpSpec P (lookupS (ckP P 20 kt) (eqP P 20 kt) z ok m k) (C2 m k fun cm ck => vN (Instr.lookup ty cm ck ok)) := by
  intro h hwf
  obtain ⟨zv, z1, z2⟩ := zeroV_rel hz
  unfold lookupS
  cases hck : ckP P 20 kt k with
  | false => exact spec_fail
  | true =>
    have ck : ∀ (φ : Phi) ck e w, VRel φ k ck → (Instr.checkKey e 10000 kt ck).run P w = .ok () w := fun φ c e w hk => ckP_ok 20 kt 10000 (by omega) φ k c e w hck hk
    have hd : ∃ d, P.underlying kt = some d := by
      cases hh : P.underlying kt with
      | some d => exact ⟨d, rfl⟩
      | none => simp [ckP, hh] at hck
    obtain ⟨d, hd⟩ := hd
    dsimp only
    split
    · rename_i m
      simp only [lookupOut_eq]
      refine spec_pure2 fun φ cm c w hm hk => ?_
      cases hm
      refine ⟨_, ?_, rel_out (z2 φ) ok false⟩
      simp [Instr.lookup, run_und hu, ck φ c true w hk, Instr.findKey, run_und hd, Instr.findNow, z1]
    · rcases mapA_cases h m with ⟨e, he⟩ | ⟨b, es, rfl, hg, hm⟩
      · simp only [he]; exact spec_fail
      · simp only [hm, findA_eq, lookupOut_eq]
        cases hf : findP (eqP P 20 kt) k es 0 with
        | none => exact spec_fail
        | some r =>
          cases r with
          | none =>
            refine spec_pure ?_
            rintro φ σ w ⟨cm, c, hcm, hk, rfl⟩ r
            cases hcm with
            | map hb =>
              obtain ⟨es', clock, h1, h2⟩ := r.map hb hg
              obtain ⟨r', f1, f2⟩ := run_find hd hk w h2 hf
              cases r' with
              | some r' => cases f1
              | none => exact ⟨_, run_val (by simp [Instr.lookup, run_und hu, run_getObj_map h1, ck φ c _ w hk, f2, z1]), rel_out (z2 φ) ok false⟩
          | some jv =>
            obtain ⟨j, v⟩ := jv
            refine spec_pure ?_
            rintro φ σ w ⟨cm, c, hcm, hk, rfl⟩ r
            cases hcm with
            | map hb =>
              obtain ⟨es', clock, h1, h2⟩ := r.map hb hg
              obtain ⟨r', f1, f2⟩ := run_find hd hk w h2 hf
              cases r' with
              | none => cases f1
              | some r' =>
                obtain ⟨j', v'⟩ := r'
                obtain ⟨g1, g2, g3, _⟩ := f1
                exact ⟨_, run_val (by simp [Instr.lookup, run_und hu, run_getObj_map h1, ck φ c _ w hk, f2]), rel_out g3 ok true⟩

-- the same keys
theorem eqS_bits {φ : Phi} {a b : AV} {ca cb : Value} (h : eqS a b = some true) (ha : VRel φ a ca) (hb : VRel φ b cb) (n : Nat) : Instr.sameBits n ca cb = true := by
  unfold eqS at h
  split at h
  · rename_i k x k' y
    cases hk : keq k k' with
    | false => rw [hk] at h; cases h
    | true =>
      rw [hk] at h
      have := keq_true hk
      subst this
      simp only [cond_true, Option.some.injEq, ieq_eq] at h
      cases ha; cases hb
      simp [Instr.sameBits]
      simpa using h
  · simp only [Option.some.injEq] at h
    cases ha; cases hb
    simp only [Instr.sameBits, beq_ba, h]
  · simp only [Option.some.injEq] at h
    cases ha; cases hb
    simp only [Instr.sameBits, h]
  · cases h
theorem eqL_cons (a : AV) (x : List AV) (b : AV) (y : List AV) : eqL (a :: x) (b :: y) = (match eqS a b with | some true => eqL x y | some false => some false | none => none) := rfl
theorem eqL_bits {φ : Phi} (n : Nat) : ∀ {x y : List AV} {cx cy : List Value}, eqL x y = some true → VRels φ x cx → VRels φ y cy → cx.length = cy.length ∧ (cx.zip cy).all (fun (a, b) => Instr.sameBits n a b) = true
  | [], [], _, _, _, .nil, .nil => ⟨rfl, rfl⟩
  | [], _ :: _, _, _, h, _, _ => by simp [eqL] at h
  | _ :: _, [], _, _, h, _, _ => by simp [eqL] at h
  | a :: x, b :: y, _, _, h, .cons ha hx, .cons hb hy => by
    rw [eqL_cons] at h
    split at h
    · rename_i he
      obtain ⟨h1, h2⟩ := eqL_bits n h hx hy
      refine ⟨by simp [h1], ?_⟩
      simp only [List.zip_cons_cons, List.all_cons, eqS_bits he ha hb, Bool.true_and]
      exact h2
    · cases h
    · cases h
theorem sameA_bits {φ : Phi} {a b : AV} {ca cb : Value} (h : sameA a b = true) (ha : VRel φ a ca) (hb : VRel φ b cb) : Instr.sameBits 10000 ca cb = true := by
  have other : ∀ {a : AV}, VRel φ a ca → (match eqS a b with | some true => true | _ => false) = true → Instr.sameBits 10000 ca cb = true := by
    intro a ha h
    cases he : eqS a b with
    | none => rw [he] at h; cases h
    | some c => cases c with
      | false => rw [he] at h; cases h
      | true => exact eqS_bits he ha hb _
  cases a
  case agg x =>
    cases b
    case agg y =>
      cases ha with
      | agg hx hcx =>
        cases hb with
        | agg hy hcy =>
          simp only [sameA] at h
          cases he : eqL x y with
          | none => rw [he] at h; cases h
          | some c => cases c with
            | false => rw [he] at h; cases h
            | true =>
              obtain ⟨h1, h2⟩ := eqL_bits 9999 he hx hy
              simp only [Instr.sameBits, List.size_toArray, h1, beq_self_eq_true, Bool.true_and]
              exact h2
    all_goals cases h
  all_goals exact other ha h
theorem setNth_eq {α β : Type} (F : β) (n : Nat) (x : α) : ∀ (l : List α) (K : List α → β), setNth F n l x K = if n < l.length then K (l.set n x) else F := by
  induction n with
  | zero => intro l K; cases l with
    | nil => rfl
    | cons y l => rw [if_pos (by simp)]; rfl
  | succ n ih =>
    intro l K
    cases l with
    | nil => rfl
    | cons y l =>
      have : setNth F (n + 1) (y :: l) x K = setNth F n l x fun r => K (y :: r) := rfl
      rw [this, ih]; simp
theorem delNth_eq {α β : Type} (F : β) (n : Nat) : ∀ (l : List α) (K : List α → β), delNth F n l K = if n < l.length then K (l.eraseIdx n) else F := by
  induction n with
  | zero => intro l K; cases l with
    | nil => rfl
    | cons y l => rw [if_pos (by simp)]; rfl
  | succ n ih =>
    intro l K
    cases l with
    | nil => rfl
    | cons y l =>
      have : delNth F (n + 1) (y :: l) K = delNth F n l fun r => K (y :: r) := rfl
      rw [this, ih]; simp
theorem ERels.set {φ : Phi} {k v : AV} {e : MapEntry} (hk : VRel φ k e.key) (hv : VRel φ v e.val) : ∀ {es : List (AV × AV)} {es' : List MapEntry} (n : Nat), ERels φ es es' → ERels φ (es.set n (k, v)) (es'.set n e)
  | _, _, _, .nil => .nil
  | _, _, 0, .cons _ _ hl => .cons hk hv hl
  | _, _, n + 1, .cons h1 h2 hl => .cons h1 h2 (ERels.set hk hv n hl)
theorem ERels.erase {φ : Phi} : ∀ {es : List (AV × AV)} {es' : List MapEntry} (n : Nat), ERels φ es es' → ERels φ (es.eraseIdx n) (es'.eraseIdx n)
  | _, _, _, .nil => .nil
  | _, _, 0, .cons _ _ hl => hl
  | _, _, n + 1, .cons h1 h2 hl => .cons h1 h2 (ERels.erase n hl)
theorem ERels.snoc {φ : Phi} {k v : AV} {e : MapEntry} (hk : VRel φ k e.key) (hv : VRel φ v e.val) : ∀ {es : List (AV × AV)} {es' : List MapEntry}, ERels φ es es' → ERels φ (es ++ [(k, v)]) (es' ++ [e])
  | _, _, .nil => .cons hk hv .nil
  | _, _, .cons h1 h2 hl => .cons h1 h2 (ERels.snoc hk hv hl)
theorem updateS_spec {ty kt el : TypeId} (hu : P.underlying ty = some (.map kt el)) (m k x : AV) :
    OpSpec P (updateS (ckP P 20 kt) (eqP P 20 kt) m k x) (C3 m k x fun cm ck cx => uN (Instr.mapUpdate ty cm ck cx)) := by
  intro h hwf
  unfold updateS
  cases hck : ckP P 20 kt k with
  | false => exact spec_fail
  | true =>
    have ck : ∀ (φ : Phi) ck e w, VRel φ k ck → (Instr.checkKey e 10000 kt ck).run P w = .ok () w := fun φ c e w hk => ckP_ok 20 kt 10000 (by omega) φ k c e w hck hk
    have hd : ∃ d, P.underlying kt = some d := by
      cases hh : P.underlying kt with
      | some d => exact ⟨d, rfl⟩
      | none => simp [ckP, hh] at hck
    obtain ⟨d, hd⟩ := hd
    rcases mapA_cases h m with ⟨e, he⟩ | ⟨b, es, rfl, hg, hm⟩
    · simp only [he]; exact spec_fail
    · simp only [hm, findA_eq]
      cases hf : findP (eqP P 20 kt) k es 0 with
      | none => exact spec_fail
      | some r =>
        cases r with
        | none =>
          simp only [appK_eq]
          refine spec_put hwf (map_ne_gone hg) ?_
          rintro φ σ w ⟨cm, c, cx, hcm, hk, hx, rfl⟩ r hlt
          cases hcm with
          | @map _ L hb =>
            obtain ⟨es', clock, h1, h2⟩ := r.map hb hg
            obtain ⟨r', f1, f2⟩ := run_find hd hk w h2 hf
            cases r' with
            | some r' => cases f1
            | none =>
              obtain ⟨w', w1, w2⟩ := run_setObj (P := P) (.map (es'.toArray.push { key := c, val := cx, born := clock }) (clock + 1)) h1 (by simp)
              refine ⟨undef, L, _, w', hb, Yield.unit ?_, w2, ?_, .undef⟩
              · simp [Instr.mapUpdate, run_und hu, run_getObj_map h1, ck φ c _ w hk, f2] at w1 ⊢
                exact w1
              · have := ORel.map (l := L) (clock := clock + 1) (ERels.snoc (k := k) (v := x) (e := { key := c, val := cx, born := clock }) hk hx h2)
                simpa using this
        | some jv =>
          obtain ⟨j, v⟩ := jv
          simp only [nthK_eq]
          cases hp : es[j]? with
          | none => exact spec_fail
          | some p =>
            simp only
            cases hsame : sameA p.1 k with
            | false => exact spec_fail
            | true =>
              simp only [setNth_eq]
              refine spec_if fun hj => spec_put hwf (map_ne_gone hg) ?_
              rintro φ σ w ⟨cm, c, cx, hcm, hk, hx, rfl⟩ r hlt
              cases hcm with
              | @map _ L hb =>
                obtain ⟨es', clock, h1, h2⟩ := r.map hb hg
                obtain ⟨r', f1, f2⟩ := run_find hd hk w h2 hf
                cases r' with
                | none => cases f1
                | some r' =>
                  obtain ⟨j', v'⟩ := r'
                  obtain ⟨g1, g2, g3, q, e, g4, g5, g6, g7⟩ := f1
                  subst g1
                  simp only [Nat.sub_zero] at g4 g5
                  rw [hp] at g4
                  have := Option.some.inj g4
                  subst this
                  have hb1 := sameA_bits hsame g6 hk
                  have hlt' := (List.getElem?_eq_some_iff.1 g5).1
                  obtain ⟨w', w1, w2⟩ := run_setObj (P := P) (.map (es'.toArray.modify j fun e => { e with key := c, val := cx }) clock) h1 (by simp)
                  refine ⟨undef, L, _, w', hb, Yield.unit ?_, w2, ?_, .undef⟩
                  · have hkey : ((es'.toArray[j]?).map (·.key)).getD c = e.key := by simp [g5]
                    simp only [Instr.mapUpdate, Sem.run_bind, run_und hu, Result.andThen_ok, run_getObj_map h1, ck φ c _ w hk, f2, hkey, Instr.keyThatStays, hb1, if_true, Sem.run_pure]
                    exact w1
                  · have e1 : es'.toArray.modify j (fun e => { e with key := c, val := cx }) = (es'.set j { e with key := c, val := cx }).toArray := by
                      apply Array.ext'
                      rw [Array.toList_modify, List.toList_toArray]
                      apply List.ext_getElem?
                      intro i
                      rw [List.getElem?_modify, List.getElem?_set]
                      by_cases hi : j = i
                      · subst hi; simp [hlt', (List.getElem?_eq_some_iff.1 g5).2]
                      · simp [hi]
                    rw [e1]
                    exact .map (ERels.set (e := { e with key := c, val := cx }) hk hx j h2)
theorem deleteS_spec {ats : Array TypeId} {t ty kt el : TypeId} (h0 : ats[0]? = some t) (hu : P.underlying t = some (.map kt el)) (m k : AV) :
    OpSpec P (deleteS (ckP P 20 kt) (eqP P 20 kt) m k) (C2 m k fun cm ck => vN (Builtin.delete_ ats ty #[cm, ck])) := by
  intro h hwf
  unfold deleteS
  cases hck : ckP P 20 kt k with
  | false => exact spec_fail
  | true =>
    have ck : ∀ (φ : Phi) ck e w, VRel φ k ck → (Instr.checkKey e 10000 kt ck).run P w = .ok () w := fun φ c e w hk => ckP_ok 20 kt 10000 (by omega) φ k c e w hck hk
    have hd : ∃ d, P.underlying kt = some d := by
      cases hh : P.underlying kt with
      | some d => exact ⟨d, rfl⟩
      | none => simp [ckP, hh] at hck
    obtain ⟨d, hd⟩ := hd
    dsimp only
    split
    · rename_i m
      refine spec_pure2 fun φ cm c w hm hk => ?_
      cases hm
      exact ⟨undef, by simp [Builtin.delete_, h0, run_und hu, ck φ c true w hk]; rfl, .undef⟩
    · rcases mapA_cases h m with ⟨e, he⟩ | ⟨b, es, rfl, hg, hm⟩
      · simp only [he]; exact spec_fail
      · simp only [hm, findA_eq]
        cases hf : findP (eqP P 20 kt) k es 0 with
        | none => exact spec_fail
        | some r =>
          cases r with
          | none =>
            refine spec_put hwf (map_ne_gone hg) ?_
            rintro φ σ w ⟨cm, c, hcm, hk, rfl⟩ r hlt
            cases hcm with
            | @map _ L hb =>
              obtain ⟨es', clock, h1, h2⟩ := r.map hb hg
              obtain ⟨r', f1, f2⟩ := run_find hd hk w h2 hf
              cases r' with
              | some r' => cases f1
              | none =>
                obtain ⟨w', w1, w2⟩ := run_setObj (P := P) (.map es'.toArray clock) h1 (by simp)
                exact ⟨undef, L, _, w', hb, Yield.val (by simp [Builtin.delete_, h0, run_und hu, run_getObj_map h1, ck φ c _ w hk, f2, w1]; rfl), w2, .map h2, .undef⟩
          | some jv =>
            obtain ⟨j, v⟩ := jv
            simp only [delNth_eq]
            refine spec_if fun hj => spec_put hwf (map_ne_gone hg) ?_
            rintro φ σ w ⟨cm, c, hcm, hk, rfl⟩ r hlt
            cases hcm with
            | @map _ L hb =>
              obtain ⟨es', clock, h1, h2⟩ := r.map hb hg
              obtain ⟨r', f1, f2⟩ := run_find hd hk w h2 hf
              cases r' with
              | none => cases f1
              | some r' =>
                obtain ⟨j', v'⟩ := r'
                obtain ⟨g1, g2, g3, q, e, g4, g5, g6, g7⟩ := f1
                subst g1
                simp only [Nat.sub_zero] at g4 g5
                obtain ⟨w', w1, w2⟩ := run_setObj (P := P) (.map (es'.toArray.eraseIdxIfInBounds j) clock) h1 (by simp)
                refine ⟨undef, L, _, w', hb, Yield.val (by simp [Builtin.delete_, h0, run_und hu, run_getObj_map h1, ck φ c _ w hk, f2, w1] at w1 ⊢; rw [w1]; rfl), w2, ?_, .undef⟩
                have e1 : es'.toArray.eraseIdxIfInBounds j = (es'.eraseIdx j).toArray := by simp
                rw [e1]
                exact .map (h2.erase j)
end
end Go.Ai

namespace Go.Ai
open Go
set_option linter.unusedVariables false

section
variable {P : Program}
-- ranges
theorem rangeStrS_spec {ty : TypeId} (hu : P.underlying ty = some .string) (x : AV) : OpSpec P (rangeStrS x) (C1 x fun cx => vN (Instr.range ty cx)) := by
  intro h hwf
  cases x with
  | str s =>
    refine spec_new (o := .strit s 0) (v := fun b => .ptr b 0) hwf ?_
    rintro φ σ w ⟨ca, ha, rfl⟩ r
    cases ha with
    | @str b =>
      refine ⟨_, .stringIter b 0, 0, w.alloc (.stringIter b 0), Yield.val (by simp [Instr.range, run_und hu]), rfl, rfl, rfl, rfl, ?_, fun φ' _ hn => ptr_new hn⟩
      have := ORel.strit (φ := φ) (l := ⟨w.heap.size, 0, 0⟩) (s := b) (pos := 0) rfl
      simpa using this
  | _ => exact spec_fail
theorem rangeMapS_spec {ty k e : TypeId} (hu : P.underlying ty = some (.map k e)) (x : AV) : OpSpec P (rangeMapS x) (C1 x fun cx => vN (Instr.range ty cx)) := by
  intro h hwf
  cases x with
  | mapnil =>
    refine spec_new (o := .mapit0) (v := fun b => .ptr b 0) hwf ?_
    rintro φ σ w ⟨ca, ha, rfl⟩ r
    cases ha
    exact ⟨_, .mapIter none 0 #[] 0, 0, w.alloc (.mapIter none 0 #[] 0), Yield.val (by simp [Instr.range, run_und hu]), rfl, rfl, rfl, rfl, .mapit0 rfl, fun φ' _ hn => ptr_new hn⟩
  | _ => exact spec_fail
theorem run_getObj_it {w : World} {b : Nat} {O : Obj} (h : w.heap[b]? = some O) (hc : ∀ c e f, O ≠ .cells c e f) : (getObj b).run P w = .ok O w := by
  cases O <;> first | exact absurd rfl (hc _ _ _) | simp [getObj, Sem.run, h]
theorem decode_ascii (s : ByteArray) (pos : Nat) (c : Nat) (l : List Nat) (h : (baS s).drop pos = c :: l) (hc : c < 128) : pos < s.size ∧ Utf8.decode s pos = (c, 1) ∧ l = (baS s).drop (pos + 1) := by
  have hlt : pos < (baS s).length := by
    rcases Nat.lt_or_ge pos (baS s).length with h' | h'
    · exact h'
    · rw [List.drop_eq_nil_of_le h'] at h; cases h
  rw [List.drop_eq_getElem_cons hlt] at h
  injection h with h1 h2
  rw [baS_length] at hlt
  refine ⟨hlt, ?_, h2.symm⟩
  have hget : (s.get! pos).toNat = c := by
    rw [← h1]
    simp only [baS, List.getElem_map, Array.getElem_toList]
    have : s.get! pos = s.data[pos]! := rfl
    rw [this]
    have hd : pos < s.data.size := hlt
    rw [getElem!_pos s.data pos hd]
  unfold Utf8.decode
  simp only [Nat.add_zero, hget]
  rw [if_pos (by omega)]
theorem nextStrS_spec (it : AV) (ty : TypeId) : OpSpec P (nextStrS it) (C1 it fun cit => vN (Instr.next cit true ty)) := by
  intro h hwf
  cases it with
  | ptr b o =>
    cases o with
    | succ o => exact spec_fail
    | zero =>
      simp only [nextStrS]
      cases hg : h.get b with
      | strit s pos =>
        cases s with
        | nil =>
          refine spec_pure ?_
          rintro φ σ w ⟨ca, ha, rfl⟩ r
          cases ha with
          | @ptr _ _ L hb =>
            obtain ⟨O, h1, h2⟩ := r.obj b L hb (by rw [hg]; exact fun h => by cases h)
            rw [hg] at h2
            generalize hs : ([] : List Nat) = s at h2
            cases h2 with
            | @strit sb _ hbase =>
              have hge : ¬ pos < sb.size := by
                have := congrArg List.length hs
                simp [baS_length] at this
                omega
              refine ⟨.tuple #[.bool false], run_val ?_, by simpa using VRel.tuple (φ := φ) (.cons (.bool (b := false)) .nil)⟩
              have hi := run_getObj_it (P := P) h1 (by simp)
              simp [Instr.next, hbase, hi, hge]
        | cons c s =>
          simp only
          cases hc : Nat.blt c 128 with
          | false => exact spec_fail
          | true =>
            have hc' : c < 128 := Nat.le_of_ble_eq_true hc
            simp only [fN_eq]
            refine spec_put hwf (by rw [hg]; exact fun h => by cases h) ?_
            rintro φ σ w ⟨ca, ha, rfl⟩ r hlt
            cases ha with
            | @ptr _ _ L hb =>
              obtain ⟨O, h1, h2⟩ := r.obj b L hb (by rw [hg]; exact fun h => by cases h)
              rw [hg] at h2
              generalize hs : c :: s = s' at h2
              cases h2 with
              | @strit sb _ hbase =>
                obtain ⟨d1, d2, d3⟩ := decode_ascii sb pos c s hs.symm hc'
                have hi := run_getObj_it (P := P) h1 (by simp)
                obtain ⟨w', w1, w2⟩ := run_setObj (P := P) (.stringIter sb (pos + 1)) h1 (by simp)
                refine ⟨.tuple #[.bool true, goInt pos, .int .i32 c], L, _, w', hb, Yield.val ?_, w2, ?_, ?_⟩
                · simp [Instr.next, hbase, hi, d1, d2, w1]
                · subst d3; exact .strit hbase
                · simpa [goInt] using VRel.tuple (φ := φ) (.cons (.bool (b := true)) (.cons (.int (k := .i64) (n := Int.ofNat pos)) (.cons (.int (k := .i32) (n := Int.ofNat c)) .nil)))
      | _ => exact spec_fail
  | _ => exact spec_fail
theorem nextMapS_spec (it : AV) (ty : TypeId) : OpSpec P (nextMapS it) (C1 it fun cit => vN (Instr.next cit false ty)) := by
  intro h hwf
  cases it with
  | ptr b o =>
    cases o with
    | succ o => exact spec_fail
    | zero =>
      simp only [nextMapS]
      cases hg : h.get b with
      | mapit0 =>
        refine spec_pure ?_
        rintro φ σ w ⟨ca, ha, rfl⟩ r
        cases ha with
        | @ptr _ _ L hb =>
          obtain ⟨O, h1, h2⟩ := r.obj b L hb (by rw [hg]; exact fun h => by cases h)
          rw [hg] at h2
          cases h2 with
          | mapit0 hbase =>
            refine ⟨.tuple #[.bool false], run_val ?_, by simpa using VRel.tuple (φ := φ) (.cons (.bool (b := false)) .nil)⟩
            have hi := run_getObj_it (P := P) h1 (by simp)
            simp [Instr.next, hbase, hi]
      | _ => exact spec_fail
  | _ => exact spec_fail

-- min and max
theorem minmaxA_cases (isMax : Bool) : ∀ (l : List AV) (v : AV) (h : H), (∃ e, ∀ K, minmaxA isMax l v h K = .fail e) ∨ ∃ r, (∀ K, minmaxA isMax l v h K = K r h) ∧
    ∀ (φ : Phi) cl cv w, VRels φ l cl → VRel φ v cv → ∃ cr, (cl.foldlM (if isMax then Builtin.max2 else Builtin.min2) cv).run P w = .ok cr w ∧ VRel φ r cr := by
  intro l
  induction l with
  | nil => intro v h; exact .inr ⟨v, fun _ => rfl, fun φ cl cv w hl hv => by cases hl; exact ⟨cv, rfl, hv⟩⟩
  | cons x l ih =>
    intro v h
    have hd : ∀ K, minmaxA isMax (x :: l) v h K = (match v, x with
      | .int k a, .int k' b => match keq k k' with
        | true => match (cond isMax (ilt a b) (ilt b a)) with
          | true => minmaxA isMax l (.int k b) h K
          | false => minmaxA isMax l (.int k a) h K
        | false => .fail "minmax"
      | _, _ => .fail "minmax") := fun _ => rfl
    cases v
    case int k a =>
      cases x
      case int k' b =>
        cases hk : keq k k' with
        | false => exact .inl ⟨_, fun K => by rw [hd]; simp only [hk]; rfl⟩
        | true =>
          have := keq_true hk
          subst this
          have step : ∀ c : Int, c = (if (cond isMax (ilt a b) (ilt b a)) = true then b else a) → (∀ w, ((if isMax then Builtin.max2 else Builtin.min2) (.int k a) (.int k b)).run P w = .ok (.int k c) w) := by
            intro c hc w
            subst hc
            cases isMax with
            | true => simp [Builtin.max2, ilt_eq]
            | false => simp [Builtin.min2, ilt_eq]
          have go : ∀ c : Int, c = (if (cond isMax (ilt a b) (ilt b a)) = true then b else a) → (∀ K, minmaxA isMax (.int k b :: l) (.int k a) h K = minmaxA isMax l (.int k c) h K) →
              (∃ e, ∀ K, minmaxA isMax (.int k b :: l) (.int k a) h K = .fail e) ∨ ∃ r, (∀ K, minmaxA isMax (.int k b :: l) (.int k a) h K = K r h) ∧
              ∀ (φ : Phi) cl cv w, VRels φ (.int k b :: l) cl → VRel φ (.int k a) cv → ∃ cr, (cl.foldlM (if isMax then Builtin.max2 else Builtin.min2) cv).run P w = .ok cr w ∧ VRel φ r cr := by
            intro c hc he
            rcases ih (.int k c) h with ⟨e, hf⟩ | ⟨r, h1, h2⟩
            · exact .inl ⟨e, fun K => by rw [he, hf]⟩
            · refine .inr ⟨r, fun K => by rw [he, h1], fun φ cl cv w hl hv => ?_⟩
              cases hl with
              | cons hx hl =>
                cases hx; cases hv
                obtain ⟨cr, c1, c2⟩ := h2 φ _ (.int k c) w hl .int
                refine ⟨cr, ?_, c2⟩
                simp only [List.foldlM_cons, Sem.run_bind, step c hc w, Result.andThen_ok]
                exact c1
          cases hcond : cond isMax (ilt a b) (ilt b a) with
          | true => exact go b (by rw [hcond]; rfl) fun K => by rw [hd]; simp only [hk, hcond]
          | false => exact go a (by rw [hcond]; rfl) fun K => by rw [hd]; simp only [hk, hcond]
      all_goals exact .inl ⟨_, fun K => by rw [hd]⟩
    all_goals exact .inl ⟨_, fun K => by rw [hd]⟩
theorem minmaxS_spec (isMax : Bool) (vs : List AV) (ats : Array TypeId) (ty : TypeId) :
    OpSpecP P (minmaxS isMax vs) (Cn vs fun cl => vN ((if isMax then Builtin.max_ else Builtin.min_) ats ty cl.toArray)) := by
  intro h hwf
  cases vs with
  | nil => exact specP_fail
  | cons v l =>
    simp only [minmaxS]
    rcases minmaxA_cases (P := P) isMax l v h with ⟨e, hf⟩ | ⟨r, h1, h2⟩
    · simp only [hf]; exact specP_fail
    · simp only [h1]
      refine specP_pure ?_
      rintro φ σ w ⟨cl, hl, rfl⟩ _
      cases hl with
      | cons hv hl =>
        obtain ⟨cr, c1, c2⟩ := h2 φ _ _ w hl hv
        refine ⟨cr, run_val ?_, c2⟩
        cases isMax with
        | true => simpa [Builtin.max_] using c1
        | false => simpa [Builtin.min_] using c1

-- slices with three bounds
def CS3 (ty : TypeId) (lo : Bool) (vs : List AV) : Phi → Sem Next → Prop := fun φ s =>
  ∃ cx clo chi cm, VRels φ vs (cx :: (clo.toList ++ [chi, cm])) ∧ clo.isSome = lo ∧ s = vN (Instr.sliceAt ty cx clo (some chi) (some cm))
theorem run_bounds3 {k1 k2 : IntKind} {len cap x m : Nat} (w : World) (hm : m ≤ cap) (hx : x ≤ m) (clo : Option Value) (l : Nat) (hl : l ≤ x) (hlo : clo = none ∧ l = 0 ∨ ∃ k, clo = some (.int k (l : Int))) (isS : Bool) :
    (Instr.sliceBounds isS len cap clo (some (.int k1 (x : Int))) (some (.int k2 (m : Int)))).run P w = .ok (l, x, m) w := by
  rcases hlo with ⟨rfl, rfl⟩ | ⟨k, rfl⟩
  · simp [Instr.sliceBounds, run_bound' hm, run_bound' hx]
  · simp [Instr.sliceBounds, run_bound' hm, run_bound' hx, run_bound' hl]
theorem slice3S_spec {ty el : TypeId} {n : Nat} (hu : P.underlying ty = some (.slice el)) (hn : szOf P el = some n) (lo : Bool) (vs : List AV) : OpSpecP P (slice3S n lo vs) (CS3 ty lo vs) := by
  intro h hwf
  have place : ∀ (L : Loc) (o l m : Nat), (if m = l then some (⟨L.blk, L.base + o, none⟩ : Addr) else (some (⟨L.blk, L.base + o, none⟩ : Addr)).map (·.add (l * n))) =
      some ⟨L.blk, L.base + (if Nat.beq m l then o else o + l * n), none⟩ := by
    intro L o l m
    by_cases hc : m = l
    · subst hc; simp
    · have hb : Nat.beq m l = false := beq_ne hc
      rw [if_neg hc]
      simp [hb, addr_add, Nat.add_assoc]
  unfold slice3S
  split
  · rename_i b o len cp l x m
    refine boundA_spec cp m (fun m K => boundA m x fun x => boundA x l fun l => fN (Nat.sub x l) fun len => fN (Nat.sub m l) fun c => advA (Nat.beq m l) o l n fun o => K (.slice b o len c) h) ?_
    rintro k2 mm rfl hm
    refine boundA_spec mm x (fun x K => boundA x l fun l => fN (Nat.sub x l) fun len => fN (Nat.sub mm l) fun c => advA (Nat.beq mm l) o l n fun o => K (.slice b o len c) h) ?_
    rintro k1 xx rfl hx
    refine boundA_spec xx l (fun l K => fN (Nat.sub xx l) fun len => fN (Nat.sub mm l) fun c => advA (Nat.beq mm l) o l n fun o => K (.slice b o len c) h) ?_
    rintro k0 ll rfl hl
    simp only [fN_eq, advA_eq]
    refine specP_pure ?_
    rintro φ σ w ⟨cx, clo, chi, cm, hr, k1, rfl⟩ _
    cases clo with
    | none => simp at k1
    | some cl =>
      cases hr with
      | cons h1 hr =>
        cases hr with
        | cons h2 hr =>
          cases hr with
          | cons h3 hr =>
            cases hr with
            | cons h4 hr =>
              cases h2; cases h3; cases h4
              cases h1 with
              | @slice _ _ _ _ L hb =>
                refine ⟨_, run_val (run_sliceAt_slice hu hn (run_bounds3 w hm hx _ ll hl (.inr ⟨_, rfl⟩) true)), ?_⟩
                rw [place]
                exact .slice hb
  · rename_i b o len cp x m
    refine boundA_spec cp m (fun m K => boundA m x fun x => fN (Nat.sub x 0) fun len => fN (Nat.sub m 0) fun c => advA (Nat.beq m 0) o 0 n fun o => K (.slice b o len c) h) ?_
    rintro k2 mm rfl hm
    refine boundA_spec mm x (fun x K => fN (Nat.sub x 0) fun len => fN (Nat.sub mm 0) fun c => advA (Nat.beq mm 0) o 0 n fun o => K (.slice b o len c) h) ?_
    rintro k1 xx rfl hx
    simp only [fN_eq, advA_eq]
    refine specP_pure ?_
    rintro φ σ w ⟨cx, clo, chi, cm, hr, k1, rfl⟩ _
    cases clo with
    | some cl => simp at k1
    | none =>
      cases hr with
      | cons h1 hr =>
        cases hr with
        | cons h3 hr =>
          cases hr with
          | cons h4 hr =>
            cases h3; cases h4
            cases h1 with
            | @slice _ _ _ _ L hb =>
              refine ⟨_, run_val (run_sliceAt_slice hu hn (run_bounds3 w hm hx _ 0 (Nat.zero_le _) (.inl ⟨rfl, rfl⟩) true)), ?_⟩
              rw [place]
              exact .slice hb
  · rename_i l x m
    refine boundA_spec 0 m (fun m K => boundA m x fun x => boundA x l fun _ => K .snil h) ?_
    rintro k2 mm rfl hm
    refine boundA_spec mm x (fun x K => boundA x l fun _ => K .snil h) ?_
    rintro k1 xx rfl hx
    refine boundA_spec xx l (fun l K => K .snil h) ?_
    rintro k0 ll rfl hl
    refine specP_pure ?_
    rintro φ σ w ⟨cx, clo, chi, cm, hr, k1, rfl⟩ _
    cases clo with
    | none => simp at k1
    | some cl =>
      cases hr with
      | cons h1 hr =>
        cases hr with
        | cons h2 hr =>
          cases hr with
          | cons h3 hr =>
            cases hr with
            | cons h4 hr =>
              cases h1; cases h2; cases h3; cases h4
              refine ⟨_, run_val (run_sliceAt_slice hu hn (run_bounds3 w hm hx _ ll hl (.inr ⟨_, rfl⟩) true)), ?_⟩
              have e1 : mm = 0 := by omega
              have e2 : ll = 0 := by omega
              have e3 : xx = 0 := by omega
              subst e1; subst e2; subst e3
              simpa using VRel.snil
  · rename_i x m
    refine boundA_spec 0 m (fun m K => boundA m x fun _ => K .snil h) ?_
    rintro k2 mm rfl hm
    refine boundA_spec mm x (fun _ K => K .snil h) ?_
    rintro k1 xx rfl hx
    refine specP_pure ?_
    rintro φ σ w ⟨cx, clo, chi, cm, hr, k1, rfl⟩ _
    cases clo with
    | some cl => simp at k1
    | none =>
      cases hr with
      | cons h1 hr =>
        cases hr with
        | cons h3 hr =>
          cases hr with
          | cons h4 hr =>
            cases h1; cases h3; cases h4
            refine ⟨_, run_val (run_sliceAt_slice hu hn (run_bounds3 w hm hx _ 0 (Nat.zero_le _) (.inl ⟨rfl, rfl⟩) true)), ?_⟩
            have e1 : mm = 0 := by omega
            have e3 : xx = 0 := by omega
            subst e1; subst e3
            simpa using VRel.snil
  · exact specP_fail
end
end Go.Ai

namespace Go.Ai
open Go
set_option linter.unusedVariables false

/-- which memory an operation touches: any; none; it makes one block -/
inductive Kd | any | pure | alloc
section
variable (P : Program)
def OpSpecK : Kd → (H → KV → Res) → (Phi → Sem Next → Prop) → Prop
  | .any, g, C => OpSpec P g C
  | .pure, g, C => OpSpecP P g C
  | .alloc, g, C => OpSpecA P g C
/-- what is known of an operation's meaning -/
def SemOk (κ : Kd) (o : Oper) : OpS → Prop
  | .bad _ => True
  | .h0 g => OpSpecK P κ g fun _ σ => ∃ ρ, σ = execOp ρ o
  | .h1 x g => ∀ a, OpSpecK P κ (g a) fun φ σ => ∃ ρ, VRel φ a (ρ x) ∧ σ = execOp ρ o
  | .h2 x y g => ∀ a b, OpSpecK P κ (g a b) fun φ σ => ∃ ρ, VRel φ a (ρ x) ∧ VRel φ b (ρ y) ∧ σ = execOp ρ o
  | .h3 x y z g => ∀ a b c, OpSpecK P κ (g a b c) fun φ σ => ∃ ρ, VRel φ a (ρ x) ∧ VRel φ b (ρ y) ∧ VRel φ c (ρ z) ∧ σ = execOp ρ o
  | .hn xs g => ∀ l, OpSpecK P κ (g l) fun φ σ => ∃ ρ, VRels φ l (xs.map ρ) ∧ σ = execOp ρ o
  | .call f xs => κ = .any ∧ ∃ cl, o.op = .call cl ∧ cl.callee = .value (.func f) ∧ cl.args.toList = xs
  | .callv f xs => κ = .any ∧ ∃ cl, o.op = .call cl ∧ cl.callee = .value f ∧ cl.args.toList = xs
  | .invoke r name xs => κ = .any ∧ ∃ cl, o.op = .call cl ∧ cl.callee = .invoke r name ∧ cl.args.toList = xs
  | .deferv f xs => κ = .any ∧ ∃ cl, o.op = .defer cl ∧ cl.callee = .value f ∧ cl.args.toList = xs
  | .deferi r name xs => κ = .any ∧ ∃ cl, o.op = .defer cl ∧ cl.callee = .invoke r name ∧ cl.args.toList = xs
/-- the kind fits the class -/
def KindOk (o : Oper) : Kd → Prop
  | .any => True
  | .pure => clsOf P o = .pure
  | .alloc => ∃ d, clsOf P o = .alloc d
variable {P}
theorem OpSpec.mono {C C' : Phi → Sem Next → Prop} {g : H → KV → Res} (hc : ∀ φ s, C' φ s → C φ s) (hg : OpSpec P g C) : OpSpec P g C' := fun h hwf => (hg h hwf).mono hc
theorem OpSpecP.mono {C C' : Phi → Sem Next → Prop} {g : H → KV → Res} (hc : ∀ φ s, C' φ s → C φ s) (hg : OpSpecP P g C) : OpSpecP P g C' := fun h hwf => by
  rcases hg h hwf with hf | ⟨v, h1, h2⟩
  · exact .inl hf
  · exact .inr ⟨v, h1, fun φ s w hC => h2 φ s w (hc φ s hC)⟩
theorem OpSpecA.mono {C C' : Phi → Sem Next → Prop} {g : H → KV → Res} (hc : ∀ φ s, C' φ s → C φ s) (hg : OpSpecA P g C) : OpSpecA P g C' := fun h hwf => by
  rcases hg h hwf with hf | ⟨v, o, h0, h1, h2⟩
  · exact .inl hf
  · exact .inr ⟨v, o, h0, h1, fun φ s w hC => h2 φ s w (hc φ s hC)⟩
theorem OpSpecK.mono {C C' : Phi → Sem Next → Prop} {g : H → KV → Res} {κ : Kd} (hc : ∀ φ s, C' φ s → C φ s) (hg : OpSpecK P κ g C) : OpSpecK P κ g C' := by
  cases κ
  · exact OpSpec.mono hc hg
  · exact OpSpecP.mono hc hg
  · exact OpSpecA.mono hc hg
theorem OpSpecP.kd {C : Phi → Sem Next → Prop} {g : H → KV → Res} {κ : Kd} (hk : κ ≠ .alloc) (hg : OpSpecP P g C) : OpSpecK P κ g C := by
  cases κ
  · exact hg.any
  · exact hg
  · exact absurd rfl hk
theorem OpSpecA.kd {C : Phi → Sem Next → Prop} {g : H → KV → Res} {κ : Kd} (hk : κ ≠ .pure) (hg : OpSpecA P g C) : OpSpecK P κ g C := by
  cases κ
  · exact hg.any
  · exact absurd rfl hk
  · exact hg
theorem OpSpec.kd {C : Phi → Sem Next → Prop} {g : H → KV → Res} {κ : Kd} (hk : κ = .any) (hg : OpSpec P g C) : OpSpecK P κ g C := by
  subst hk; exact hg
theorem VRels.one {φ : Phi} {l : List AV} {v : Value} (h : VRels φ l [v]) : ∃ a, l = [a] ∧ VRel φ a v := by
  cases h with
  | cons h hl => cases hl; exact ⟨_, rfl, h⟩
theorem of_h1 {κ : Kd} {o : Oper} {x : Operand} {F : Value → Sem Next} {g : AV → H → KV → Res} (hF : ∀ ρ, execOp ρ o = F (ρ x)) (hg : ∀ a, OpSpecK P κ (g a) (C1 a F)) : SemOk P κ o (.h1 x g) :=
  fun a => (hg a).mono fun φ σ ⟨ρ, h1, h2⟩ => ⟨ρ x, h1, h2.trans (hF ρ)⟩
theorem of_h2 {κ : Kd} {o : Oper} {x y : Operand} {F : Value → Value → Sem Next} {g : AV → AV → H → KV → Res} (hF : ∀ ρ, execOp ρ o = F (ρ x) (ρ y)) (hg : ∀ a b, OpSpecK P κ (g a b) (C2 a b F)) : SemOk P κ o (.h2 x y g) :=
  fun a b => (hg a b).mono fun φ σ ⟨ρ, h1, h2, h3⟩ => ⟨ρ x, ρ y, h1, h2, h3.trans (hF ρ)⟩
theorem of_h3 {κ : Kd} {o : Oper} {x y z : Operand} {F : Value → Value → Value → Sem Next} {g : AV → AV → AV → H → KV → Res} (hF : ∀ ρ, execOp ρ o = F (ρ x) (ρ y) (ρ z)) (hg : ∀ a b c, OpSpecK P κ (g a b c) (C3 a b c F)) : SemOk P κ o (.h3 x y z g) :=
  fun a b c => (hg a b c).mono fun φ σ ⟨ρ, h1, h2, h3, h4⟩ => ⟨ρ x, ρ y, ρ z, h1, h2, h3, h4.trans (hF ρ)⟩
theorem of_hn {κ : Kd} {o : Oper} {xs : List Operand} {F : List Value → Sem Next} {g : List AV → H → KV → Res} (hF : ∀ ρ, execOp ρ o = F (xs.map ρ)) (hg : ∀ l, OpSpecK P κ (g l) (Cn l F)) : SemOk P κ o (.hn xs g) :=
  fun l => (hg l).mono fun φ σ ⟨ρ, h1, h2⟩ => ⟨xs.map ρ, h1, h2.trans (hF ρ)⟩
theorem one_of {α : Type} {a : Array α} {x : α} (h : a.toList = [x]) : a = #[x] := by
  apply Array.ext'; simpa using h
theorem two_of {α : Type} {a : Array α} {x y : α} (h : a.toList = [x, y]) : a = #[x, y] := by
  apply Array.ext'; simpa using h
theorem bind_some' {α β : Type} {x : Option α} {f : α → Option β} {b : β} (h : x.bind f = some b) : ∃ a, x = some a ∧ f a = some b := by
  cases x with
  | none => cases h
  | some a => exact ⟨a, rfl, h⟩

theorem map1 (ρ : Operand → Value) (x : Operand) : Array.map ρ #[x] = #[ρ x] := by simp
theorem map2 (ρ : Operand → Value) (x y : Operand) : Array.map ρ #[x, y] = #[ρ x, ρ y] := by simp
theorem execOp_builtin {o : Oper} {cl : Call} {b : Builtin} (ho : o.op = .call cl) (hc : cl.callee = .builtin b) (ρ : Operand → Value) :
    execOp ρ o = builtin b cl.argTypes o.type (cl.args.map fun | .const _ => true | _ => false) (cl.args.map ρ) := by
  simp only [execOp, ho, resolve, hc]
  rfl
theorem cls_builtin {o : Oper} {cl : Call} {b : Builtin} (ho : o.op = .call cl) (hc : cl.callee = .builtin b) : clsOf P o = clsB P b cl.argTypes := by
  simp only [clsOf, ho]
  obtain ⟨callee, args, ats⟩ := cl
  simp only at hc
  subst hc
  rfl
theorem clsB_not_alloc (b : Builtin) (ats : Array TypeId) (d : Nat) : clsB P b ats ≠ .alloc d := by
  unfold clsB
  split
  · simp
  · simp
  · simp
  · split <;> simp
  · simp
theorem builtinP_ok {κ : Kd} {o : Oper} {cl : Call} {b : Builtin} (ho : o.op = .call cl) (hc : cl.callee = .builtin b) (hκ : KindOk P o κ) : SemOk P κ o (builtinP P b cl.args.toList cl.argTypes.toList) := by
  have hna : κ ≠ .alloc := by
    rintro rfl
    obtain ⟨d, hd⟩ := hκ
    rw [cls_builtin ho hc] at hd
    exact clsB_not_alloc _ _ _ hd
  have busy : clsB P b cl.argTypes = .busy → κ = .any := by
    intro hb
    cases κ with
    | any => rfl
    | alloc => exact absurd rfl hna
    | pure =>
      have : clsOf P o = .pure := hκ
      rw [cls_builtin ho hc, hb] at this
      cases this
  have hex := execOp_builtin ho hc
  have gt : ∀ (i : Nat), cl.argTypes.toList[i]? = cl.argTypes[i]? := fun i => Array.getElem?_toList
  unfold builtinP
  split
  · rename_i x hx
    have hargs := one_of hx
    have hex' : ∀ ρ, execOp ρ o = b1 Builtin.len_ cl.argTypes o.type (ρ x) := fun ρ => by rw [hex, hargs, map1]; rfl
    split
    · rename_i hu
      obtain ⟨t, h0, h1⟩ := bind_some' hu
      rw [gt] at h0
      exact of_h1 hex' fun a => (lenStrS_spec h0 h1 a).kd hna
    · rename_i hu
      obtain ⟨t, h0, h1⟩ := bind_some' hu
      rw [gt] at h0
      exact of_h1 hex' fun a => (lenSlS_spec h0 h1 a).kd hna
    · rename_i hu
      obtain ⟨t, h0, h1⟩ := bind_some' hu
      rw [gt] at h0
      exact of_h1 hex' fun a => (lenMapS_spec h0 h1 a).kd (busy (by simp only [clsB, h0, Option.bind_some, h1]))
    · rename_i hu
      obtain ⟨t, h0, h1⟩ := bind_some' hu
      rw [gt] at h0
      refine OpSpecP.kd hna ((lenArr_spec (ty := o.type) h0 h1).mono fun φ σ ⟨ρ, h⟩ => ⟨ρ x, h.trans (hex' ρ)⟩)
    · trivial
  · rename_i x hx
    have hargs := one_of hx
    have hex' : ∀ ρ, execOp ρ o = b1 Builtin.cap_ cl.argTypes o.type (ρ x) := fun ρ => by rw [hex, hargs, map1]; rfl
    split
    · rename_i hu
      obtain ⟨t, h0, h1⟩ := bind_some' hu
      rw [gt] at h0
      exact of_h1 hex' fun a => (capS_spec h0 h1 a).kd hna
    · rename_i hu
      obtain ⟨t, h0, h1⟩ := bind_some' hu
      rw [gt] at h0
      refine OpSpecP.kd hna ((capArr_spec (ty := o.type) h0 h1).mono fun φ σ ⟨ρ, h⟩ => ⟨ρ x, h.trans (hex' ρ)⟩)
    · trivial
  · rename_i s x hx
    have hargs := two_of hx
    have hex' : ∀ ρ, execOp ρ o = vN (Builtin.append_ cl.argTypes o.type #[ρ s, ρ x]) := fun ρ => by rw [hex, hargs, map2]; rfl
    split
    · rename_i st xt hat
      have h0 : cl.argTypes[0]? = some st := by rw [← gt, hat]; rfl
      have h1 : cl.argTypes[1]? = some xt := by rw [← gt, hat]; rfl
      have app : ∀ {el : TypeId}, P.underlying st = some (.slice el) → (P.underlying xt = some .string ∨ ∃ e, P.underlying xt = some (.slice e)) → SemOk P κ o (appendP P el s x) := by
        intro el hst hxt
        unfold appendP
        split
        · rename_i i hi
          split
          · rename_i z hz
            exact of_h2 hex' fun a b => (appendS_spec h0 h1 hst hxt hi hz a b).kd (busy rfl)
          · trivial
        · trivial
      split
      · rename_i el k hst hxt
        split
        · rename_i i hi
          split
          · rename_i z hz
            exact of_h2 hex' fun a b => (appendMakeS_spec h0 h1 hst hxt hi hz a b).kd (busy rfl)
          · trivial
        · trivial
      · rename_i el hst hxt
        exact app hst (.inl hxt)
      · rename_i el e hst hxt
        exact app hst (.inr ⟨_, hxt⟩)
      · trivial
    · trivial
  · rename_i d x hx
    have hargs := two_of hx
    have hex' : ∀ ρ, execOp ρ o = vN (Builtin.copy_ cl.argTypes o.type #[ρ d, ρ x]) := fun ρ => by rw [hex, hargs, map2]; rfl
    split
    · rename_i el hu
      obtain ⟨t, h0, h1⟩ := bind_some' hu
      rw [gt] at h0
      split
      · rename_i n hn
        exact of_h2 hex' fun a b => (copyS_spec h0 h1 hn a b).kd (busy rfl)
      · trivial
    · trivial
  · rename_i m k hx
    have hargs := two_of hx
    have hex' : ∀ ρ, execOp ρ o = vN (Builtin.delete_ cl.argTypes o.type #[ρ m, ρ k]) := fun ρ => by rw [hex, hargs, map2]; rfl
    split
    · rename_i kt el hu
      obtain ⟨t, h0, h1⟩ := bind_some' hu
      rw [gt] at h0
      exact of_h2 hex' fun a b => (deleteS_spec h0 h1 a b).kd (busy rfl)
    · trivial
  · rename_i x hx
    have hargs := one_of hx
    have hex' : ∀ ρ, execOp ρ o = vN (Builtin.clear_ cl.argTypes o.type #[ρ x]) := fun ρ => by rw [hex, hargs, map1]; rfl
    split
    · rename_i el hu
      obtain ⟨t, h0, h1⟩ := bind_some' hu
      rw [gt] at h0
      split
      · rename_i z hz
        exact of_h1 hex' fun a => (clearSlS_spec h0 h1 hz a).kd (busy rfl)
      · trivial
    · rename_i hu
      obtain ⟨t, h0, h1⟩ := bind_some' hu
      rw [gt] at h0
      exact of_h1 hex' fun a => (clearMapS_spec h0 h1 a).kd (busy rfl)
    · trivial
  · refine of_hn (F := fun cl' => vN ((if false then Builtin.max_ else Builtin.min_) cl.argTypes o.type cl'.toArray)) (fun ρ => ?_) fun l => (minmaxS_spec false l _ _).kd hna
    rw [hex]
    have e : (cl.args.toList.map ρ).toArray = cl.args.map ρ := by apply Array.ext'; simp
    simp only [e]
    rfl
  · refine of_hn (F := fun cl' => vN ((if true then Builtin.max_ else Builtin.min_) cl.argTypes o.type cl'.toArray)) (fun ρ => ?_) fun l => (minmaxS_spec true l _ _).kd hna
    rw [hex]
    have e : (cl.args.toList.map ρ).toArray = cl.args.map ρ := by apply Array.ext'; simp
    simp only [e]
    rfl
  · trivial
end
end Go.Ai

namespace Go.Ai
open Go
set_option linter.unusedVariables false

section
variable {P : Program}
theorem zip_parts (l : List (Nat × Operand)) (ρ : Operand → Value) : (l.map (·.1)).zip ((l.map (·.2)).map ρ) = l.map fun (i, x) => (i, ρ x) := by
  induction l with
  | nil => rfl
  | cons a l ih => simp only [List.map_cons, List.zip_cons_cons, ih]
theorem parts_eq (parts : Array (Nat × Operand)) (ρ : Operand → Value) : ((parts.toList.map (·.1)).zip ((parts.toList.map (·.2)).map ρ)).toArray = parts.map fun (i, x) => (i, ρ x) := by
  rw [zip_parts]
  apply Array.ext'; simp
theorem mapE_comp {α β γ : Type} (f : α → γ) (g : γ → Option β) : ∀ (l : List α), mapE (fun x => g (f x)) l = mapE g (l.map f)
  | [] => rfl
  | x :: l => by simp only [mapE, List.map_cons, mapE_comp f g l]
theorem slice_ok {κ : Kd} {o : Oper} {ty : TypeId} {x : Operand} {lo hi : Option Operand} (ho : o.op = .slice ty x lo hi none) {g : List AV → H → KV → Res}
    (hg : ∀ l, OpSpecK P κ (g l) (CS ty lo.isSome hi.isSome l)) : SemOk P κ o (.hn (x :: lo.toList ++ hi.toList) g) := by
  intro l
  refine (hg l).mono ?_
  rintro φ σ ⟨ρ, h1, h2⟩
  refine ⟨ρ x, lo.map ρ, hi.map ρ, ?_, by simp, by simp, by rw [h2]; simp only [execOp, ho]; rfl⟩
  cases lo <;> cases hi <;> simpa using h1
theorem slice3_ok {κ : Kd} {o : Oper} {ty : TypeId} {x hi mx : Operand} {lo : Option Operand} (ho : o.op = .slice ty x lo (some hi) (some mx)) {g : List AV → H → KV → Res}
    (hg : ∀ l, OpSpecK P κ (g l) (CS3 ty lo.isSome l)) : SemOk P κ o (.hn (x :: lo.toList ++ [hi, mx]) g) := by
  intro l
  refine (hg l).mono ?_
  rintro φ σ ⟨ρ, h1, h2⟩
  refine ⟨ρ x, lo.map ρ, ρ hi, ρ mx, ?_, by simp, by rw [h2]; simp only [execOp, ho]; rfl⟩
  cases lo <;> simpa using h1
theorem FRel.refl_of {fn : Fn} (h : ∀ l, fn ≠ .yield l) (φ : Phi) : FRel φ fn fn := by
  cases fn with
  | func => exact .func
  | method => exact .method
  | methodOf => exact .methodOf
  | via => exact .via
  | yield l => exact absurd rfl (h l)

theorem cls_load {o : Oper} {ty : TypeId} {x : Operand} (ho : o.op = .load ty x) : clsOf P o ≠ .pure ∧ ∀ d, clsOf P o ≠ .alloc d := by
  simp only [clsOf, ho]
  cases x <;> simp
theorem cls_value {o : Oper} {cl : Call} {f : Operand} (ho : o.op = .call cl) (hc : cl.callee = .value f) : clsOf P o ≠ .pure ∧ ∀ d, clsOf P o ≠ .alloc d := by
  obtain ⟨callee, args, ats⟩ := cl
  simp only at hc
  subst hc
  simp only [clsOf, ho]
  simp
theorem cls_invoke {o : Oper} {cl : Call} {r : Operand} {n : String} (ho : o.op = .call cl) (hc : cl.callee = .invoke r n) : clsOf P o ≠ .pure ∧ ∀ d, clsOf P o ≠ .alloc d := by
  obtain ⟨callee, args, ats⟩ := cl
  simp only at hc
  subst hc
  simp only [clsOf, ho]
  simp
theorem semP_ok {κ : Kd} (o : Oper) (hκ : KindOk P o κ) : SemOk P κ o (semP P o) := by
  have pu : clsOf P o = .pure → κ ≠ .alloc := by
    rintro h rfl
    obtain ⟨d, hd⟩ := hκ
    rw [h] at hd; cases hd
  have al : clsOf P o = dstOr o → κ ≠ .pure := by
    rintro h rfl
    have hp : clsOf P o = .pure := hκ
    rw [hp] at h
    unfold dstOr at h
    split at h <;> cases h
  have an : (clsOf P o ≠ .pure ∧ ∀ d, clsOf P o ≠ .alloc d) → κ = .any := by
    rintro ⟨h1, h2⟩
    cases κ with
    | any => rfl
    | pure => exact absurd hκ h1
    | alloc => obtain ⟨d, hd⟩ := hκ; exact absurd hd (h2 d)
  cases ho : o.op
  case move x => simp only [semP, ho]; exact of_h1 (F := fun ca => pure (.value ca)) (fun ρ => by simp only [execOp, ho]) fun a => (moveS_spec P a).kd (pu (by simp only [clsOf, ho]))
  case assign x => simp only [semP, ho]; exact of_h1 (F := fun ca => pure (.value ca)) (fun ρ => by simp only [execOp, ho]) fun a => (moveS_spec P a).kd (pu (by simp only [clsOf, ho]))
  case pick b x y =>
    simp only [semP, ho]
    exact of_h3 (F := fun ca cb cc => do pure (.value (if ← asBool ca then cb else cc))) (fun ρ => by simp only [execOp, ho]) fun a b c => (pickS_spec P a b c).kd (pu (by simp only [clsOf, ho]))
  case alloc el =>
    simp only [semP, ho]
    split
    · rename_i z hz
      exact OpSpecA.kd (al (by simp only [clsOf, ho])) ((allocS_spec P el z hz).mono fun φ σ ⟨ρ, h⟩ => by rw [h]; simp only [execOp, ho]; rfl)
    · trivial
  case box el x => simp only [semP, ho]; exact of_h1 (F := fun ca => vN (Instr.box el ca)) (fun ρ => by simp only [execOp, ho]) fun a => (boxS_spec P el a).kd (al (by simp only [clsOf, ho]))
  case build ty parts =>
    simp only [semP, ho]
    split
    · rename_i z fs hz hu
      split
      · rename_i pl hpl
        split
        · rename_i ps hps
          rw [mapE_comp (fun p : Nat × Operand => p.1) (fun i => pl[i]?)] at hps
          intro l
          refine OpSpecP.kd (pu (by simp only [clsOf, ho])) ((buildStruct_spec hu hz hpl hps l).mono ?_)
          rintro φ σ ⟨ρ, h1, h2⟩
          exact ⟨_, h1, by rw [h2, parts_eq]; simp only [execOp, ho]⟩
        · trivial
      · trivial
    · rename_i z len el hz hu
      split
      · rename_i n hn
        intro l
        have := buildArr_spec (is := parts.toList.map (·.1)) hu hz hn l
        rw [List.map_map] at this
        refine OpSpecP.kd (pu (by simp only [clsOf, ho])) (this.mono ?_)
        rintro φ σ ⟨ρ, h1, h2⟩
        exact ⟨_, h1, by rw [h2, parts_eq]; simp only [execOp, ho]⟩
      · trivial
    · trivial
  case buildSlice ty len parts =>
    simp only [semP, ho]
    split
    · rename_i el hu
      split
      · rename_i n hn
        split
        · rename_i z hz
          split
          · rename_i hlen
            intro l
            have := buildSlice_spec (is := parts.toList.map (·.1)) hu hz hn hlen l
            rw [List.map_map] at this
            refine OpSpecA.kd (al (by simp only [clsOf, ho])) (this.mono ?_)
            rintro φ σ ⟨ρ, h1, h2⟩
            exact ⟨_, h1, by rw [h2, parts_eq]; simp only [execOp, ho]⟩
          · trivial
        · trivial
      · trivial
    · trivial
  case load ty a =>
    simp only [semP, ho]
    split
    · rename_i g n hg hn
      exact of_h1 (F := fun ca => vN (Instr.loadAt ty ca)) (fun ρ => by simp only [execOp, ho]) fun a => (loadS_spec P g n ty hg hn a).kd (an (cls_load ho))
    · trivial
  case store ty a x =>
    simp only [semP, ho]
    split
    · rename_i n hn
      exact of_h2 (F := fun ca cx => uN (Instr.storeAt ty ca cx)) (fun ρ => by simp only [execOp, ho]) fun a b => (storeS_spec P n ty hn a b).kd (an (by simp only [clsOf, ho]; simp))
    · trivial
  case nilCheck x => simp only [semP, ho]; exact of_h1 (F := nilCheckF) (fun ρ => by simp only [execOp, ho, nilCheckF]) fun a => (nilCheckS_spec a).kd (pu (by simp only [clsOf, ho]))
  case binOp op xt x y yt =>
    simp only [semP, ho]
    exact of_h2 (F := fun ca cb => vN (do eqGuard op xt x y ca cb; binOp op xt ca cb)) (fun ρ => by simp only [execOp, ho]) fun a b => (binS_spec op xt x y a b).kd (pu (by simp only [clsOf, ho]))
  case unOp op xt x => simp only [semP, ho]; exact of_h1 (F := fun ca => vN (Op.unary op ca)) (fun ρ => by simp only [execOp, ho]) fun a => (unS_spec op a).kd (pu (by simp only [clsOf, ho]))
  case convert src dst x =>
    simp only [semP, ho]
    have hF : ∀ ρ, execOp ρ o = vN (convert src dst (ρ x)) := fun ρ => by simp only [execOp, ho]
    split
    · rename_i k' k hs hd
      exact of_h1 hF fun a => (intConvS_spec hs hd a).kd (an (by simp only [clsOf, ho]; simp))
    · rename_i hs hd
      exact of_h1 hF fun a => (strConvS_spec hs hd a).kd (an (by simp only [clsOf, ho]; simp))
    · rename_i el hs hd
      split
      · rename_i he
        exact of_h1 hF fun a => (toBytesS_spec hs hd he a).kd (an (by simp only [clsOf, ho]; simp))
      · trivial
    · rename_i el hs hd
      split
      · rename_i he
        exact of_h1 hF fun a => (ofBytesS_spec hs he hd a).kd (an (by simp only [clsOf, ho]; simp))
      · trivial
    · rename_i el hs hd
      split
      · rename_i n hn
        exact of_h1 hF fun a => (toUnsafeS_spec hs hd hn a).kd (an (by simp only [clsOf, ho]; simp))
      · trivial
    · rename_i u hs hd
      split
      · rename_i n hn
        exact of_h1 hF fun a => (ofUnsafeS_spec hs hd hn a).kd (an (by simp only [clsOf, ho]; simp))
      · trivial
    · trivial
  case makeInterface ty x =>
    simp only [semP, ho]
    split
    · trivial
    · rename_i d hne hd
      exact of_h1 (F := fun ca => vN (Instr.makeInterface ty ca)) (fun ρ => by simp only [execOp, ho]) fun a => (makeInterface_spec hd (fun ms e => hne ms e) a).kd (pu (by simp only [clsOf, ho]))
    · trivial
  case makeFunc fn a b =>
    simp only [semP, ho]
    have go : (∀ l, fn ≠ .yield l) → SemOk P κ o (.hn (a.toList ++ b.toList) (makeFuncS fn a.size)) := fun hne l => by
      refine OpSpecP.kd (pu (by simp only [clsOf, ho])) ((makeFuncS_spec (P := P) fn a.size l (FRel.refl_of hne)).mono ?_)
      rintro φ σ ⟨ρ, h1, h2⟩
      refine ⟨_, h1, ?_⟩
      rw [h2]
      have e1 : (((a.toList ++ b.toList).map ρ).take a.size).toArray = a.map ρ := by apply Array.ext'; simp
      have e2 : (((a.toList ++ b.toList).map ρ).drop a.size).toArray = b.map ρ := by apply Array.ext'; simp
      show _ = vN (Instr.makeFunc fn _ _)
      rw [e1, e2]
      simp only [execOp, ho]
    cases fn
    case yield => trivial
    all_goals exact go (by simp)
  case makeMap ty r =>
    cases r with
    | none =>
      simp only [semP, ho]
      refine OpSpecA.kd (al (by simp only [clsOf, ho])) (OpSpecA.mono (C := fun φ σ => σ = vN (Instr.makeMap ty none)) (fun φ σ ⟨ρ, h⟩ => by rw [h]; simp only [execOp, ho]; rfl) fun h hwf => makeMap_spec (ty := ty) h hwf)
    | some r =>
      simp only [semP, ho]
      split
      · rename_i hu
        exact of_h1 (F := fun ca => vN (Instr.makeMap ty (some ca))) (fun ρ => by simp only [execOp, ho]; rfl) fun a => (makeMapS_spec hu a).kd (al (by simp only [clsOf, ho]))
      · trivial
  case makeSlice ty l cp =>
    simp only [semP, ho]
    split
    · rename_i el hu
      split
      · rename_i i hi
        split
        · rename_i z hz
          exact of_h2 (F := fun ca cb => vN (Instr.makeSlice ty ca cb)) (fun ρ => by simp only [execOp, ho]) fun a b => (makeSliceS_spec hu hi hz a b).kd (al (by simp only [clsOf, ho]))
        · trivial
      · trivial
    · trivial
  case slice ty x lo hi mx =>
    cases mx with
    | some m =>
      cases hi with
      | none =>
        simp only [semP, ho]
        split
        · rename_i hh; cases hh
        · trivial
      | some hi =>
        simp only [semP, ho]
        split
        · rename_i el hi' hu hh
          cases hh
          split
          · rename_i n hn
            exact slice3_ok ho fun l => (slice3S_spec hu hn _ l).kd (pu (by simp only [clsOf, ho]))
          · trivial
        · trivial
    | none =>
      simp only [semP, ho]
      split
      · rename_i hu
        exact slice_ok ho fun l => (sliceStrS_spec hu _ _ l).kd (pu (by simp only [clsOf, ho]))
      · rename_i el hu
        split
        · rename_i n hn
          exact slice_ok ho fun l => (sliceSlS_spec hu hn _ _ l).kd (pu (by simp only [clsOf, ho]))
        · trivial
      · rename_i cp el hu
        split
        · rename_i n hn
          exact slice_ok ho fun l => (sliceArrS_spec hu hn _ _ l).kd (pu (by simp only [clsOf, ho]))
        · trivial
      · trivial
  case fieldAddr ty x f =>
    simp only [semP, ho]
    split
    · rename_i fs hu
      split
      · rename_i fd hf
        split
        · rename_i n hn
          exact of_h1 (F := fun ca => vN (Instr.fieldAt ty ca f)) (fun ρ => by simp only [execOp, ho]) fun a => (fieldAddrS_spec hu hf hn a).kd (pu (by simp only [clsOf, ho]))
        · trivial
      · trivial
    · trivial
  case field ty x f =>
    simp only [semP, ho]
    split
    · rename_i fs hu
      split
      · rename_i fd hf
        split
        · rename_i g n hg hn
          exact of_h1 (F := fun ca => vN (Instr.field ty ca f)) (fun ρ => by simp only [execOp, ho]) fun a => (fieldS_spec hu hf hg hn a).kd (pu (by simp only [clsOf, ho]))
        · trivial
      · trivial
    · trivial
  case indexAddr ty x ix =>
    simp only [semP, ho]
    have hF : ∀ ρ, execOp ρ o = vN (Instr.indexAt ty (ρ x) (ρ ix)) := fun ρ => by simp only [execOp, ho]
    split
    · rename_i len el hu
      split
      · rename_i n hn
        exact of_h2 hF fun a b => (indexAddrArrS_spec hu hn a b).kd (pu (by simp only [clsOf, ho]))
      · trivial
    · rename_i el hu
      split
      · rename_i n hn
        exact of_h2 hF fun a b => (indexAddrSlS_spec hu hn a b).kd (pu (by simp only [clsOf, ho]))
      · trivial
    · trivial
  case index ty x ix =>
    simp only [semP, ho]
    have hF : ∀ ρ, execOp ρ o = vN (Instr.index ty (ρ x) (ρ ix)) := fun ρ => by simp only [execOp, ho]
    split
    · rename_i len el hu
      split
      · rename_i g n hg hn
        exact of_h2 hF fun a b => (indexArrS_spec hu hg hn a b).kd (pu (by simp only [clsOf, ho]))
      · trivial
    · rename_i hu
      exact of_h2 hF fun a b => (indexStrS_spec hu a b).kd (pu (by simp only [clsOf, ho]))
    · trivial
  case lookup ty m k ok =>
    simp only [semP, ho]
    split
    · rename_i kt el hu
      split
      · rename_i z hz
        exact of_h2 (F := fun ca cb => vN (Instr.lookup ty ca cb ok)) (fun ρ => by simp only [execOp, ho]) fun a b => (lookupS_spec (d := default) hu hz ok a b).kd (an (by simp only [clsOf, ho]; simp))
      · trivial
    · trivial
  case mapUpdate ty m k x =>
    simp only [semP, ho]
    split
    · rename_i kt el hu
      exact of_h3 (F := fun ca cb cc => uN (Instr.mapUpdate ty ca cb cc)) (fun ρ => by simp only [execOp, ho]) fun a b c => (updateS_spec hu a b c).kd (an (by simp only [clsOf, ho]; simp))
    · trivial
  case insert ty m k x =>
    simp only [semP, ho]
    split
    · rename_i kt el hu
      exact of_h3 (F := fun ca cb cc => uN (Instr.mapUpdate ty ca cb cc)) (fun ρ => by simp only [execOp, ho]) fun a b c => (updateS_spec hu a b c).kd (an (by simp only [clsOf, ho]; simp))
    · trivial
  case range ty x =>
    simp only [semP, ho]
    have hF : ∀ ρ, execOp ρ o = vN (Instr.range ty (ρ x)) := fun ρ => by simp only [execOp, ho]
    split
    · rename_i hu
      exact of_h1 hF fun a => (rangeStrS_spec hu a).kd (an (by simp only [clsOf, ho]; simp))
    · rename_i hu
      exact of_h1 hF fun a => (rangeMapS_spec hu a).kd (an (by simp only [clsOf, ho]; simp))
    · trivial
  case next it s =>
    cases s with
    | true => simp only [semP, ho]; exact of_h1 (F := fun ca => vN (Instr.next ca true o.type)) (fun ρ => by simp only [execOp, ho]) fun a => (nextStrS_spec a _).kd (an (by simp only [clsOf, ho]; simp))
    | false => simp only [semP, ho]; exact of_h1 (F := fun ca => vN (Instr.next ca false o.type)) (fun ρ => by simp only [execOp, ho]) fun a => (nextMapS_spec a _).kd (an (by simp only [clsOf, ho]; simp))
  case typeAssert x xt ty ok =>
    simp only [semP, ho]
    split
    · trivial
    · rename_i d hne hd
      split
      · rename_i z hz
        exact of_h1 (F := fun ca => vN (Instr.typeAssert ca xt ty ok)) (fun ρ => by simp only [execOp, ho]) fun a => (assertS_spec hd (fun ms e => hne ms e) hz ok a).kd (pu (by simp only [clsOf, ho]))
      · trivial
    · trivial
  case extract x i => simp only [semP, ho]; exact of_h1 (F := fun ca => vN (Instr.extract ca i)) (fun ρ => by simp only [execOp, ho]) fun a => (extractS_spec i a).kd (pu (by simp only [clsOf, ho]))
  case call cl =>
    simp only [semP, ho]
    split
    · rename_i b hc
      exact builtinP_ok ho hc hκ
    · rename_i f hc
      split
      · exact ⟨an (cls_value ho hc), cl, ho, hc, rfl⟩
      · exact ⟨an (cls_value ho hc), cl, ho, hc, rfl⟩
    · rename_i r name hc
      exact ⟨an (cls_invoke ho hc), cl, ho, hc, rfl⟩
  case defer cl =>
    simp only [semP, ho]
    split
    · rename_i f hc
      exact ⟨an (by simp only [clsOf, ho]; simp), cl, ho, hc, rfl⟩
    · rename_i r name hc
      exact ⟨an (by simp only [clsOf, ho]; simp), cl, ho, hc, rfl⟩
    · trivial
  all_goals
    simp only [semP, ho]
    trivial
end
end Go.Ai

namespace Go.Ai
open Go
set_option linter.unusedVariables false

section
variable (P : Program)
/-- a function that is entered and comes back -/
def Ret (kind : CallKind) (f : FuncId) (args : Array Value) (w : World) (cv : Value) (w' : World) : Prop :=
  ∀ (cs : List Frame), ∃ fr : Frame, Steps P (lone (Frame.enter P f args kind) cs w) (lone fr cs w') ∧
    fr.fn = f ∧ fr.mode = .returning ∧ fr.defers = [] ∧ fr.kind = kind ∧ ∃ fn, P.funcs[f]? = some fn ∧ (results fn fr.tmps).run P w' = .ok cv w'
inductive Does (kd : CallKind) (s : Sem Next) (w : World) : Value → World → Prop
  | value {cv w'} (h : s.run P w = .ok (.value cv) w') : Does kd s w cv w'
  | skip {w'} (h : s.run P w = .ok .skip w') : Does kd s w undef w'
  | enter {f args w1 cv w'} (h : s.run P w = .ok (.enter f args) w1) (hr : Ret P kd f args w1 cv w') : Does kd s w cv w'
  | round {l f tmps as bd w1 cv w'} (h : s.run P w = .ok (.round l f tmps as bd) w1)
      (hr : kd = .normal → ∀ c cs, Steps P (lone (Frame.round l f tmps as bd .normal) (c :: cs) w1) (lone (c.finish cv) cs w'))
      (hd : kd = .deferred → ∀ c cs, c.mode = .returning → Steps P (lone (Frame.round l f tmps as bd .deferred) (c :: cs) w1) (lone c cs w')) : Does kd s w cv w'
/-- the package variables lie where the program says -/
def GRel (φ : Phi) : Prop := ∀ g, g < P.globals.size → ∃ sz, φ g = some ⟨g, 0, sz⟩
def SimC (h h' : H) (v : AV) (C : Phi → Sem Next → Prop) : Prop :=
  AStep h h' ∧ ∀ kd, (kd = .normal ∨ kd = .deferred) → ∀ φ s w, C φ s → RelF φ h.get w → GRel P φ → Win φ h h' → ∃ cv w' φ', Does P kd s w cv w' ∧ VRel φ' v cv ∧ Step φ h w φ' h' w'
structure ESim (e : E) : Prop where
  call : ∀ f args h v h', h.WF → e.call f args h = .ret v h' → SimC P h h' v fun φ s => ∃ cl, VRels φ args cl ∧ s = callFunc f cl.toArray
  round : ∀ l args h v h', h.WF → e.round l args h = .ret v h' → SimC P h h' v fun φ s => ∃ cl L, φ l = some L ∧ VRels φ args cl ∧ s = Instr.yield L.blk cl.toArray
variable {P}
theorem GRel.mono {φ φ' : Phi} (h : φ.le φ') (g : GRel P φ) : GRel P φ' := fun x hx => let ⟨sz, e⟩ := g x hx; ⟨sz, h _ _ e⟩
theorem Ret.normal {f : FuncId} {args : Array Value} {w w' : World} {cv : Value} (h : Ret P .normal f args w cv w') (c : Frame) (cs : List Frame) :
    Steps P (lone (Frame.enter P f args .normal) (c :: cs) w) (lone (c.finish cv) cs w') := by
  obtain ⟨fr, h1, h2, h3, h4, h5, fn, h6, h7⟩ := h (c :: cs)
  refine h1.trans (.one (step_leave_returned ⟨h3, h4, h5, fn, ?_, h7⟩))
  rw [h2]; exact h6
theorem Ret.deferred {f : FuncId} {args : Array Value} {w w' : World} {cv : Value} (h : Ret P .deferred f args w cv w') (c : Frame) (cs : List Frame) (hc : c.mode = .returning) :
    Steps P (lone (Frame.enter P f args .deferred) (c :: cs) w) (lone c cs w') := by
  obtain ⟨fr, h1, h2, h3, h4, h5, fn, h6, h7⟩ := h (c :: cs)
  refine h1.trans (.one (step_lone_go ?_))
  simp [stepG, unwind, doReturn, h2, h3, h4, h5, h6, h7, hc]
theorem Does.congr {kd : CallKind} {s s' : Sem Next} {w w' : World} {cv : Value} (he : s.run P w = s'.run P w) (h : Does P kd s' w cv w') : Does P kd s w cv w' := by
  cases h with
  | value h => exact .value (he.trans h)
  | skip h => exact .skip (he.trans h)
  | enter h hr => exact .enter (he.trans h) hr
  | round h hr hd => exact .round (he.trans h) hr hd
theorem Does.of_yield {kd : CallKind} {s : Sem Next} {w w' : World} {cv : Value} (h : Yield (s.run P w) cv w') : Does P kd s w cv w' := by
  rcases h with h | ⟨h, rfl⟩
  · exact .value h
  · exact .skip h
theorem Does.step {b : Base} {a : Act} {k : List Item} {cs : List Frame} {w w' : World} {ops : Array Oper} {i : Nat} {rest : List Nat} {o : Oper} {cv : Value}
    (hs : Does P .normal (execOp a.eval o) w cv w') (ho : ops[i]? = some o) (hw : Region.wanted o (yielded ops a.tmps) = true) (hd : b.rnd = none ∨ ∀ c, o.op ≠ .defer c) :
    Steps P (lone (b.at a (.inRegion ops (i :: rest) :: k)) cs w) (lone (b.at (a.put o.dst cv) (.inRegion ops rest :: k)) cs w') := by
  have hfin : ∀ v, (b.at a (.inRegion ops (i :: rest) :: k)).finish v = b.at (a.put o.dst v) (.inRegion ops rest :: k) := fun v => by rw [Base.finish_at, ho]; rfl
  cases hs with
  | value h => exact .one (st_op_value ho hw hd h)
  | skip h => exact .one (st_op_skipped ho hw hd h)
  | enter h hr =>
    refine .head (st_op_enter ho hw hd h) ?_
    have := hr.normal (b.at a (.inRegion ops (i :: rest) :: k)) cs
    rwa [hfin] at this
  | round h hr =>
    refine .head (st_op_round ho hw hd h) ?_
    have := hr rfl (b.at a (.inRegion ops (i :: rest) :: k)) cs
    rwa [hfin] at this
theorem SimC.mono {h h' : H} {v : AV} {C C' : Phi → Sem Next → Prop} (hc : ∀ φ s, C' φ s → ∃ s', C φ s' ∧ ∀ w, s.run P w = s'.run P w) (hs : SimC P h h' v C) : SimC P h h' v C' := by
  refine ⟨hs.1, fun kd hkd φ s w hC r g win => ?_⟩
  obtain ⟨s', k1, k2⟩ := hc φ s hC
  obtain ⟨cv, w', φ', m1, m2, m3⟩ := hs.2 kd hkd φ s' w k1 r g win
  exact ⟨cv, w', φ', m1.congr (k2 w), m2, m3⟩

/-- the method of a dynamic type -/
theorem run_method {t : TypeId} {name : String} {f : FuncId} (h : methodA P t name = some f) (n : Nat) (v : Value) (w : World) : (method (n + 1) t v name).run P w = .ok (f, v) w := by
  unfold methodA at h
  split at h
  · rename_i i hi
    split at h
    · rename_i m hm
      split at h
      · rename_i f' pr h1 h2
        split at h
        · rename_i e hu
          cases h
          simp [method, run_info hi, hm, h1, follow, h2, receiverAt, run_und hu, Place.get]
        · cases h
        · rename_i d hne hu
          simp only [Option.some.injEq] at h
          subst h
          have : ∀ e, d ≠ .pointer e := fun e he => hne e he
          simp only [method, Sem.run_bind, run_info hi, Result.andThen_ok, hm, h1, follow, Sem.run_pure, h2, receiverAt, run_und hu]
          cases d <;> first | exact absurd rfl (this _) | simp [Place.get]
        · cases h
      · cases h
    · cases h
  · cases h
theorem callMeth_sim {e : E} (hE : ESim P e) {recv : AV} {name : String} {args : List AV} {h h' : H} {v : AV} (hwf : h.WF) (hr : callMeth P e recv name args h = .ret v h') :
    SimC P h h' v fun φ s => ∃ cr cl, VRel φ recv cr ∧ VRels φ args cl ∧ s = callMethod cr name cl.toArray := by
  unfold callMeth at hr
  split at hr
  · rename_i t x
    split at hr
    · rename_i f hf
      refine (hE.call f (x :: args) h v h' hwf hr).mono ?_
      rintro φ s ⟨cr, cl, h1, h2, rfl⟩
      cases h1 with
      | @iface _ _ cx h1 =>
        refine ⟨_, ⟨cx :: cl, .cons h1 h2, rfl⟩, fun w => ?_⟩
        have hd : P.types.size + Made.depth = (P.types.size + (Made.depth - 1)) + 1 := by
          have : Made.depth = (Made.depth - 1) + 1 := by decide
          omega
        have hm := run_method hf (P.types.size + (Made.depth - 1)) cx w
        rw [← hd] at hm
        simp only [callMethod, Sem.run_bind, run_program, Result.andThen_ok, hm]
        congr 2
        simp
    · cases hr
  · cases hr

/-- the call of a function value -/
def callV (cf : Value) (args : Array Value) : Sem Next := do
  let d ← Deferred.ofValue cf args
  invoke d.target d.args
theorem callVal_cases {e : E} (hE : ESim P e) (f : AV) (args : List AV) (h : H) (hwf : h.WF) : (∃ w, ∀ K, callVal P e f args h K = .fail w) ∨ ∃ c, (∀ K, callVal P e f args h K = K c) ∧
    ∀ v h', c = .ret v h' → SimC P h h' v fun φ s => ∃ cf cl, VRel φ f cf ∧ VRels φ args cl ∧ s = callV cf cl.toArray := by
  cases f
  case func fn first captured =>
    have hap : ∀ K, callVal P e (.func fn first captured) args h K = (match fn with
        | .func g => K (e.call g (first ++ args ++ captured) h)
        | .yield l => K (e.round l (first ++ args) h)
        | .method name => match first ++ args with
          | recv :: args => K (callMeth P e recv name args h)
          | [] => .fail "method value"
        | .methodOf t name => match first ++ args with
          | recv :: args => match P.underlying t with
            | some (.interface _) => K (callMeth P e recv name args h)
            | some _ => K (callMeth P e (.iface t recv) name args h)
            | none => .fail "methodOf"
          | [] => .fail "methodOf"
        | .via .. => .fail "via") := fun K => by
      simp only [callVal, appK_eq]
      cases fn <;> rfl
    cases fn
    case func g =>
      refine .inr ⟨_, fun K => by rw [hap], fun v h' hr => (hE.call g _ h v h' hwf hr).mono ?_⟩
      rintro φ s ⟨cf, cl, h1, h2, rfl⟩
      cases h1 with
      | @func _ _ _ a' _ c' hf ha hc =>
        cases hf
        refine ⟨_, ⟨a' ++ cl ++ c', (ha.append h2).append hc, rfl⟩, fun w => ?_⟩
        simp [callV, Deferred.ofValue, invoke]
    case yield l =>
      refine .inr ⟨_, fun K => by rw [hap], fun v h' hr => (hE.round l _ h v h' hwf hr).mono ?_⟩
      rintro φ s ⟨cf, cl, h1, h2, rfl⟩
      cases h1 with
      | @func _ _ _ a' _ c' hf ha hc =>
        cases hf with
        | @yield _ L hl =>
          refine ⟨_, ⟨a' ++ cl, L, hl, ha.append h2, rfl⟩, fun w => ?_⟩
          simp [callV, Deferred.ofValue, invoke]
    case method name =>
      cases hfa : first ++ args with
      | nil => exact .inl ⟨_, fun K => by rw [hap]; simp only [hfa]; rfl⟩
      | cons recv rest =>
        refine .inr ⟨callMeth P e recv name rest h, fun K => by rw [hap]; simp only [hfa], fun v h' hr => (callMeth_sim hE hwf hr).mono ?_⟩
        rintro φ s ⟨cf, cl, h1, h2, rfl⟩
        cases h1 with
        | @func _ _ _ a' _ c' hf ha hc =>
          cases hf
          have hall := ha.append h2
          rw [hfa] at hall
          generalize hg : a' ++ cl = al at hall
          cases hall with
          | @cons _ cr _ cl' hcr hcl =>
            refine ⟨_, ⟨cr, cl', hcr, hcl, rfl⟩, fun w => ?_⟩
            have e1 : (a'.toArray ++ cl.toArray) = (cr :: cl').toArray := by rw [← hg]; simp
            have e2 : ((cr :: cl').toArray.extract 1 (cr :: cl').toArray.size) = cl'.toArray := by apply Array.ext'; simp
            simp only [callV, Deferred.ofValue, Sem.run_bind, Sem.run_pure, Result.andThen_ok, e1, invoke, e2]
            simp
    case methodOf t name =>
      cases hfa : first ++ args with
      | nil => exact .inl ⟨_, fun K => by rw [hap]; simp only [hfa]; rfl⟩
      | cons recv rest =>
        cases hu : P.underlying t with
        | none => exact .inl ⟨_, fun K => by rw [hap]; simp only [hfa, hu]; rfl⟩
        | some d =>
          cases d
          case interface ms =>
            refine .inr ⟨callMeth P e recv name rest h, fun K => by rw [hap]; simp only [hfa, hu], fun v h' hr => (callMeth_sim hE hwf hr).mono ?_⟩
            rintro φ s ⟨cf, cl, h1, h2, rfl⟩
            cases h1 with
            | @func _ _ _ a' _ c' hf ha hc =>
              cases hf
              have hall := ha.append h2
              rw [hfa] at hall
              generalize hg : a' ++ cl = al at hall
              cases hall with
              | @cons _ cr _ cl' hcr hcl =>
                refine ⟨_, ⟨cr, cl', hcr, hcl, rfl⟩, fun w => ?_⟩
                have e1 : (a'.toArray ++ cl.toArray) = (cr :: cl').toArray := by rw [← hg]; simp
                have e2 : ((cr :: cl').toArray.extract 1 (cr :: cl').toArray.size) = cl'.toArray := by apply Array.ext'; simp
                have e3 : (cr :: cl').toArray[0]? = some cr := by simp
                simp only [callV, Deferred.ofValue, Sem.run_bind, Sem.run_pure, Result.andThen_ok, e1, invoke, e2, e3, run_und hu]
          all_goals
            refine .inr ⟨callMeth P e (.iface t recv) name rest h, fun K => by rw [hap]; simp only [hfa, hu], fun v h' hr => (callMeth_sim hE hwf hr).mono ?_⟩
            rintro φ s ⟨cf, cl, h1, h2, rfl⟩
            cases h1 with
            | @func _ _ _ a' _ c' hf ha hc =>
              cases hf
              have hall := ha.append h2
              rw [hfa] at hall
              generalize hg : a' ++ cl = al at hall
              cases hall with
              | @cons _ cr _ cl' hcr hcl =>
                refine ⟨_, ⟨.iface t cr, cl', .iface hcr, hcl, rfl⟩, fun w => ?_⟩
                have e1 : (a'.toArray ++ cl.toArray) = (cr :: cl').toArray := by rw [← hg]; simp
                have e2 : ((cr :: cl').toArray.extract 1 (cr :: cl').toArray.size) = cl'.toArray := by apply Array.ext'; simp
                have e3 : (cr :: cl').toArray[0]? = some cr := by simp
                simp only [callV, Deferred.ofValue, Sem.run_bind, Sem.run_pure, Result.andThen_ok, e1, invoke, e2, e3, run_und hu]
    case via => exact .inl ⟨_, fun K => by rw [hap]⟩
  all_goals exact .inl ⟨_, fun _ => rfl⟩
end
end Go.Ai

namespace Go.Ai
open Go
set_option linter.unusedVariables false

/-- the temporaries -/
structure LRel (φ : Phi) (y : Lay) (env : List AV) (r : R3) (tmps : Array Value) : Prop where
  size : tmps.size = y.n
  le : y.n ≤ 512
  val : ∀ t, VRel φ ((tmpC y t).get env r) (tmps.getD t undef)
theorem LRel.mono {φ φ' : Phi} {y : Lay} {env : List AV} {r : R3} {tmps : Array Value} (hφ : φ.le φ') (h : LRel φ y env r tmps) : LRel φ' y env r tmps :=
  ⟨h.size, h.le, fun t => (h.val t).mono hφ⟩
inductive DefRel (φ : Phi) : ADef → Deferred → Prop
  | col {b l} (h : φ b = some l) : DefRel φ (.col b) { target := .collected l.blk, args := #[] }
  | fn {fn fn' c c' a a'} (hf : FRel φ fn fn') (hc : VRels φ c c') (ha : VRels φ a a') : DefRel φ (.fn fn c a) { target := .fn fn' c'.toArray, args := a'.toArray }
theorem DefRel.mono {φ φ' : Phi} {a : ADef} {d : Deferred} (hφ : φ.le φ') (h : DefRel φ a d) : DefRel φ' a d := by
  cases h with
  | col h => exact .col (hφ _ _ h)
  | fn hf hc ha => exact .fn (hf.mono hφ) (hc.mono hφ) (ha.mono hφ)
inductive DefRels (φ : Phi) : List ADef → List Deferred → Prop
  | nil : DefRels φ [] []
  | cons {a d l m} (h : DefRel φ a d) (hl : DefRels φ l m) : DefRels φ (a :: l) (d :: m)
theorem DefRels.mono {φ φ' : Phi} {a : List ADef} {d : List Deferred} (hφ : φ.le φ') (h : DefRels φ a d) : DefRels φ' a d := by
  induction h with
  | nil => exact .nil
  | cons h _ ih => exact .cons (h.mono hφ) ih
/-- the deferred calls; or which round it is -/
def DRel (b : Base) (φ : Phi) : DS → List Deferred → Prop
  | .fn l, ds => b.rnd = none ∧ DefRels φ l ds
  | .rnd bb, ds => ∃ L, φ bb = some L ∧ b.rnd = some L.blk ∧ ds = []
theorem DRel.mono {b : Base} {φ φ' : Phi} {ds : DS} {d : List Deferred} (hφ : φ.le φ') (h : DRel b φ ds d) : DRel b φ' ds d := by
  cases ds with
  | fn l => exact ⟨h.1, h.2.mono hφ⟩
  | rnd bb => obtain ⟨L, h1, h2, h3⟩ := h; exact ⟨L, hφ _ _ h1, h2, h3⟩

section
variable {P : Program}
theorem opnd_rel {φ : Phi} {y : Lay} {env : List AV} {r : R3} {a : Act} (hl : LRel φ y env r a.tmps) (hg : GRel P φ) (x : Operand) : VRel φ ((opnd P y x).get env r) (a.eval x) := by
  cases x with
  | tmp t => exact hl.val t
  | const v =>
    simp only [opnd]
    cases hv : ofV v with
    | none => exact .any
    | some c => exact ofV_rel hv φ
  | global g =>
    simp only [opnd]
    cases hb : Nat.blt g P.globals.size with
    | false => exact .any
    | true =>
      obtain ⟨sz, hs⟩ := hg g (Nat.le_of_ble_eq_true hb)
      simpa [Act.eval] using VRel.ptr (o := 0) hs
  | func f => exact .func (a' := []) (c' := []) .func .nil .nil
theorem opnds_rel {φ : Phi} {y : Lay} {env : List AV} {r : R3} {a : Act} (hl : LRel φ y env r a.tmps) (hg : GRel P φ) (xs : List Operand) :
    VRels φ ((xs.map (opnd P y)).map fun o => o.get env r) (xs.map a.eval) := by
  rw [List.map_map]
  exact VRels.map_get xs fun x _ => opnd_rel hl hg x
theorem idxN_cons (x y : Nat) (l : List Nat) : idxN x (y :: l) = if x = y then some 0 else (idxN x l).map Nat.succ := by
  have : idxN x (y :: l) = cond (Nat.beq x y) (some 0) (match idxN x l with | some i => some (Nat.succ i) | none => none) := rfl
  rw [this]
  by_cases h : x = y
  · subst h; simp
  · have hb : Nat.beq x y = false := beq_ne h
    rw [hb, if_neg h]
    cases idxN x l <;> rfl
theorem blt_iff {a b : Nat} : Nat.blt a b = true ↔ a < b := ⟨Nat.le_of_ble_eq_true, Nat.ble_eq_true_of_le⟩
/-- a value put into its place -/
theorem dst_put (y : Lay) (dst : Option Tmp) (v : AV) (env : List AV) (r : R3) : (∃ w, ∀ K, (dstC y dst).put v env r K = .fail w) ∨ ∃ env' r', (∀ K, (dstC y dst).put v env r K = K env' r') ∧
    ∀ φ (a : Act) cv, LRel φ y env r a.tmps → VRel φ v cv → LRel φ (y.next dst) env' r' (a.put dst cv).tmps := by
  cases dst with
  | none => exact .inr ⟨env, r, fun _ => rfl, fun φ a cv hl _ => hl⟩
  | some d =>
    cases hd : Nat.blt d y.n with
    | false => exact .inl ⟨_, fun K => by simp only [dstC, hd]; rfl⟩
    | true =>
      have hdn := blt_iff.1 hd
      have getput : ∀ (tmps : Array Value) (cv : Value) (t : Nat), tmps.size = y.n → (tmps.setIfInBounds d cv).getD t undef = if t = d then cv else tmps.getD t undef := by
        intro tmps cv t hsz
        simp only [Array.getD_eq_getD_getElem?]
        by_cases e : t = d
        · subst e
          rw [if_pos rfl, Array.getElem?_setIfInBounds_self_of_lt (by omega)]; rfl
        · rw [if_neg e, Array.getElem?_setIfInBounds_ne (fun x => e x.symm)]
      cases hb : bit y.vm d with
      | true =>
        refine .inr ⟨env, regSet d v r, fun K => by simp only [dstC, hd, hb, regOf_set], fun φ a cv hl hv => ?_⟩
        have hy : y.next (some d) = y := by simp only [Lay.next, hb]
        rw [hy]
        have hle := hl.le
        refine ⟨by simp [Act.put, hl.size], hle, fun t => ?_⟩
        simp only [Act.put]
        rw [getput _ _ _ hl.size]
        by_cases e : t = d
        · subst e
          rw [if_pos rfl]
          simp only [tmpC, hd, hb, regOf_get_same]
          exact hv
        · rw [if_neg e]
          have h0 := hl.val t
          unfold tmpC at h0 ⊢
          cases ht : Nat.blt t y.n with
          | false => exact .any
          | true =>
            have htn := blt_iff.1 ht
            rw [ht] at h0
            cases hbt : bit y.vm t with
            | true =>
              rw [hbt] at h0
              simp only at h0 ⊢
              rw [regOf_get_other (by omega) (by omega) (fun x => e x.symm)]
              exact h0
            | false =>
              rw [hbt] at h0
              simp only at h0 ⊢
              cases hi : idxN t y.l with
              | none => exact .any
              | some i => rw [hi] at h0; exact h0
      | false =>
        refine .inr ⟨v :: env, r, fun K => by simp only [dstC, hd, hb], fun φ a cv hl hv => ?_⟩
        have hy : y.next (some d) = ⟨y.vm, y.n, d :: y.l⟩ := by simp only [Lay.next, hb]
        rw [hy]
        refine ⟨by simp [Act.put, hl.size], hl.le, fun t => ?_⟩
        simp only [Act.put]
        rw [getput _ _ _ hl.size]
        by_cases e : t = d
        · subst e
          rw [if_pos rfl]
          simp only [tmpC, hd, hb, idxN_cons, if_true]
          exact hv
        · rw [if_neg e]
          have h0 := hl.val t
          unfold tmpC at h0 ⊢
          simp only
          cases ht : Nat.blt t y.n with
          | false => exact .any
          | true =>
            rw [ht] at h0
            cases hbt : bit y.vm t with
            | true =>
              rw [hbt] at h0
              exact h0
            | false =>
              rw [hbt] at h0
              simp only [idxN_cons, if_neg e] at h0 ⊢
              cases hi : idxN t y.l with
              | none => exact .any
              | some i =>
                rw [hi] at h0
                simp only [Option.map_some] at h0 ⊢
                exact h0

/-- an operation's effect, on both sides -/
def OStep (P : Program) (o : Oper) (y : Lay) (env : List AV) (r : R3) (ds : DS) (h : H) (v : AV) (ds' : DS) (h' : H) : Prop :=
  AStep h h' ∧ ∀ (b : Base) φ (a : Act) w, LRel φ y env r a.tmps → DRel b φ ds a.defers → RelF φ h.get w → GRel P φ → Win φ h h' → ∃ cv w' φ' defers',
    (∀ (ops : Array Oper) i rest k cs, ops[i]? = some o → Region.wanted o (yielded ops a.tmps) = true →
      Steps P (lone (b.at a (.inRegion ops (i :: rest) :: k)) cs w) (lone (b.at ({ a with defers := defers' }.put o.dst cv) (.inRegion ops rest :: k)) cs w')) ∧
    VRel φ' v cv ∧ Step φ h w φ' h' w' ∧ DRel b φ' ds' defers'
theorem OStep.of_sim {o : Oper} {y : Lay} {env : List AV} {r : R3} {ds : DS} {h h' : H} {v : AV} {C : Phi → Sem Next → Prop} (hs : SimC P h h' v C) (hnd : ∀ c, o.op ≠ .defer c)
    (hC : ∀ φ (a : Act), LRel φ y env r a.tmps → GRel P φ → C φ (execOp a.eval o)) : OStep P o y env r ds h v ds h' := by
  refine ⟨hs.1, fun b φ a w hl hd hr hg win => ?_⟩
  obtain ⟨cv, w', φ', m1, m2, m3⟩ := hs.2 .normal (.inl rfl) φ _ w (hC φ a hl hg) hr hg win
  exact ⟨cv, w', φ', a.defers, fun ops i rest k cs ho hw => m1.step ho hw (.inr hnd), m2, m3, hd.mono m3.ext⟩
theorem SimC.of_spec {h h' : H} {v : AV} {C : Phi → Sem Next → Prop} (ha : AStep h h') (hs : ∀ φ s w, C φ s → RelF φ h.get w → Win φ h h' → ∃ cv w' φ', Yield (s.run P w) cv w' ∧ VRel φ' v cv ∧ Step φ h w φ' h' w') : SimC P h h' v C :=
  ⟨ha, fun kd _ φ s w hC r _ win => let ⟨cv, w', φ', h1, h2, h3⟩ := hs φ s w hC r win; ⟨cv, w', φ', .of_yield h1, h2, h3⟩⟩
theorem semP_defer {o : Oper} {cl : Call} (ho : o.op = .defer cl) : (∃ f xs, semP P o = .deferv f xs) ∨ (∃ r n xs, semP P o = .deferi r n xs) ∨ ∃ w, semP P o = .bad w := by
  simp only [semP, ho]
  split
  · exact .inl ⟨_, _, rfl⟩
  · exact .inr (.inl ⟨_, _, _, rfl⟩)
  · exact .inr (.inr ⟨_, rfl⟩)
theorem resolve_value {cl : Call} {f : Operand} (hc : cl.callee = .value f) (ρ : Operand → Value) (ty : TypeId) : resolve ρ cl ty = Deferred.ofValue (ρ f) (cl.args.map ρ) := by
  simp only [resolve, hc]
theorem resolve_invoke {cl : Call} {r : Operand} {n : String} (hc : cl.callee = .invoke r n) (ρ : Operand → Value) (ty : TypeId) :
    resolve ρ cl ty = pure { target := .fn (.method n) #[], args := #[ρ r] ++ cl.args.map ρ } := by
  simp only [resolve, hc]
theorem args_list {cl : Call} {xs : List Operand} (h : cl.args.toList = xs) (ρ : Operand → Value) : cl.args.map ρ = (xs.map ρ).toArray := by
  rw [← h]; apply Array.ext'; simp
theorem st_defer {b : Base} {a : Act} {k : List Item} {cs : List Frame} {w : World} {ops : Array Oper} {i : Nat} {rest : List Nat} {o : Oper} {cl : Call} {d : Deferred}
    (ho : ops[i]? = some o) (hw : Region.wanted o (yielded ops a.tmps) = true) (hd : b.rnd = none) (hop : o.op = .defer cl) (hr : (resolve a.eval cl o.type).run P w = .ok d w) :
    Steps P (lone (b.at a (.inRegion ops (i :: rest) :: k)) cs w) (lone (b.at ({ a with defers := d :: a.defers }.put o.dst undef) (.inRegion ops rest :: k)) cs w) :=
  .one (st_op_defer ho hw hd (by simp only [execOp, hop, Sem.run_bind, hr, Result.andThen_ok, Sem.run_pure]))
end
end Go.Ai

namespace Go.Ai
open Go
set_option linter.unusedVariables false

section
variable {P : Program}
theorem evs_map (env : List AV) (r : R3) (xs : List OC) (K : List AV → Res) : evs env r xs K = K (xs.map fun o => o.get env r) := evs_eq env r xs K
/-- what an operation's text says that its values do -/
theorem opC_step {e : E} (hE : ESim P e) (y : Lay) (o : Oper) (env : List AV) (r : R3) (ds : DS) (h : H) (hwf : h.WF) :
    (∃ w, ∀ rest, (opC P y o rest).run e env r ds h = .fail w) ∨ ∃ v ds' h', (∀ rest, (opC P y o rest).run e env r ds h = (dstC y o.dst).put v env r fun env r => rest.run e env r ds' h') ∧ OStep P o y env r ds h v ds' h' := by
  have hok := semP_ok (P := P) (κ := .any) o trivial
  have hnd : ∀ x, semP P o = x → (∀ f xs, x ≠ .deferv f xs) → (∀ f n xs, x ≠ .deferi f n xs) → (∀ w, x ≠ .bad w) → ∀ c, o.op ≠ .defer c := by
    intro x hx h1 h2 h3 c hc
    rcases semP_defer (P := P) hc with ⟨f, xs, he⟩ | ⟨r, n, xs, he⟩ | ⟨w, he⟩
    · exact h1 _ _ (hx ▸ he)
    · exact h2 _ _ _ (hx ▸ he)
    · exact h3 _ (hx ▸ he)
  -- an operation without calls
  have plain : ∀ (x : KV → Res) (C : Phi → Sem Next → Prop), SpecAt P C h x → (∀ c, o.op ≠ .defer c) → (∀ φ (a : Act), LRel φ y env r a.tmps → GRel P φ → C φ (execOp a.eval o)) →
      (∃ w, ∀ K, x K = .fail w) ∨ ∃ v h', (∀ K, x K = K v h') ∧ OStep P o y env r ds h v ds h' := by
    intro x C hs hn hC
    rcases hs with hf | ⟨v, h', h1, h2, h3⟩
    · exact .inl hf
    · exact .inr ⟨v, h', h1, OStep.of_sim (SimC.of_spec h2 h3) hn hC⟩
  have calls : ∀ (c : CRes) (C : Phi → Sem Next → Prop), (∀ v h', c = .ret v h' → SimC P h h' v C) → (∀ cc, o.op ≠ .defer cc) → (∀ φ (a : Act), LRel φ y env r a.tmps → GRel P φ → ∃ s', C φ s' ∧ ∀ w, (execOp a.eval o).run P w = s'.run P w) →
      (∃ w, ∀ rest, retC (dstC y o.dst) rest e env r ds c = .fail w) ∨ ∃ v ds' h', (∀ rest, retC (dstC y o.dst) rest e env r ds c = (dstC y o.dst).put v env r fun env r => rest.run e env r ds' h') ∧ OStep P o y env r ds h v ds' h' := by
    intro c C hs hn hC
    cases c with
    | fail w => exact .inl ⟨w, fun _ => rfl⟩
    | ret v h' =>
      refine .inr ⟨v, ds, h', fun _ => rfl, OStep.of_sim (C := fun φ s => ∃ s', C φ s' ∧ ∀ w, s.run P w = s'.run P w) ((hs v h' rfl).mono fun φ s hs' => hs') hn hC⟩
  cases hsem : semP P o with
  | bad w => exact .inl ⟨w, fun rest => by simp only [opC, hsem]; rfl⟩
  | h0 g =>
    rw [hsem] at hok
    have hn := hnd _ hsem (by simp) (by simp) (by simp)
    rcases plain (fun K => g h K) _ (hok h hwf) hn (fun φ a _ _ => ⟨a.eval, rfl⟩) with ⟨w, hw⟩ | ⟨v, h', h1, h2⟩
    · exact .inl ⟨w, fun rest => by simp only [opC, hsem]; exact hw _⟩
    · exact .inr ⟨v, ds, h', fun rest => by simp only [opC, hsem]; exact h1 _, h2⟩
  | h1 x g =>
    rw [hsem] at hok
    have hn := hnd _ hsem (by simp) (by simp) (by simp)
    rcases plain (fun K => g ((opnd P y x).get env r) h K) _ (hok _ h hwf) hn (fun φ a hl hg => ⟨a.eval, opnd_rel hl hg x, rfl⟩) with ⟨w, hw⟩ | ⟨v, h', h1, h2⟩
    · exact .inl ⟨w, fun rest => by simp only [opC, hsem]; exact hw _⟩
    · exact .inr ⟨v, ds, h', fun rest => by simp only [opC, hsem]; exact h1 _, h2⟩
  | h2 x z g =>
    rw [hsem] at hok
    have hn := hnd _ hsem (by simp) (by simp) (by simp)
    rcases plain (fun K => g ((opnd P y x).get env r) ((opnd P y z).get env r) h K) _ (hok _ _ h hwf) hn (fun φ a hl hg => ⟨a.eval, opnd_rel hl hg x, opnd_rel hl hg z, rfl⟩) with ⟨w, hw⟩ | ⟨v, h', h1, h2⟩
    · exact .inl ⟨w, fun rest => by simp only [opC, hsem]; exact hw _⟩
    · exact .inr ⟨v, ds, h', fun rest => by simp only [opC, hsem]; exact h1 _, h2⟩
  | h3 x z u g =>
    rw [hsem] at hok
    have hn := hnd _ hsem (by simp) (by simp) (by simp)
    rcases plain (fun K => g ((opnd P y x).get env r) ((opnd P y z).get env r) ((opnd P y u).get env r) h K) _ (hok _ _ _ h hwf) hn (fun φ a hl hg => ⟨a.eval, opnd_rel hl hg x, opnd_rel hl hg z, opnd_rel hl hg u, rfl⟩) with ⟨w, hw⟩ | ⟨v, h', h1, h2⟩
    · exact .inl ⟨w, fun rest => by simp only [opC, hsem]; exact hw _⟩
    · exact .inr ⟨v, ds, h', fun rest => by simp only [opC, hsem]; exact h1 _, h2⟩
  | hn xs g =>
    rw [hsem] at hok
    have hn := hnd _ hsem (by simp) (by simp) (by simp)
    rcases plain (fun K => g ((xs.map (opnd P y)).map fun o => o.get env r) h K) _ (hok _ h hwf) hn (fun φ a hl hg => ⟨a.eval, opnds_rel hl hg xs, rfl⟩) with ⟨w, hw⟩ | ⟨v, h', h1, h2⟩
    · exact .inl ⟨w, fun rest => by simp only [opC, hsem, evs_map]; exact hw _⟩
    · exact .inr ⟨v, ds, h', fun rest => by simp only [opC, hsem, evs_map]; exact h1 _, h2⟩
  | call f xs =>
    rw [hsem] at hok
    obtain ⟨_, cl, ho, hc, hx⟩ := hok
    have hn := hnd _ hsem (by simp) (by simp) (by simp)
    rcases calls (e.call f ((xs.map (opnd P y)).map fun o => o.get env r) h) _ (fun v h' he => hE.call f _ h v h' hwf he) hn (fun φ a hl hg => ⟨_, ⟨_, opnds_rel hl hg xs, rfl⟩, fun w => by
        simp only [execOp, ho, Sem.run_bind, resolve_value hc, args_list hx]
        simp [Act.eval, Deferred.ofValue, invoke]⟩) with ⟨w, hw⟩ | ⟨v, ds', h', h1, h2⟩
    · exact .inl ⟨w, fun rest => by simp only [opC, hsem, evs_map]; exact hw _⟩
    · exact .inr ⟨v, ds', h', fun rest => by simp only [opC, hsem, evs_map]; exact h1 _, h2⟩
  | callv f xs =>
    rw [hsem] at hok
    obtain ⟨_, cl, ho, hc, hx⟩ := hok
    have hn := hnd _ hsem (by simp) (by simp) (by simp)
    rcases callVal_cases hE ((opnd P y f).get env r) ((xs.map (opnd P y)).map fun o => o.get env r) h hwf with ⟨w, hw⟩ | ⟨c, k1, k2⟩
    · exact .inl ⟨w, fun rest => by simp only [opC, hsem, evs_map]; exact hw _⟩
    · rcases calls c _ k2 hn (fun φ a hl hg => ⟨_, ⟨_, _, opnd_rel hl hg f, opnds_rel hl hg xs, rfl⟩, fun w => by
          simp only [execOp, ho, Sem.run_bind, resolve_value hc, args_list hx, callV]⟩) with ⟨w, hw⟩ | ⟨v, ds', h', h1, h2⟩
      · exact .inl ⟨w, fun rest => by simp only [opC, hsem, evs_map, k1]; exact hw _⟩
      · exact .inr ⟨v, ds', h', fun rest => by simp only [opC, hsem, evs_map, k1]; exact h1 _, h2⟩
  | invoke x name xs =>
    rw [hsem] at hok
    obtain ⟨_, cl, ho, hc, hx⟩ := hok
    have hn := hnd _ hsem (by simp) (by simp) (by simp)
    rcases calls (callMeth P e ((opnd P y x).get env r) name ((xs.map (opnd P y)).map fun o => o.get env r) h) _ (fun v h' he => callMeth_sim hE hwf he) hn (fun φ a hl hg => ⟨_, ⟨_, _, opnd_rel hl hg x, opnds_rel hl hg xs, rfl⟩, fun w => by
        simp only [execOp, ho, Sem.run_bind, resolve_invoke hc, args_list hx, Sem.run_pure, Result.andThen_ok, invoke]
        have e0 : (#[a.eval x] ++ (xs.map a.eval).toArray)[0]? = some (a.eval x) := by simp
        have e1 : (#[a.eval x] ++ (xs.map a.eval).toArray).extract 1 (#[a.eval x] ++ (xs.map a.eval).toArray).size = (xs.map a.eval).toArray := by
          apply Array.ext'
          simp
          exact List.take_of_length_le (by simp)
        rw [e1]
        simp [e0]⟩) with ⟨w, hw⟩ | ⟨v, ds', h', h1, h2⟩
    · exact .inl ⟨w, fun rest => by simp only [opC, hsem, evs_map]; exact hw _⟩
    · exact .inr ⟨v, ds', h', fun rest => by simp only [opC, hsem, evs_map]; exact h1 _, h2⟩
  | deferv f xs =>
    rw [hsem] at hok
    obtain ⟨_, cl, ho, hc, hx⟩ := hok
    cases hf : (opnd P y f).get env r
    case func fn first captured =>
      cases ds with
      | rnd b => exact .inl ⟨_, fun rest => by simp only [opC, hsem, evs_map, hf]; rfl⟩
      | fn l =>
        refine .inr ⟨undefA, .fn (.fn fn captured (first ++ (xs.map (opnd P y)).map fun o => o.get env r) :: l), h, fun rest => by simp only [opC, hsem, evs_map, hf, appK_eq], AStep.refl h, ?_⟩
        intro b φ a w hl hd hr hg win
        have hv := opnd_rel (P := P) hl hg f
        rw [hf] at hv
        generalize hvv : a.eval f = vf at hv
        cases hv with
        | @func _ fn' _ a' _ c' hfn ha hcap =>
          refine ⟨undef, w, φ, { target := .fn fn' c'.toArray, args := (a' ++ xs.map a.eval).toArray } :: a.defers, fun ops i rest k cs hop hw => st_defer hop hw hd.1 ho ?_, .undef, Step.refl hr,
            hd.1, .cons (.fn hfn hcap (ha.append (opnds_rel hl hg xs))) hd.2⟩
          rw [resolve_value hc, args_list hx, hvv]
          simp [Deferred.ofValue]
    all_goals exact .inl ⟨_, fun rest => by simp only [opC, hsem, evs_map, hf]; rfl⟩
  | deferi x name xs =>
    rw [hsem] at hok
    obtain ⟨_, cl, ho, hc, hx⟩ := hok
    cases ds with
    | rnd b => exact .inl ⟨_, fun rest => by simp only [opC, hsem, evs_map]; rfl⟩
    | fn l =>
      refine .inr ⟨undefA, .fn (.fn (.method name) [] ((opnd P y x).get env r :: (xs.map (opnd P y)).map fun o => o.get env r) :: l), h, fun rest => by simp only [opC, hsem, evs_map, List.map_cons], AStep.refl h, ?_⟩
      intro b φ a w hl hd hr hg win
      refine ⟨undef, w, φ, { target := .fn (.method name) #[], args := (a.eval x :: xs.map a.eval).toArray } :: a.defers, fun ops i rest k cs hop hw => st_defer hop hw hd.1 ho ?_, .undef, Step.refl hr,
        hd.1, .cons (.fn .method .nil (.cons (opnd_rel hl hg x) (opnds_rel hl hg xs))) hd.2⟩
      rw [resolve_invoke hc, args_list hx]
      simp
end
end Go.Ai

namespace Go.Ai
open Go
set_option linter.unusedVariables false

inductive AOut | norm | exit (id : Nat) | ret

section
variable (P : Program)
/-- where the code behind 'pre' comes to -/
def Reach (b : Base) (a : Act) (w : World) (pre : List Item) : AOut → Act → World → Prop
  | .norm, a', w' => ∀ k cs, Steps P (lone (b.at a (pre ++ k)) cs w) (lone (b.at a' k) cs w')
  | .exit id, a', w' => ∀ k cs, ∃ k1, exitTo id k1 = exitTo id k ∧ Steps P (lone (b.at a (pre ++ k)) cs w) (lone (b.at a' (.code (.exit id) :: k1)) cs w')
  | .ret, a', w' => ∀ k cs, ∃ k1, Steps P (lone (b.at a (pre ++ k)) cs w) (lone (b.at a' (.code .ret :: k1)) cs w')
def OkOut (y y' : Lay) (env : List AV) (r : R3) (ds : DS) (h : H) (pre : List Item) (x : AOut) (env' : List AV) (r' : R3) (ds' : DS) (h' : H) : Prop :=
  AStep h h' ∧ ∀ (b : Base) φ (a : Act) w, LRel φ y env r a.tmps → DRel b φ ds a.defers → RelF φ h.get w → GRel P φ → Win φ h h' →
    ∃ a' w' φ', Reach P b a w pre x a' w' ∧ LRel φ' y' env' r' a'.tmps ∧ DRel b φ' ds' a'.defers ∧ Step φ h w φ' h' w'
/-- what a run's outcome says -/
def ResOk (y y' : Lay) (env : List AV) (r : R3) (ds : DS) (h : H) (pre : List Item) : Res → Prop
  | .fail _ => True
  | .norm r' ds' h' => OkOut P y y' env r ds h pre .norm [] r' ds' h'
  | .exit id r' ds' h' => OkOut P y y' env r ds h pre (.exit id) [] r' ds' h'
  | .ret r' ds' h' => OkOut P y y' env r ds h pre .ret [] r' ds' h'
variable {P}
theorem Win.left {φ : Phi} {h h1 h2 : H} (a : AStep h1 h2) (win : Win φ h h2) : Win φ h h1 := fun b h1' h2' => win b h1' (Nat.lt_of_lt_of_le h2' a.next)
theorem Win.right {φ φ1 : Phi} {h h1 h2 : H} {w w1 : World} (a1 : AStep h h1) (a : AStep h1 h2) (win : Win φ h h2) (s : Step φ h w φ1 h1 w1) : Win φ1 h1 h2 := fun b hb1 hb2 => by
  cases hx : φ1 b with
  | none => rfl
  | some l =>
    rcases s.dom b l hx with h3 | ⟨_, _, h3⟩
    · have := win b (Nat.le_trans a1.next hb1) hb2
      rw [this] at h3; cases h3
    · omega
theorem Reach.seq {b : Base} {a a1 a2 : Act} {w w1 w2 : World} {pre1 pre2 : List Item} {x : AOut} (h1 : Reach P b a w pre1 .norm a1 w1) (h2 : Reach P b a1 w1 pre2 x a2 w2) :
    Reach P b a w (pre1 ++ pre2) x a2 w2 := by
  cases x with
  | norm => intro k cs; rw [List.append_assoc]; exact (h1 (pre2 ++ k) cs).trans (h2 k cs)
  | exit id => intro k cs; rw [List.append_assoc]; obtain ⟨k1, e, s⟩ := h2 k cs; exact ⟨k1, e, (h1 (pre2 ++ k) cs).trans s⟩
  | ret => intro k cs; rw [List.append_assoc]; obtain ⟨k1, s⟩ := h2 k cs; exact ⟨k1, (h1 (pre2 ++ k) cs).trans s⟩
theorem Reach.head {b : Base} {a a1 a2 : Act} {w w1 w2 : World} {pre pre' : List Item} {x : AOut} (h1 : ∀ k cs, Steps P (lone (b.at a (pre ++ k)) cs w) (lone (b.at a1 (pre' ++ k)) cs w1)) (h2 : Reach P b a1 w1 pre' x a2 w2) :
    Reach P b a w pre x a2 w2 := by
  cases x with
  | norm => intro k cs; exact (h1 k cs).trans (h2 k cs)
  | exit id => intro k cs; obtain ⟨k1, e, s⟩ := h2 k cs; exact ⟨k1, e, (h1 k cs).trans s⟩
  | ret => intro k cs; obtain ⟨k1, s⟩ := h2 k cs; exact ⟨k1, (h1 k cs).trans s⟩
/-- an outcome other than the normal one leaves what waits behind -/
theorem Reach.skip {b : Base} {a a2 : Act} {w w2 : World} {pre pre2 : List Item} {x : AOut} (hx : x ≠ .norm) (he : ∀ id k, x = .exit id → exitTo id (pre2 ++ k) = exitTo id k) (h2 : Reach P b a w pre x a2 w2) :
    Reach P b a w (pre ++ pre2) x a2 w2 := by
  cases x with
  | norm => exact absurd rfl hx
  | exit id => intro k cs; rw [List.append_assoc]; obtain ⟨k1, e, s⟩ := h2 (pre2 ++ k) cs; exact ⟨k1, e.trans (he id k rfl), s⟩
  | ret => intro k cs; rw [List.append_assoc]; exact h2 (pre2 ++ k) cs
theorem OkOut.seq {y y1 y2 : Lay} {env env1 env2 : List AV} {r r1 r2 : R3} {ds ds1 ds2 : DS} {h h1 h2 : H} {pre1 pre2 : List Item} {x : AOut} (hwf : h.WF)
    (o1 : OkOut P y y1 env r ds h pre1 .norm env1 r1 ds1 h1) (o2 : OkOut P y1 y2 env1 r1 ds1 h1 pre2 x env2 r2 ds2 h2) : OkOut P y y2 env r ds h (pre1 ++ pre2) x env2 r2 ds2 h2 := by
  refine ⟨o1.1.trans o2.1, fun b φ a w hl hd hr hg win => ?_⟩
  obtain ⟨a1, w1, φ1, s1, l1, d1, st1⟩ := o1.2 b φ a w hl hd hr hg (Win.left o2.1 win)
  obtain ⟨a2, w2, φ2, s2, l2, d2, st2⟩ := o2.2 b φ1 a1 w1 l1 d1 st1.rel (hg.mono st1.ext) (Win.right o1.1 o2.1 win st1)
  exact ⟨a2, w2, φ2, s1.seq s2, l2, d2, Step.trans hwf o1.1 o2.1 win st1 st2⟩
theorem OkOut.head {y y2 : Lay} {env env2 : List AV} {r r2 : R3} {ds ds2 : DS} {h h2 : H} {pre pre' : List Item} {x : AOut}
    (h1 : ∀ (b : Base) a w k cs, Steps P (lone (b.at a (pre ++ k)) cs w) (lone (b.at a (pre' ++ k)) cs w)) (o : OkOut P y y2 env r ds h pre' x env2 r2 ds2 h2) : OkOut P y y2 env r ds h pre x env2 r2 ds2 h2 := by
  refine ⟨o.1, fun b φ a w hl hd hr hg win => ?_⟩
  obtain ⟨a2, w2, φ2, s2, rest⟩ := o.2 b φ a w hl hd hr hg win
  exact ⟨a2, w2, φ2, s2.head (h1 b a w), rest⟩
theorem OkOut.skip {y y2 : Lay} {env env2 : List AV} {r r2 : R3} {ds ds2 : DS} {h h2 : H} {pre pre2 : List Item} {x : AOut} (hx : x ≠ .norm) (he : ∀ id k, x = .exit id → exitTo id (pre2 ++ k) = exitTo id k)
    (o : OkOut P y y2 env r ds h pre x env2 r2 ds2 h2) : OkOut P y y2 env r ds h (pre ++ pre2) x env2 r2 ds2 h2 := by
  refine ⟨o.1, fun b φ a w hl hd hr hg win => ?_⟩
  obtain ⟨a2, w2, φ2, s2, rest⟩ := o.2 b φ a w hl hd hr hg win
  exact ⟨a2, w2, φ2, s2.skip hx he, rest⟩
theorem OkOut.refl {y : Lay} {env : List AV} {r : R3} {ds : DS} {h : H} {pre : List Item} (h1 : ∀ (b : Base) a w k cs, Steps P (lone (b.at a (pre ++ k)) cs w) (lone (b.at a k) cs w)) : OkOut P y y env r ds h pre .norm env r ds h :=
  ⟨AStep.refl h, fun b φ a w hl hd hr _ _ => ⟨a, w, φ, h1 b a w, hl, hd, Step.refl hr⟩⟩
/-- the code that follows -/
theorem ResOk.then {y : Lay} {r : R3} {ds : DS} {h : H} {pre1 pre2 : List Item} {R : Res} {k : R3 → DS → H → Res} (hwf : h.WF)
    (he : ∀ id k, exitTo id (pre2 ++ k) = exitTo id k) (h1 : ResOk P y y [] r ds h pre1 R)
    (h2 : ∀ r1 ds1 h1, h1.WF → R = .norm r1 ds1 h1 → ResOk P y y [] r1 ds1 h1 pre2 (k r1 ds1 h1)) : ResOk P y y [] r ds h (pre1 ++ pre2) (R.then k) := by
  cases R with
  | fail w => trivial
  | norm r1 ds1 h1' =>
    have o1 : OkOut P y y [] r ds h pre1 .norm [] r1 ds1 h1' := h1
    have h3 := h2 r1 ds1 h1' (o1.1.wf hwf) rfl
    show ResOk P y y [] r ds h (pre1 ++ pre2) (k r1 ds1 h1')
    cases hk : k r1 ds1 h1' with
    | fail w => trivial
    | norm r2 ds2 h2' => rw [hk] at h3; exact OkOut.seq hwf o1 h3
    | exit id r2 ds2 h2' => rw [hk] at h3; exact OkOut.seq hwf o1 h3
    | ret r2 ds2 h2' => rw [hk] at h3; exact OkOut.seq hwf o1 h3
  | exit id r1 ds1 h1' => exact OkOut.skip (by simp) (fun i k _ => he i k) h1
  | ret r1 ds1 h1' => exact OkOut.skip (by simp) (fun i k _ => he i k) h1
theorem ResOk.head {y y2 : Lay} {env : List AV} {r : R3} {ds : DS} {h : H} {pre pre' : List Item} {R : Res}
    (h1 : ∀ (b : Base) a w k cs, Steps P (lone (b.at a (pre ++ k)) cs w) (lone (b.at a (pre' ++ k)) cs w)) (o : ResOk P y y2 env r ds h pre' R) : ResOk P y y2 env r ds h pre R := by
  cases R with
  | fail w => trivial
  | norm => exact OkOut.head h1 o
  | exit => exact OkOut.head h1 o
  | ret => exact OkOut.head h1 o

/-- a command does what the code does -/
def CmdOk (P : Program) (vm n : Nat) (c : Code) (cmd : Cmd) : Prop :=
  ∀ e, ESim P e → ∀ r ds h, h.WF → ResOk P ⟨vm, n, []⟩ ⟨vm, n, []⟩ [] r ds h [.code c] (cmd.run e r ds h)
theorem exitTo_code (id : Nat) (c : Code) (k : List Item) : exitTo id (.code c :: k) = exitTo id k := rfl

section
variable {vm n : Nat}
theorem cmd_skip : CmdOk P vm n .skip (comp P vm n .skip) := fun e hE r ds h hwf => OkOut.refl fun b a w k cs => .one st_skip
theorem cmd_label {l : Nat} : CmdOk P vm n (.label l) (comp P vm n (.label l)) := fun e hE r ds h hwf => OkOut.refl fun b a w k cs => .one st_label
theorem cmd_exit {id : Nat} : CmdOk P vm n (.exit id) (comp P vm n (.exit id)) := fun e hE r ds h hwf =>
  ⟨AStep.refl h, fun b φ a w hl hd hr _ _ => ⟨a, w, φ, fun k cs => ⟨k, rfl, Steps.refl P _⟩, hl, hd, Step.refl hr⟩⟩
theorem cmd_ret : CmdOk P vm n .ret (comp P vm n .ret) := fun e hE r ds h hwf =>
  ⟨AStep.refl h, fun b φ a w hl hd hr _ _ => ⟨a, w, φ, fun k cs => ⟨k, Steps.refl P _⟩, hl, hd, Step.refl hr⟩⟩
theorem cmd_seq {a b : Code} (ha : CmdOk P vm n a (comp P vm n a)) (hb : CmdOk P vm n b (comp P vm n b)) : CmdOk P vm n (.seq a b) (comp P vm n (.seq a b)) := fun e hE r ds h hwf => by
  refine ResOk.head (pre' := [.code a] ++ [.code b]) (fun b' a' w k cs => .one st_seq) ?_
  exact ResOk.then hwf (fun id k => rfl) (ha e hE r ds h hwf) fun r1 ds1 h1 hwf1 _ => hb e hE r1 ds1 h1 hwf1
theorem cmd_scope {a : Code} (ha : CmdOk P vm n a (comp P vm n a)) : CmdOk P vm n (.scope a) (comp P vm n (.scope a)) := fun e hE r ds h hwf => by
  refine ResOk.head (pre' := [.code a] ++ [.inScope a]) (fun b' a' w k cs => .one st_scope) ?_
  have := ResOk.then (k := fun r ds h => .norm r ds h) (pre2 := [.inScope a]) hwf (fun id k => rfl) (ha e hE r ds h hwf) fun r1 ds1 h1 hwf1 _ => OkOut.refl fun b a w k cs => .one st_inScope
  have e : ((comp P vm n a).run e r ds h).then (fun r ds h => .norm r ds h) = (comp P vm n a).run e r ds h := by
    cases (comp P vm n a).run e r ds h <;> rfl
  rw [e] at this
  exact this
theorem cmd_cond {x : Operand} {a b : Code} (ha : CmdOk P vm n a (comp P vm n a)) (hb : CmdOk P vm n b (comp P vm n b)) : CmdOk P vm n (.cond x a b) (comp P vm n (.cond x a b)) := fun e hE r ds h hwf => by
  show ResOk P ⟨vm, n, []⟩ ⟨vm, n, []⟩ [] r ds h [.code (.cond x a b)] (condA ((opnd P ⟨vm, n, []⟩ x).get [] r) (comp P vm n a) (comp P vm n b) e r ds h)
  have go : ∀ (t : Bool) (R : Res), (opnd P ⟨vm, n, []⟩ x).get [] r = .bool t → ResOk P ⟨vm, n, []⟩ ⟨vm, n, []⟩ [] r ds h [.code (if t then a else b)] R → ResOk P ⟨vm, n, []⟩ ⟨vm, n, []⟩ [] r ds h [.code (.cond x a b)] R := by
    intro t R hv hR
    have key : ∀ {o : AOut} {r' : R3} {ds' : DS} {h' : H}, OkOut P ⟨vm, n, []⟩ ⟨vm, n, []⟩ [] r ds h [.code (if t then a else b)] o [] r' ds' h' → OkOut P ⟨vm, n, []⟩ ⟨vm, n, []⟩ [] r ds h [.code (.cond x a b)] o [] r' ds' h' := by
      intro o r' ds' h' ho
      refine ⟨ho.1, fun b' φ a' w hl hd hr hg win => ?_⟩
      obtain ⟨a2, w2, φ2, s2, rest⟩ := ho.2 b' φ a' w hl hd hr hg win
      refine ⟨a2, w2, φ2, s2.head (fun k cs => .one (st_cond ?_)), rest⟩
      have := opnd_rel (P := P) hl hg x
      rw [hv] at this
      generalize a'.eval x = v at this ⊢
      cases this; rfl
    cases R with
    | fail w => trivial
    | norm => exact key hR
    | exit => exact key hR
    | ret => exact key hR
  unfold condA
  split
  · rename_i hv
    exact go true _ hv (ha e hE r ds h hwf)
  · rename_i hv
    exact go false _ hv (hb e hE r ds h hwf)
  · trivial
theorem exitTo_inBlock (i id : Nat) (k : List Item) (h : i ≠ id) : exitTo i (.inBlock id :: k) = exitTo i k := by
  have : ¬ (id == i) = true := by simpa using fun e : id = i => h e.symm
  simp only [exitTo]
  rw [if_neg this]
theorem cmd_block {id : Nat} {a : Code} (ha : CmdOk P vm n a (comp P vm n a)) : CmdOk P vm n (.block id a) (comp P vm n (.block id a)) := fun e hE r ds h hwf => by
  show ResOk P ⟨vm, n, []⟩ ⟨vm, n, []⟩ [] r ds h [.code (.block id a)] (blockA id ((comp P vm n a).run e r ds h))
  refine ResOk.head (pre' := [.code a] ++ [.inBlock id]) (fun b' a' w k cs => .one st_block) ?_
  have h1 := ha e hE r ds h hwf
  cases hR : (comp P vm n a).run e r ds h with
  | fail w => trivial
  | norm r1 ds1 h1' =>
    rw [hR] at h1
    exact OkOut.seq hwf h1 (OkOut.refl fun b a w k cs => .one st_inBlock)
  | ret r1 ds1 h1' =>
    rw [hR] at h1
    exact OkOut.skip (x := .ret) (by simp) (fun i k hi => by cases hi) h1
  | exit i r1 ds1 h1' =>
    rw [hR] at h1
    have h1 : OkOut P ⟨vm, n, []⟩ ⟨vm, n, []⟩ [] r ds h [.code a] (.exit i) [] r1 ds1 h1' := h1
    simp only [blockA]
    cases hb : Nat.beq i id with
    | false =>
      have hne : i ≠ id := fun e => by subst e; simp at hb
      exact OkOut.skip (x := .exit i) (by simp) (fun i' k hi => by cases hi; exact exitTo_inBlock i id k hne) h1
    | true =>
      have := Nat.eq_of_beq_eq_true hb
      subst this
      refine ⟨h1.1, fun b φ a' w hl hd hr hg win => ?_⟩
      obtain ⟨a2, w2, φ2, s2, rest⟩ := h1.2 b φ a' w hl hd hr hg win
      refine ⟨a2, w2, φ2, fun k cs => ?_, rest⟩
      obtain ⟨k1, e1, s⟩ := s2 (.inBlock i :: k) cs
      have e2 : exitTo i k1 = some k := by rw [e1]; simp [exitTo]
      exact Steps.trans s (.one (st_exit e2))
theorem loopA_ok {a : Code} (ha : CmdOk P vm n a (comp P vm n a)) (e : E) (hE : ESim P e) : ∀ (m : Nat) (r : R3) (ds : DS) (h : H), h.WF →
    ResOk P ⟨vm, n, []⟩ ⟨vm, n, []⟩ [] r ds h [.code a, .inLoop a] (loopA m (fun r ds h => (comp P vm n a).run e r ds h) r ds h) := by
  intro m
  induction m with
  | zero => intro r ds h _; trivial
  | succ m ih =>
    intro r ds h hwf
    have hd : loopA (m + 1) (fun r ds h => (comp P vm n a).run e r ds h) r ds h = ((comp P vm n a).run e r ds h).then (loopA m (fun r ds h => (comp P vm n a).run e r ds h)) := rfl
    rw [hd]
    refine ResOk.then (pre1 := [.code a]) (pre2 := [.inLoop a]) hwf (fun id k => rfl) (ha e hE r ds h hwf) fun r1 ds1 h1 hwf1 _ => ?_
    exact ResOk.head (pre' := [.code a, .inLoop a]) (fun b' a' w k cs => .one st_inLoop) (ih r1 ds1 h1 hwf1)
theorem cmd_loop {a : Code} (ha : CmdOk P vm n a (comp P vm n a)) : CmdOk P vm n (.loop a) (comp P vm n (.loop a)) := fun e hE r ds h hwf =>
  ResOk.head (pre' := [.code a, .inLoop a]) (fun b' a' w k cs => .one st_loop) (show ResOk P ⟨vm, n, []⟩ ⟨vm, n, []⟩ [] r ds h [.code a, .inLoop a] (loopA loopFuel (fun r ds h => (comp P vm n a).run e r ds h) r ds h) from loopA_ok ha e hE _ r ds h hwf)
end
end
end Go.Ai

namespace Go.Ai
open Go
set_option linter.unusedVariables false

section
variable {P : Program}
theorem LRel.drop {φ : Phi} {y : Lay} {env : List AV} {r : R3} {tmps : Array Value} (h : LRel φ y env r tmps) : LRel φ ⟨y.vm, y.n, []⟩ [] r tmps := by
  refine ⟨h.size, h.le, fun t => ?_⟩
  have h0 := h.val t
  unfold tmpC at h0 ⊢
  simp only at h0 ⊢
  cases ht : Nat.blt t y.n with
  | false => exact .any
  | true =>
    rw [ht] at h0
    cases hb : bit y.vm t with
    | true => rw [hb] at h0; exact h0
    | false => exact .any
theorem Lay.next_vm (y : Lay) (d : Option Tmp) : (y.next d).vm = y.vm ∧ (y.next d).n = y.n := by
  unfold Lay.next
  split
  · split <;> exact ⟨rfl, rfl⟩
  · exact ⟨rfl, rfl⟩
theorem op_then {o : Oper} {ops : Array Oper} {i : Nat} {rest : List Nat} {y y1 y2 : Lay} {env env1 : List AV} {r r1 : R3} {ds ds' : DS} {h h1 : H} {v : AV} {R : Res} (hwf : h.WF)
    (ho : ops[i]? = some o) (hs : OStep P o y env r ds h v ds' h1) (hdst : ∀ φ (a : Act) cv, LRel φ y env r a.tmps → VRel φ v cv → LRel φ y1 env1 r1 (a.put o.dst cv).tmps)
    (hw : ∀ φ (a : Act), LRel φ y env r a.tmps → Region.wanted o (yielded ops a.tmps) = true) (hR : ResOk P y1 y2 env1 r1 ds' h1 [.inRegion ops rest] R) :
    ResOk P y y2 env r ds h [.inRegion ops (i :: rest)] R := by
  have key : ∀ {x : AOut} {r2 : R3} {ds2 : DS} {h2 : H}, OkOut P y1 y2 env1 r1 ds' h1 [.inRegion ops rest] x [] r2 ds2 h2 → OkOut P y y2 env r ds h [.inRegion ops (i :: rest)] x [] r2 ds2 h2 := by
    intro x r2 ds2 h2 o2
    refine ⟨hs.1.trans o2.1, fun b φ a w hl hd hr hg win => ?_⟩
    obtain ⟨cv, w1, φ1, defers', s1, v1, st1, d1⟩ := hs.2 b φ a w hl hd hr hg (Win.left o2.1 win)
    have hl1 := hdst φ1 { a with defers := defers' } cv (hl.mono st1.ext) v1
    have hd1 : DRel b φ1 ds' (({ a with defers := defers' } : Act).put o.dst cv).defers := by
      cases o.dst <;> exact d1
    obtain ⟨a2, w2, φ2, s2, l2, d2, st2⟩ := o2.2 b φ1 _ w1 hl1 hd1 st1.rel (hg.mono st1.ext) (Win.right hs.1 o2.1 win st1)
    exact ⟨a2, w2, φ2, Reach.head (pre' := [.inRegion ops rest]) (fun k cs => s1 ops i rest k cs ho (hw φ a hl)) s2, l2, d2, Step.trans hwf hs.1 o2.1 win st1 st2⟩
  cases R with
  | fail w => trivial
  | norm => exact key hR
  | exit => exact key hR
  | ret => exact key hR
theorem skip_then {o : Oper} {ops : Array Oper} {i : Nat} {rest : List Nat} {y y1 y2 : Lay} {env env1 : List AV} {r r1 : R3} {ds : DS} {h : H} {R : Res}
    (ho : ops[i]? = some o) (hdst : ∀ φ (a : Act) cv, LRel φ y env r a.tmps → VRel φ undefA cv → LRel φ y1 env1 r1 (a.put o.dst cv).tmps)
    (hw : ∀ φ (a : Act), LRel φ y env r a.tmps → Region.wanted o (yielded ops a.tmps) = false) (hR : ResOk P y1 y2 env1 r1 ds h [.inRegion ops rest] R) :
    ResOk P y y2 env r ds h [.inRegion ops (i :: rest)] R := by
  have key : ∀ {x : AOut} {r2 : R3} {ds2 : DS} {h2 : H}, OkOut P y1 y2 env1 r1 ds h [.inRegion ops rest] x [] r2 ds2 h2 → OkOut P y y2 env r ds h [.inRegion ops (i :: rest)] x [] r2 ds2 h2 := by
    intro x r2 ds2 h2 o2
    refine ⟨o2.1, fun b φ a w hl hd hr hg win => ?_⟩
    have hl1 := hdst φ a undef hl .undef
    have hd1 : DRel b φ ds (a.put o.dst undef).defers := by
      cases o.dst <;> exact hd
    obtain ⟨a2, w2, φ2, s2, rest'⟩ := o2.2 b φ _ w hl1 hd1 hr hg win
    refine ⟨a2, w2, φ2, Reach.head (pre' := [.inRegion ops rest]) (fun k cs => .one ?_) s2, rest'⟩
    have := st_op_skip (P := P) (b := b) (a := a) (k := k) (cs := cs) (w := w) (ops := ops) (i := i) (rest := rest) (by simp [ho, hw φ a hl])
    rw [ho] at this
    exact this
  cases R with
  | fail w => trivial
  | norm => exact key hR
  | exit => exact key hR
  | ret => exact key hR
theorem yielded_bool {ops : Array Oper} {tmps : Array Value} {j : Nat} {g : Tmp} {b : Bool} (hg : (ops[j]?).bind (·.dst) = some g) (hv : tmps.getD g undef = .bool b) : yielded ops tmps j = some b := by
  have : tmps[g]? = some (.bool b) := by
    rw [Array.getD_eq_getD_getElem?] at hv
    cases h : tmps[g]? with
    | none => rw [h] at hv; cases hv
    | some v => rw [h] at hv; simp at hv; rw [hv]
  simp [yielded, hg, this]
theorem yielded_none {ops : Array Oper} {tmps : Array Value} {j : Nat} {g : Tmp} (hg : (ops[j]?).bind (·.dst) = some g) (hv : tmps.getD g undef = .tuple #[]) : yielded ops tmps j = none := by
  rw [Array.getD_eq_getD_getElem?] at hv
  cases h : tmps[g]? with
  | none => simp [yielded, hg, h]
  | some v => rw [h] at hv; simp at hv; simp [yielded, hg, h, hv]
/-- what a guard says -/
theorem guard_cases {ops : Array Oper} {o : Oper} {j : Nat} {want : Bool} {g : Tmp} (hgd : o.guard = some (j, want)) (hg : (ops[j]?).bind (·.dst) = some g) (y : Lay) (d : Dst) (yes no : RCmd) (e : E) (env : List AV) (r : R3) (ds : DS) (h : H) :
    (∃ w, (guardC (tmpC y g) want d yes no).run e env r ds h = .fail w) ∨
    ((guardC (tmpC y g) want d yes no).run e env r ds h = yes.run e env r ds h ∧ ∀ φ (a : Act), LRel φ y env r a.tmps → Region.wanted o (yielded ops a.tmps) = true) ∨
    ((guardC (tmpC y g) want d yes no).run e env r ds h = (d.put undefA env r fun env r => no.run e env r ds h) ∧ ∀ φ (a : Act), LRel φ y env r a.tmps → Region.wanted o (yielded ops a.tmps) = false) := by
  simp only [guardC]
  split
  · rename_i b hb
    have hy : ∀ φ (a : Act), LRel φ y env r a.tmps → yielded ops a.tmps j = some b := fun φ a hl => by
      have := hl.val g
      rw [hb] at this
      generalize hv : a.tmps.getD g undef = v at this
      cases this
      exact yielded_bool hg hv
    cases hbw : (b == want) with
    | true =>
      right; left
      refine ⟨rfl, fun φ a hl => ?_⟩
      simp only [Region.wanted, hgd, hy φ a hl]
      have : b = want := by simpa using hbw
      simp [this]
    | false =>
      right; right
      refine ⟨rfl, fun φ a hl => ?_⟩
      simp only [Region.wanted, hgd, hy φ a hl]
      have : b ≠ want := by simpa using hbw
      simp [this]
  · rename_i hb
    right; right
    refine ⟨rfl, fun φ a hl => ?_⟩
    have := hl.val g
    rw [hb] at this
    generalize hv : a.tmps.getD g undef = v at this
    cases this with
    | tuple h =>
      cases h
      simp only [Region.wanted, hgd, yielded_none hg hv]
      simp
  · exact .inl ⟨_, rfl⟩
theorem wanted_none {o : Oper} (h : o.guard = none) (f : Nat → Option Bool) : Region.wanted o f = true := by simp [Region.wanted, h]

theorem opsC_seq {e : E} (hE : ESim P e) {ms : List Nat} {ops : Array Oper} {vm n : Nat} : ∀ (l : List Oper) (j : Nat) (y : Lay) (env : List AV) (r : R3) (ds : DS) (h : H), h.WF → y.vm = vm → y.n = n → ops.toList.drop j = l →
    ResOk P y ⟨vm, n, []⟩ env r ds h [.inRegion ops (List.range' j l.length)] ((opsC P false ms ops.toList y j l).run e env r ds h) := by
  intro l
  induction l with
  | nil =>
    intro j y env r ds h hwf hvm hn _
    refine ⟨AStep.refl h, fun b φ a w hl hd hr _ _ => ⟨a, w, φ, fun k cs => .one st_region_end, ?_, hd, Step.refl hr⟩⟩
    have := hl.drop
    rw [hvm, hn] at this
    exact this
  | cons o l ih =>
    intro j y env r ds h hwf hvm hn hdrop
    have ho : ops[j]? = some o := by
      have := congrArg (fun x => x[0]?) hdrop
      simp at this
      exact this
    have hnext : ops.toList.drop (j + 1) = l := by
      have := congrArg List.tail hdrop
      simpa using this
    have hrange : List.range' j (o :: l).length = j :: List.range' (j + 1) l.length := by simp [List.range'_succ]
    rw [hrange]
    obtain ⟨nv, nn⟩ := Lay.next_vm y o.dst
    have rest : ∀ env r ds h, h.WF → ResOk P (y.next o.dst) ⟨vm, n, []⟩ env r ds h [.inRegion ops (List.range' (j + 1) l.length)] ((opsC P false ms ops.toList (y.next o.dst) (j + 1) l).run e env r ds h) :=
      fun env r ds h hwf => ih (j + 1) (y.next o.dst) env r ds h hwf (nv.trans hvm) (nn.trans hn) hnext
    have hyes : (∀ φ (a : Act), LRel φ y env r a.tmps → Region.wanted o (yielded ops a.tmps) = true) →
        ResOk P y ⟨vm, n, []⟩ env r ds h [.inRegion ops (j :: List.range' (j + 1) l.length)] ((opC P y o (opsC P false ms ops.toList (y.next o.dst) (j + 1) l)).run e env r ds h) := by
      intro hw
      rcases opC_step hE y o env r ds h hwf with ⟨w, hf⟩ | ⟨v, ds', h', h1, h2⟩
      · rw [hf]; trivial
      · rw [h1]
        rcases dst_put y o.dst v env r with ⟨w, hf⟩ | ⟨env', r', k1, k2⟩
        · rw [hf]; trivial
        · rw [k1]
          exact op_then hwf ho h2 k2 hw (rest env' r' ds' h' (h2.1.wf hwf))
    cases hgd : o.guard with
    | none =>
      have hrun : (opsC P false ms ops.toList y j (o :: l)).run e env r ds h = (opC P y o (opsC P false ms ops.toList (y.next o.dst) (j + 1) l)).run e env r ds h := by
        simp only [opsC, hgd]
      rw [hrun]
      exact hyes fun φ a _ => wanted_none hgd _
    | some gw =>
      obtain ⟨gj, want⟩ := gw
      cases hg : (ops.toList[gj]?).bind (·.dst) with
      | none =>
        have hrun : (opsC P false ms ops.toList y j (o :: l)).run e env r ds h = .fail "guard" := by
          simp only [opsC, hgd, hg]; rfl
        rw [hrun]; trivial
      | some g =>
        have hg' : (ops[gj]?).bind (·.dst) = some g := by simpa using hg
        have hrun : (opsC P false ms ops.toList y j (o :: l)).run e env r ds h =
            (guardC (tmpC y g) want (dstC y o.dst) (opC P y o (opsC P false ms ops.toList (y.next o.dst) (j + 1) l)) (opsC P false ms ops.toList (y.next o.dst) (j + 1) l)).run e env r ds h := by
          simp only [opsC, hgd, hg]
        rw [hrun]
        rcases guard_cases hgd hg' y (dstC y o.dst) (opC P y o (opsC P false ms ops.toList (y.next o.dst) (j + 1) l)) (opsC P false ms ops.toList (y.next o.dst) (j + 1) l) e env r ds h with ⟨w, hf⟩ | ⟨h1, h2⟩ | ⟨h1, h2⟩
        · rw [hf]; trivial
        · rw [h1]; exact hyes h2
        · rw [h1]
          rcases dst_put y o.dst undefA env r with ⟨w, hf⟩ | ⟨env', r', k1, k2⟩
          · rw [hf]; trivial
          · rw [k1]
            exact skip_then ho k2 h2 (rest env' r' ds h hwf)
theorem cmd_region {vm n id : Nat} {ops : Array Oper} : CmdOk P vm n (.region id ops false) (comp P vm n (.region id ops false)) := fun e hE r ds h hwf => by
  have := opsC_seq hE (ms := []) (ops := ops) (vm := vm) (n := n) ops.toList 0 ⟨vm, n, []⟩ [] r ds h hwf rfl rfl (by simp)
  refine ResOk.head (pre' := [.inRegion ops (List.range ops.size)]) (fun b' a' w k cs => .one st_region) ?_
  rw [List.range_eq_range']
  have e : ops.toList.length = ops.size := by simp
  rw [e] at this
  exact this
end
end Go.Ai

namespace Go.Ai
open Go
set_option linter.unusedVariables false

section
variable {P : Program}
theorem loadA_cases {h : H} {g : Bool} {n : Nat} {ty : TypeId} (hg : aggT P ty = some g) (hn : szOf P ty = some n) (b o : Nat) :
    (∃ e, ∀ K, loadA g n h b o K = .fail e) ∨ ∃ v, (∀ K, loadA g n h b o K = K v) ∧
      ∀ φ w l, RelF φ h.get w → φ b = some l → ∃ cv, (loadVar ty ⟨l.blk, l.base + o, none⟩).run P w = .ok cv w ∧ VRel φ v cv := by
  simp only [loadA, H.cells]
  cases hc : h.get b with
  | cells el cs =>
    cases g with
    | true =>
      simp only [dropK_eq, takeK_eq]
      by_cases h1 : o ≤ cs.length
      · by_cases h2 : n ≤ (cs.drop o).length
        · refine .inr ⟨.agg ((cs.drop o).take n), fun K => by simp only [if_pos h1, if_pos h2], fun φ w l r hb => ?_⟩
          obtain ⟨c, e, fr, k1, k2, k3, k4, k5⟩ := r.cells hb hc
          obtain ⟨vs, m1, m2, m3, m4⟩ := k3.read (o := o) (n := n) (by simp at h2; omega)
          refine ⟨.agg vs.toArray, ?_, .agg m2 m3⟩
          have hl := run_loads (P := P) k1 vs m4
          rw [m1] at hl
          simp [loadVar, und_isAgg hg, sz_sizeOf hn, hl]
        · exact .inl ⟨_, fun K => by simp only [if_pos h1, if_neg h2]; rfl⟩
      · exact .inl ⟨_, fun K => by simp only [if_neg h1]; rfl⟩
    | false =>
      simp only [nthK_eq]
      cases hx : cs[o]? with
      | none => exact .inl ⟨_, fun K => rfl⟩
      | some x =>
        refine .inr ⟨x, fun K => rfl, fun φ w l r hb => ?_⟩
        obtain ⟨c, e, fr, k1, k2, k3, k4, k5⟩ := r.cells hb hc
        obtain ⟨cv, m1, m2, m3⟩ := k3.get _ _ hx
        refine ⟨cv, ?_, m2⟩
        have hcell : w.cell? ⟨l.blk, l.base + o, none⟩ = some cv := (cell_of k1 _).trans m1
        simp [loadVar, und_isAgg hg, hcell]
  | _ => exact .inl ⟨_, fun K => rfl⟩

-- results
theorem resultA_ok {vm n : Nat} {r : R3} {h : H} {x : ResultVar} {v : AV} (hx : resultA P vm n r h x = some v) {φ : Phi} {tmps : Array Value} {w : World}
    (hl : LRel φ ⟨vm, n, []⟩ [] r tmps) (hr : RelF φ h.get w) :
    ∃ cv, (match x with | .tmp t => pure (tmps.getD t undef) | .cell a t => do loadVar t (← asAddr (tmps.getD a undef)) : Sem Value).run P w = .ok cv w ∧ VRel φ v cv := by
  cases x with
  | tmp t =>
    simp only [resultA, Option.some.injEq] at hx
    subst hx
    exact ⟨_, rfl, hl.val t⟩
  | cell a ty =>
    simp only [resultA] at hx
    split at hx
    · rename_i b o g m hp hg hm
      have hpv := hl.val a
      rw [hp] at hpv
      rcases loadA_cases (P := P) (h := h) hg hm b o with ⟨e, he⟩ | ⟨u, h1, h2⟩
      · rw [he] at hx; cases hx
      · rw [h1] at hx
        simp only [Option.some.injEq] at hx
        generalize hcv : tmps.getD a undef = cv at hpv
        cases hpv with
        | ptr hb =>
          obtain ⟨cu, k1, k2⟩ := h2 φ w _ hr hb
          refine ⟨cu, ?_, ?_⟩
          · simp only [hcv, asAddr, Sem.run_bind, Sem.run_pure, Result.andThen_ok]
            exact k1
          · rw [← hx]; exact k2
    · cases hx
theorem resultsA_ok {vm n : Nat} {r : R3} {h : H} {φ : Phi} {tmps : Array Value} {w : World} (hl : LRel φ ⟨vm, n, []⟩ [] r tmps) (hr : RelF φ h.get w) :
    ∀ {rs : List ResultVar} {vs : List AV}, resultsA P vm n r h rs = some vs → ∃ cvs : List Value,
      (rs.mapM fun | .tmp t => pure (tmps.getD t undef) | .cell a t => do loadVar t (← asAddr (tmps.getD a undef)) : Sem (List Value)).run P w = .ok cvs w ∧ VRels φ vs cvs
  | [], vs, hx => by
    simp only [resultsA, Option.some.injEq] at hx; subst hx
    exact ⟨[], by simp, .nil⟩
  | x :: rs, vs, hx => by
    simp only [resultsA] at hx
    split at hx
    · rename_i v l h1 h2
      simp only [Option.some.injEq] at hx; subst hx
      obtain ⟨cv, k1, k2⟩ := resultA_ok h1 hl hr
      obtain ⟨cvs, k3, k4⟩ := resultsA_ok hl hr h2
      refine ⟨cv :: cvs, ?_, .cons k2 k4⟩
      simp only [List.mapM_cons, Sem.run_bind, k3, Sem.run_pure]
      cases x <;> (simp only at k1 ⊢; rw [k1]; simp only [Result.andThen_ok, k3])
    · cases hx
theorem results_rel {vm n : Nat} {r : R3} {h : H} {φ : Phi} {tmps : Array Value} {w : World} (hl : LRel φ ⟨vm, n, []⟩ [] r tmps) (hr : RelF φ h.get w) {fn : Func} {vs : List AV}
    (hx : resultsA P vm n r h fn.results.toList = some vs) : ∃ cv, (results fn tmps).run P w = .ok cv w ∧ VRel φ (tupleA vs) cv := by
  obtain ⟨cvs, k1, k2⟩ := resultsA_ok hl hr hx
  have e : (fn.results.mapM fun | .tmp t => pure (tmps.getD t undef) | .cell a t => do loadVar t (← asAddr (tmps.getD a undef)) : Sem (Array Value)).run P w = .ok cvs.toArray w := by
    rw [Array.mapM_eq_mapM_toList]
    simp only [Sem.run_map, k1, Result.andThen_ok]
  have e' : (results fn tmps).run P w = ((fn.results.mapM fun | .tmp t => pure (tmps.getD t undef) | .cell a t => do loadVar t (← asAddr (tmps.getD a undef)) : Sem (Array Value)).run P w).andThen
      fun vs w => .ok (if h : vs.size = 1 then vs[0] else .tuple vs) w := by
    simp only [results, Sem.run_bind, Sem.run_pure]
    rfl
  rw [e', e]
  refine ⟨_, rfl, ?_⟩
  cases k2 with
  | nil => exact .tuple .nil
  | cons h1 hl' =>
    cases hl' with
    | nil => simpa [tupleA] using h1
    | cons h2 hl'' =>
      have := VRel.tuple (VRels.cons h1 (VRels.cons h2 hl''))
      simpa [tupleA] using this
end
end Go.Ai

namespace Go.Ai
open Go
set_option linter.unusedVariables false

section
variable {P : Program}
theorem putH_eq (h : H) (b : Nat) (o : AObj) (K : H → CRes) : putH h b o K = if b < h.next then K (h.upd b o) else .fail "put" := by
  unfold putH
  rw [H.put_eq]
  by_cases hb : b < h.next
  · simp only [if_pos hb]
  · simp only [if_neg hb]
/-- the deferred calls of a frame that returns -/
theorem Does.deferred' {s : Sem Next} {w w' : World} {cv : Value} {d : Deferred} {fr : Frame} {cs : List Frame} {ds : List Deferred} (hm : fr.mode = .returning) (hd : fr.defers = d :: ds) (ht : ∃ fn c, d.target = .fn fn c)
    (hs : Does P .deferred s w cv w') (he : (invoke d.target d.args).run P w = s.run P w) : Steps P (lone fr cs w) (lone { fr with defers := ds } cs w') := by
  have h0 := Does.congr he hs
  obtain ⟨fn, c, ht⟩ := ht
  obtain ⟨ffn, tmps, todo, defers, mode, kind, rnd⟩ := fr
  obtain ⟨target, args⟩ := d
  simp only at hm hd ht
  subst hm; subst hd; subst ht
  have hstep : stepG P true { frame := ⟨ffn, tmps, todo, ⟨.fn fn c, args⟩ :: ds, .returning, kind, rnd⟩, callers := cs, status := .running, dying := none } w =
      callDeferred P ⟨ffn, tmps, todo, ds, .returning, kind, rnd⟩ cs none ⟨.fn fn c, args⟩ w := rfl
  cases h0 with
  | value h =>
    refine .one (step_lone_go ?_)
    rw [hstep]
    simp only at h
    simp [callDeferred, h]
  | skip h =>
    refine .one (step_lone_go ?_)
    rw [hstep]
    simp only at h
    simp [callDeferred, h]
  | enter h hr =>
    refine .head (step_lone_go ?_) (hr.deferred ⟨ffn, tmps, todo, ds, .returning, kind, rnd⟩ cs rfl)
    rw [hstep]
    simp only at h
    simp [callDeferred, h]
  | round h hr hdd =>
    refine .head (step_lone_go ?_) (hdd rfl ⟨ffn, tmps, todo, ds, .returning, kind, rnd⟩ cs rfl)
    rw [hstep]
    simp only at h
    simp [callDeferred, h]
end
section
variable {P : Program}
theorem invoke_func (f : FuncId) (c a : List Value) : invoke (.fn (.func f) c.toArray) a.toArray = callFunc f (a ++ c).toArray := by
  simp [invoke]
theorem invoke_method (name : String) (c : Array Value) (r : Value) (a : List Value) : invoke (.fn (.method name) c) (r :: a).toArray = callMethod r name a.toArray := by
  have e1 : ((r :: a).toArray.extract 1 (r :: a).toArray.size) = a.toArray := by apply Array.ext'; simp
  simp only [invoke, e1]
  simp
theorem frame_defers_self (fr : Frame) (ds : List Deferred) (h : fr.defers = ds) : { fr with defers := ds } = fr := by
  subst h; rfl
/-- the deferred calls of a frame that returns -/
theorem leaveA_ok {e : E} (hE : ESim P e) : ∀ (l : List ADef) (h : H), h.WF →
    (∃ w, ∀ K, leaveA P e l h K = .fail w) ∨ ∃ h', (∀ K, leaveA P e l h K = K h') ∧ AStep h h' ∧
      ∀ φ w ds, DefRels φ l ds → RelF φ h.get w → GRel P φ → Win φ h h' → ∃ w' φ',
        (∀ (fr : Frame) cs, fr.mode = .returning → fr.defers = ds → Steps P (lone fr cs w) (lone { fr with defers := [] } cs w')) ∧ Step φ h w φ' h' w' := by
  intro l
  induction l with
  | nil =>
    intro h hwf
    refine .inr ⟨h, fun _ => rfl, AStep.refl h, fun φ w ds hd hr hg win => ?_⟩
    cases hd
    refine ⟨w, φ, fun fr cs hm hfd => ?_, Step.refl hr⟩
    rw [frame_defers_self fr [] hfd]
    exact Steps.refl P _
  | cons a l ih =>
    -- a call, and what follows it
    have call : ∀ (c : CRes) (h : H) (a : ADef) (C : Phi → Sem Next → Prop), h.WF → (∀ v h', c = .ret v h' → SimC P h h' v C) →
        (∀ φ d, DefRel φ a d → (∃ fn cc, d.target = .fn fn cc) ∧ ∃ s, C φ s ∧ invoke d.target d.args = s) →
        (∀ K, leaveA P e (a :: l) h K = (match c with | .ret _ h => leaveA P e l h K | .fail w => .fail w)) →
        (∃ w, ∀ K, leaveA P e (a :: l) h K = .fail w) ∨ ∃ h', (∀ K, leaveA P e (a :: l) h K = K h') ∧ AStep h h' ∧
          ∀ φ w ds, DefRels φ (a :: l) ds → RelF φ h.get w → GRel P φ → Win φ h h' → ∃ w' φ',
            (∀ (fr : Frame) cs, fr.mode = .returning → fr.defers = ds → Steps P (lone fr cs w) (lone { fr with defers := [] } cs w')) ∧ Step φ h w φ' h' w' := by
      intro c h a C hwf hs hC hrun
      cases c with
      | fail w => exact .inl ⟨w, fun K => by rw [hrun]⟩
      | ret v h1 =>
        have sim := hs v h1 rfl
        rcases ih h1 (sim.1.wf hwf) with ⟨w, hw⟩ | ⟨h', k1, k2, k3⟩
        · exact .inl ⟨w, fun K => by rw [hrun]; exact hw K⟩
        · refine .inr ⟨h', fun K => by rw [hrun]; exact k1 K, sim.1.trans k2, fun φ w ds hd hr hg win => ?_⟩
          cases hd with
          | @cons _ d _ m hd hl =>
            obtain ⟨ht, s, hcs, hinv⟩ := hC φ d hd
            obtain ⟨cv, w1, φ1, m1, m2, m3⟩ := sim.2 .deferred (.inr rfl) φ s w hcs hr hg (Win.left k2 win)
            obtain ⟨w', φ', n1, n2⟩ := k3 φ1 w1 m (hl.mono m3.ext) m3.rel (hg.mono m3.ext) (Win.right sim.1 k2 win m3)
            refine ⟨w', φ', fun fr cs hm hfd => ?_, Step.trans hwf sim.1 k2 win m3 n2⟩
            refine (Does.deferred' (ds := m) hm hfd ht m1 (by rw [hinv])).trans ?_
            exact n1 { fr with defers := m } cs hm rfl
    intro h hwf
    cases a with
    | col b =>
      cases hb : h.get b with
      | dfr =>
        have hrun : ∀ K, leaveA P e (.col b :: l) h K = putH h b .gone fun h => leaveA P e l h K := fun K => by simp only [leaveA, hb]
        simp only [putH_eq] at hrun
        by_cases hlt : b < h.next
        · have hg0 : h.get b ≠ .gone := by rw [hb]; exact fun h => by cases h
          have ast := AStep.upd hlt hg0 .gone
          have hwf1 := ast.wf hwf
          simp only [if_pos hlt] at hrun
          rcases ih (h.upd b .gone) hwf1 with ⟨w, hw⟩ | ⟨h', k1, k2, k3⟩
          · exact .inl ⟨w, fun K => by rw [hrun]; exact hw K⟩
          · refine .inr ⟨h', fun K => by rw [hrun]; exact k1 K, ast.trans k2, fun φ w ds hd hr hg win => ?_⟩
            cases hd with
            | @cons _ d _ m hd hl =>
              cases hd with
              | @col _ L hφ =>
                obtain ⟨o, ho, hor⟩ := hr.obj b L hφ hg0
                rw [hb] at hor
                cases hor with
                | dfr =>
                  have st : Step φ h w φ (h.upd b .gone) { w with heap := w.heap.setIfInBounds L.blk (.deferred none) } := by
                    refine Step.upd hr hwf hφ hlt hg0 (.inl rfl) (O := .deferred none) (fun k => ?_) (by simp) rfl rfl rfl
                    have hsz := hr.lt b L hφ
                    simp only [Array.getElem?_setIfInBounds]
                    by_cases hk : L.blk = k
                    · subst hk; simp [hsz]
                    · rw [if_neg hk, if_neg (fun x => hk x.symm)]
                  obtain ⟨w', φ', n1, n2⟩ := k3 φ _ m (hl.mono st.ext) st.rel hg (Win.right ast k2 win st)
                  refine ⟨w', φ', fun fr cs hm hfd => ?_, Step.trans hwf ast k2 win st n2⟩
                  refine .head (step_lone_go ?_) (n1 { fr with defers := m } cs hm rfl)
                  obtain ⟨ffn, tmps, todo, defers, mode, kind, rnd⟩ := fr
                  simp only at hm hfd
                  subst hm; subst hfd
                  have hrn : (Instr.takeDeferred L.blk).run P w = .ok [] { w with heap := w.heap.setIfInBounds L.blk (.deferred none) } := by
                    simp [Instr.takeDeferred, getObj, setObj, Sem.run, ho]
                  simp [stepG, unwind, hrn]
        · simp only [if_neg hlt] at hrun
          exact .inl ⟨_, hrun⟩
      | _ => exact .inl ⟨.s "take", fun K => by simp only [leaveA, hb]⟩
    | fn fn captured args =>
      cases fn with
      | func f =>
        refine call (e.call f (args ++ captured) h) h (.fn (.func f) captured args) _ hwf (fun v h' he => hE.call f _ h v h' hwf he) ?_ (fun K => rfl)
        intro φ d hd
        cases hd with
        | @fn _ _ _ c' _ a' hf hc ha =>
          cases hf
          exact ⟨⟨_, _, rfl⟩, _, ⟨a' ++ c', ha.append hc, rfl⟩, invoke_func f c' a'⟩
      | method name =>
        cases args with
        | nil => exact .inl ⟨_, fun K => rfl⟩
        | cons r args =>
          refine call (callMeth P e r name args h) h (.fn (.method name) captured (r :: args)) _ hwf (fun v h' he => callMeth_sim hE hwf he) ?_ (fun K => rfl)
          intro φ d hd
          cases hd with
          | @fn _ _ _ c' _ a' hf hc ha =>
            cases hf
            cases ha with
            | @cons _ cr _ cl h1 h2 => exact ⟨⟨_, _, rfl⟩, _, ⟨cr, cl, h1, h2, rfl⟩, invoke_method name _ cr cl⟩
      | methodOf => exact .inl ⟨_, fun K => rfl⟩
      | via => exact .inl ⟨_, fun K => rfl⟩
      | yield => exact .inl ⟨_, fun K => rfl⟩

-- arguments
theorem blank_get (t : Nat) : (regOf t).get blankR = .any := by
  have sel : ∀ {α : Type} (x : α) (d : D), (N8.blank x).sel d = x := fun x d => by cases d <;> rfl
  simp only [regOf, regOf', blankR, any2, any1, sel]
theorem setArgs_cases (vm n : Nat) (hn : n ≤ 512) : ∀ (l : List AV) (i : Nat) (r : R3), (∃ w, ∀ K, setArgs vm n i l r K = .fail w) ∨ ∃ r', (∀ K, setArgs vm n i l r K = K r') ∧
    (l = [] ∨ i + l.length ≤ n) ∧ ∀ t, t < 512 → (regOf t).get r' = if i ≤ t ∧ t < i + l.length ∧ bit vm t = true then l.getD (t - i) .any else (regOf t).get r := by
  intro l
  induction l with
  | nil => intro i r; exact .inr ⟨r, fun _ => rfl, .inl rfl, fun t _ => by rw [if_neg (by simp; omega)]⟩
  | cons v l ih =>
    intro i r
    simp only [setArgs]
    cases hb : Nat.blt i n with
    | false => exact .inl ⟨_, fun _ => rfl⟩
    | true =>
      have hin := blt_iff.1 hb
      have fin : ∀ (r0 r' : R3), (regOf i).get r0 = (if bit vm i = true then v else (regOf i).get r) → (∀ t, t < 512 → t ≠ i → (regOf t).get r0 = (regOf t).get r) →
          (l = [] ∨ i + 1 + l.length ≤ n) → (∀ t, t < 512 → (regOf t).get r' = if i + 1 ≤ t ∧ t < i + 1 + l.length ∧ bit vm t = true then l.getD (t - (i + 1)) .any else (regOf t).get r0) →
          (v :: l = [] ∨ i + (v :: l).length ≤ n) ∧ ∀ t, t < 512 → (regOf t).get r' = if i ≤ t ∧ t < i + (v :: l).length ∧ bit vm t = true then (v :: l).getD (t - i) .any else (regOf t).get r := by
        intro r0 r' h1 h2 h3 h4
        refine ⟨.inr ?_, fun t ht => ?_⟩
        · simp only [List.length_cons]
          rcases h3 with h3 | h3
          · subst h3; simp; omega
          · omega
        · rw [h4 t ht]
          by_cases e : t = i
          · subst e
            rw [if_neg (by omega), h1]
            by_cases hbt : bit vm t = true
            · rw [if_pos hbt, if_pos ⟨Nat.le_refl _, by simp, hbt⟩]; simp
            · rw [if_neg hbt, if_neg (fun x => hbt x.2.2)]
          · by_cases hc : i + 1 ≤ t ∧ t < i + 1 + l.length ∧ bit vm t = true
            · rw [if_pos hc, if_pos ⟨by omega, by simp; omega, hc.2.2⟩]
              obtain ⟨j, rfl⟩ : ∃ j, t = i + 1 + j := ⟨t - (i + 1), by omega⟩
              have e1 : i + 1 + j - (i + 1) = j := by omega
              have e2 : i + 1 + j - i = j + 1 := by omega
              rw [e1, e2]; simp
            · rw [if_neg hc, if_neg, h2 t ht e]
              intro x
              refine hc ⟨by omega, ?_, x.2.2⟩
              have := x.2.1
              simp only [List.length_cons] at this
              omega
      cases hbv : bit vm i with
      | true =>
        rcases ih (i + 1) (regSet i v r) with ⟨w, hw⟩ | ⟨r', k1, k2, k3⟩
        · exact .inl ⟨w, fun K => by simp only [regOf_set]; exact hw K⟩
        · exact .inr ⟨r', fun K => by simp only [regOf_set]; exact k1 K, fin _ r' (by rw [regOf_get_same, hbv]; rfl) (fun t ht hne => regOf_get_other (by omega) ht (fun x => hne x.symm) _ _) k2 k3⟩
      | false =>
        rcases ih (i + 1) r with ⟨w, hw⟩ | ⟨r', k1, k2, k3⟩
        · exact .inl ⟨w, hw⟩
        · exact .inr ⟨r', k1, fin _ r' (by rw [hbv]; rfl) (fun t _ _ => rfl) k2 k3⟩
theorem args_lrel {φ : Phi} {vm n : Nat} {l : List AV} {cl : List Value} {r' : R3} (hn : n ≤ 512) (hv : VRels φ l cl) (hlen : l = [] ∨ 0 + l.length ≤ n)
    (hr : ∀ t, t < 512 → (regOf t).get r' = if 0 ≤ t ∧ t < 0 + l.length ∧ bit vm t = true then l.getD (t - 0) .any else (regOf t).get blankR) :
    LRel φ ⟨vm, n, []⟩ [] r' (cl.toArray ++ Array.replicate (n - cl.toArray.size) undef) := by
  have hl := hv.length
  have hle : cl.length ≤ n := by
    rcases hlen with h | h
    · subst h; rw [← hl]; simp
    · omega
  refine ⟨by simp; omega, hn, fun t => ?_⟩
  simp only [tmpC]
  cases ht : Nat.blt t n with
  | false => exact .any
  | true =>
    have htn := blt_iff.1 ht
    cases hb : bit vm t with
    | false => exact .any
    | true =>
      simp only
      rw [hr t (by omega)]
      by_cases hc : t < l.length
      · rw [if_pos ⟨Nat.zero_le _, by omega, hb⟩]
        obtain ⟨x, hx⟩ : ∃ x, l[t]? = some x := ⟨_, List.getElem?_eq_getElem hc⟩
        obtain ⟨y, hy, hxy⟩ := hv.get t x hx
        have e1 : l.getD (t - 0) .any = x := by simp [List.getD_eq_getElem?_getD, hx]
        have e2 : (cl.toArray ++ Array.replicate (n - cl.toArray.size) undef).getD t undef = y := by
          rw [Array.getD_eq_getD_getElem?, Array.getElem?_append_left (by simp; omega)]
          simp [hy]
        rw [e1, e2]; exact hxy
      · rw [if_neg (by omega), blank_get]; exact .any
end
end Go.Ai

namespace Go.Ai
open Go
set_option linter.unusedVariables false

section
variable {P : Program}
/-- code that comes to its end, in a function's frame -/
theorem reach_leave {b : Base} {a a' : Act} {w w' : World} {c : Code} {x : AOut} (hb : b.rnd = none) (hx : x = .norm ∨ x = .ret) (h : Reach P b a w [.code c] x a' w') (cs : List Frame) :
    ∃ todo, Steps P (lone (b.at a [.code c]) cs w) (lone { fn := b.fn, tmps := a'.tmps, todo, defers := a'.defers, mode := .returning, kind := b.kind, roundOf := none } cs w') := by
  obtain ⟨fn, kind, rnd⟩ := b
  simp only at hb
  subst hb
  rcases hx with rfl | rfl
  · refine ⟨[], (h [] cs).trans (.one (step_lone_go ?_))⟩
    simp [stepG, stepG.exec, Base.at]
  · obtain ⟨k1, s⟩ := h [] cs
    refine ⟨.code .ret :: k1, s.trans (.one (step_lone_go ?_))⟩
    simp [stepG, stepG.exec, Base.at]
/-- a function does what its code does -/
theorem func_ret {e : E} (hE : ESim P e) {f : FuncId} {fn : Func} {c : Code} (hf : P.funcs[f]? = some fn) (hb : fn.body = some c) (hc : ∀ vm n, CmdOk P vm n c (comp P vm n c))
    {args : List AV} {h h' : H} {v : AV} (hwf : h.WF) (hr : (funcC P fn c).run e args h = .ret v h') :
    AStep h h' ∧ ∀ (kd : CallKind) φ w cl, VRels φ args cl → RelF φ h.get w → GRel P φ → Win φ h h' → ∃ cv w' φ', Ret P kd f cl.toArray w cv w' ∧ VRel φ' v cv ∧ Step φ h w φ' h' w' := by
  unfold funcC at hr
  simp only at hr
  cases hn : Nat.ble fn.ntmps 512 with
  | false => rw [hn] at hr; cases hr
  | true =>
    rw [hn] at hr
    have hle := Nat.le_of_ble_eq_true hn
    generalize realOf fn c (fn.params.size + fn.nfree) = vm at hr
    simp only at hr
    rcases setArgs_cases vm fn.ntmps hle args 0 blankR with ⟨w, hw⟩ | ⟨r', k1, k2, k3⟩
    · rw [hw] at hr; cases hr
    · rw [k1] at hr
      have hcmd := hc vm fn.ntmps e hE r' (.fn []) h hwf
      -- what follows upon the code
      have out : ∀ (x : AOut) (r1 : R3) (ds1 : DS) (h1 : H), (x = .norm ∨ x = .ret) → OkOut P ⟨vm, fn.ntmps, []⟩ ⟨vm, fn.ntmps, []⟩ [] r' (.fn []) h [.code c] x [] r1 ds1 h1 →
          (match ds1 with
            | .fn l => leaveA P e l h1 fun h => match resultsA P vm fn.ntmps r1 h fn.results.toList with
              | some vs => .ret (tupleA vs) h
              | none => .fail "results"
            | .rnd _ => .fail "rnd") = CRes.ret v h' →
          AStep h h' ∧ ∀ (kd : CallKind) φ w cl, VRels φ args cl → RelF φ h.get w → GRel P φ → Win φ h h' → ∃ cv w' φ', Ret P kd f cl.toArray w cv w' ∧ VRel φ' v cv ∧ Step φ h w φ' h' w' := by
        intro x r1 ds1 h1 hx ho hres
        cases ds1 with
        | rnd b => cases hres
        | fn l =>
          simp only at hres
          have hwf1 := ho.1.wf hwf
          rcases leaveA_ok hE l h1 hwf1 with ⟨w, hw⟩ | ⟨h2, m1, m2, m3⟩
          · rw [hw] at hres; cases hres
          · rw [m1] at hres
            cases hrs : resultsA P vm fn.ntmps r1 h2 fn.results.toList with
            | none => rw [hrs] at hres; cases hres
            | some vs =>
              rw [hrs] at hres
              simp only [CRes.ret.injEq] at hres
              obtain ⟨rfl, rfl⟩ := hres
              refine ⟨ho.1.trans m2, fun kd φ w cl hv hr hg win => ?_⟩
              have hl := args_lrel hle hv k2 k3
              obtain ⟨a', w1, φ1, n1, n2, n3, n4⟩ := ho.2 ⟨f, kd, none⟩ φ ⟨cl.toArray ++ Array.replicate (fn.ntmps - cl.toArray.size) undef, []⟩ w hl ⟨rfl, .nil⟩ hr hg (Win.left m2 win)
              obtain ⟨w2, φ2, q1, q2⟩ := m3 φ1 w1 a'.defers n3.2 n4.rel (hg.mono n4.ext) (Win.right ho.1 m2 win n4)
              obtain ⟨cv, z1, z2⟩ := results_rel (n2.mono q2.ext) q2.rel hrs
              refine ⟨cv, w2, φ2, fun cs => ?_, z2, Step.trans hwf ho.1 m2 win n4 q2⟩
              obtain ⟨todo, s1⟩ := reach_leave rfl hx n1 cs
              refine ⟨{ fn := f, tmps := a'.tmps, todo, defers := [], mode := .returning, kind := kd, roundOf := none }, ?_, rfl, rfl, rfl, rfl, fn, hf, z1⟩
              have hent : Frame.enter P f cl.toArray kd = (⟨f, kd, none⟩ : Base).at ⟨cl.toArray ++ Array.replicate (fn.ntmps - cl.toArray.size) undef, []⟩ [.code c] := by
                simp [Frame.enter, Base.at, hf, hb]
              rw [hent]
              exact s1.trans (q1 _ cs rfl rfl)
      unfold doneA at hr
      generalize hR : (comp P vm fn.ntmps c).run e r' (.fn []) h = R at hr hcmd
      cases R with
      | fail w => cases hr
      | norm r1 ds1 h1 => exact out .norm r1 ds1 h1 (.inl rfl) hcmd hr
      | ret r1 ds1 h1 => exact out .ret r1 ds1 h1 (.inr rfl) hcmd hr
      | exit i r1 ds1 h1 => cases hr
end
end Go.Ai

namespace Go.Ai
open Go
set_option linter.unusedVariables false

section
variable {P : Program}
-- loops over functions
theorem run_getLoop {w : World} {l : Nat} {r : Loop} (h : w.heap[l]? = some (.loop r)) : (Instr.getLoop l).run P w = .ok r w := by
  simp [Instr.getLoop, getObj, Sem.run, h]
theorem run_setObj' {w : World} {l : Nat} {o o' : Obj} (h : w.heap[l]? = some o) (hc : ∀ a b c, o ≠ .cells a b c) : (setObj l o').run P w = .ok () { w with heap := w.heap.setIfInBounds l o' } := by
  cases o with
  | cells a b c => exact absurd rfl (hc a b c)
  | _ => simp [setObj, Sem.run, h]
theorem setHeap_get {w : World} {l : Nat} {o : Obj} (hl : l < w.heap.size) (k : Nat) : ({ w with heap := w.heap.setIfInBounds l o } : World).heap[k]? = if k = l then some o else w.heap[k]? := by
  simp only [Array.getElem?_setIfInBounds]
  by_cases hk : l = k
  · subst hk; simp [hl]
  · rw [if_neg hk, if_neg (fun x => hk x.symm)]
/-- a loop's record that the abstract heap knows -/
theorem RelF.loop {φ : Phi} {h : H} {w : World} (r : RelF φ h.get w) {b : Nat} {L : Loc} {st p vm n t ps as bd} (hb : φ b = some L) (hc : h.get b = .loop st p vm n t ps as bd) :
    ∃ lp : Loop, w.heap[L.blk]? = some (.loop lp) ∧ lp.state = st ∧ JRel p lp.pending ∧ TRel φ vm n t lp.tmps ∧ lp.params.toList = ps ∧ lp.assign = as ∧ lp.body = bd := by
  obtain ⟨o, h1, h2⟩ := r.obj b L hb (by rw [hc]; exact fun h => by cases h)
  rw [hc] at h2
  cases h2 with
  | loop hst hp ht => exact ⟨_, h1, hst, hp, ht, rfl, rfl, rfl⟩
/-- a loop's record is changed -/
theorem Step.loop {φ : Phi} {h : H} {w : World} (r : RelF φ h.get w) (hwf : h.WF) {b : Nat} {L : Loc} {st p vm n t ps as bd st' p'} (hb : φ b = some L) (hc : h.get b = .loop st p vm n t ps as bd) (hlt : b < h.next)
    {lp lp' : Loop} (h1 : w.heap[L.blk]? = some (.loop lp)) (h2 : lp'.state = st') (h3 : JRel p' lp'.pending) (h4 : TRel φ vm n t lp'.tmps) (h5 : lp'.params.toList = ps) (h6 : lp'.assign = as) (h7 : lp'.body = bd) :
    Step φ h w φ (h.upd b (.loop st' p' vm n t ps as bd)) { w with heap := w.heap.setIfInBounds L.blk (.loop lp') } := by
  have hlt' := r.lt b L hb
  refine Step.upd r hwf hb hlt (by rw [hc]; exact fun h => by cases h) (.inr ?_) (fun k => setHeap_get hlt' k) (by simp) rfl rfl rfl
  subst h5; subst h6; subst h7
  exact .loop h2 h3 h4
theorem loop_ne_gone {h : H} {b : Nat} {st p vm n t ps as bd} (hc : h.get b = .loop st p vm n t ps as bd) : h.get b ≠ .gone := by rw [hc]; exact fun h => by cases h

-- parameters
theorem setPars_cases (vm n : Nat) : ∀ (ps : List Nat) (l : List AV) (r : R3), (∃ w, ∀ K, setPars vm n ps l r K = .fail w) ∨ ∃ r', (∀ K, setPars vm n ps l r K = K r') ∧ ps.length = l.length ∧
    ∀ φ (tmps : Array Value) (cl : List Value), VRels φ l cl → TRel φ vm n r tmps → TRel φ vm n r' ((ps.zip cl).foldl (fun tmps (x : Nat × Value) => tmps.setIfInBounds x.1 x.2) tmps) := by
  intro ps
  induction ps with
  | nil =>
    intro l r
    cases l with
    | nil => exact .inr ⟨r, fun _ => rfl, rfl, fun φ tmps cl _ h => by simpa using h⟩
    | cons v l => exact .inl ⟨_, fun _ => rfl⟩
  | cons p ps ih =>
    intro l r
    cases l with
    | nil => exact .inl ⟨_, fun _ => rfl⟩
    | cons v l =>
      simp only [setPars]
      cases hb : Nat.blt p n with
      | false => exact .inl ⟨_, fun _ => rfl⟩
      | true =>
        have hpn := blt_iff.1 hb
        have put : ∀ (r0 : R3), (bit vm p = true → (regOf p).get r0 = v) → (n ≤ 512 → ∀ t, t < 512 → t ≠ p → (regOf t).get r0 = (regOf t).get r) → ∀ φ (tmps : Array Value) cv, VRel φ v cv → TRel φ vm n r tmps → TRel φ vm n r0 (tmps.setIfInBounds p cv) := by
          intro r0 h1 h2 φ tmps cv hv ht
          refine ⟨by simp [ht.size], ht.le, fun t htn hbt => ?_⟩
          rw [Array.getD_eq_getD_getElem?]
          by_cases e : t = p
          · subst e
            rw [Array.getElem?_setIfInBounds_self_of_lt (by rw [ht.size]; exact hpn), h1 hbt]
            exact hv
          · rw [Array.getElem?_setIfInBounds_ne (fun x => e x.symm), h2 ht.le t (by have := ht.le; omega) e, ← Array.getD_eq_getD_getElem?]
            exact ht.reg t htn hbt
        have fin : ∀ (r0 : R3), (bit vm p = true → (regOf p).get r0 = v) → (n ≤ 512 → ∀ t, t < 512 → t ≠ p → (regOf t).get r0 = (regOf t).get r) →
            (∃ w, ∀ K, setPars vm n ps l r0 K = .fail w) ∨ ∃ r', (∀ K, setPars vm n ps l r0 K = K r') ∧ (p :: ps).length = (v :: l).length ∧
              ∀ φ (tmps : Array Value) (cl : List Value), VRels φ (v :: l) cl → TRel φ vm n r tmps → TRel φ vm n r' (((p :: ps).zip cl).foldl (fun tmps (x : Nat × Value) => tmps.setIfInBounds x.1 x.2) tmps) := by
          intro r0 h1 h2
          rcases ih l r0 with hf | ⟨r', k1, k2, k3⟩
          · exact .inl hf
          · refine .inr ⟨r', k1, by simp [k2], fun φ tmps cl hv ht => ?_⟩
            cases hv with
            | @cons _ cv _ cl hv hl => exact k3 φ _ cl hl (put r0 h1 h2 φ tmps cv hv ht)
        cases hbv : bit vm p with
        | true =>
          rcases fin (regSet p v r) (fun _ => regOf_get_same _ _ _) (fun hn t ht hne => regOf_get_other (by omega) ht (fun x => hne x.symm) _ _) with ⟨w, hw⟩ | ⟨r', k1, k2⟩
          · exact .inl ⟨w, fun K => by simp only [regOf_set]; exact hw K⟩
          · exact .inr ⟨r', fun K => by simp only [regOf_set]; exact k1 K, k2⟩
        | false => exact fin r (fun h => by rw [hbv] at h; cases h) (fun _ t _ _ => rfl)
theorem TRel.lrel {φ : Phi} {vm n : Nat} {r : R3} {tmps : Array Value} (h : TRel φ vm n r tmps) : LRel φ ⟨vm, n, []⟩ [] r tmps := by
  refine ⟨h.size, h.le, fun t => ?_⟩
  simp only [tmpC]
  cases ht : Nat.blt t n with
  | false => exact .any
  | true =>
    cases hb : bit vm t with
    | false => exact .any
    | true => exact h.reg t (blt_iff.1 ht) hb
theorem LRel.trel {φ : Phi} {vm n : Nat} {r : R3} {tmps : Array Value} (h : LRel φ ⟨vm, n, []⟩ [] r tmps) : TRel φ vm n r tmps := by
  refine ⟨h.size, h.le, fun t htn hb => ?_⟩
  have := h.val t
  simp only [tmpC, blt_iff.2 htn, hb] at this
  exact this
/-- the end of a round -/
theorem roundEnd_ok {l : Nat} {h h' : H} {p : Option AJump} {v : AV} (hwf : h.WF) (hr : roundEnd l h p = .ret v h') : AStep h h' ∧ ∀ φ w L jump, φ l = some L → JRel p jump → RelF φ h.get w →
    ∃ cv w', (Instr.endRound L.blk jump).run P w = .ok cv w' ∧ VRel φ v cv ∧ Step φ h w φ h' w' := by
  unfold roundEnd at hr
  cases hg : h.get l with
  | loop st0 p0 vm n t ps as bd =>
    rw [hg] at hr
    simp only [putH_eq] at hr
    have go : ∀ (st' : LoopState) (p' : Option AJump) (b : Bool), (if l < h.next then CRes.ret (.bool b) (h.upd l (.loop st' p' vm n t ps as bd)) else .fail "put") = .ret v h' →
        (∀ jump, JRel p jump → JRel p' jump ∧ (if jump.isNone = true then LoopState.ready else .done) = st' ∧ jump.isNone = b) → AStep h h' ∧ ∀ φ w L jump, φ l = some L → JRel p jump → RelF φ h.get w →
          ∃ cv w', (Instr.endRound L.blk jump).run P w = .ok cv w' ∧ VRel φ v cv ∧ Step φ h w φ h' w' := by
      intro st' p' b hres hj
      by_cases hlt : l < h.next
      · rw [if_pos hlt] at hres
        simp only [CRes.ret.injEq] at hres
        obtain ⟨rfl, rfl⟩ := hres
        refine ⟨AStep.upd hlt (loop_ne_gone hg) _, fun φ w L jump hL hjr r => ?_⟩
        obtain ⟨lp, h1, h2, h3, h4, h5, h6, h7⟩ := r.loop hL hg
        obtain ⟨j1, j2, j3⟩ := hj jump hjr
        refine ⟨.bool jump.isNone, { w with heap := w.heap.setIfInBounds L.blk (.loop { lp with state := if jump.isNone then .ready else .done, pending := jump }) }, ?_, by rw [j3]; exact .bool,
          Step.loop r hwf hL hg hlt h1 (lp' := { lp with state := if jump.isNone then .ready else .done, pending := jump }) j2 j1 h4 h5 h6 h7⟩
        simp [Instr.endRound, run_getLoop h1, run_setObj' h1]
      · rw [if_neg hlt] at hres; cases hres
    cases p with
    | none => exact go .ready none true hr fun jump hj => by cases hj; exact ⟨.none, rfl, rfl⟩
    | some j =>
      refine go .done (some j) false hr fun jump hj => ?_
      cases hj with
      | ret => exact ⟨.ret, rfl, rfl⟩
      | exit => exact ⟨.exit, rfl, rfl⟩
  | _ => rw [hg] at hr; cases hr
end
end Go.Ai

namespace Go.Ai
open Go
set_option linter.unusedVariables false

section
variable {P : Program}
def AOut.jump : AOut → Option AJump
  | .norm => none
  | .ret => some .ret
  | .exit i => some (.exit i)
def AOut.code : AOut → Option Code
  | .norm => none
  | .ret => some .ret
  | .exit i => some (.exit i)
theorem AOut.jrel (x : AOut) : JRel x.jump x.code := by cases x <;> constructor
/-- code that comes to its end, in a round's frame -/
theorem reach_end {b : Base} {a a' : Act} {w w' w2 : World} {c : Code} {x : AOut} {l : Nat} {cv : Value} (hb : b.rnd = some l) (h : Reach P b a w [.code c] x a' w')
    (he : (Instr.endRound l x.code).run P w' = .ok cv w2) (c0 : Frame) (cs : List Frame) :
    (b.kind = .normal → Steps P (lone (b.at a [.code c]) (c0 :: cs) w) (lone (c0.finish cv) cs w2)) ∧
    (b.kind = .deferred → c0.mode = .returning → Steps P (lone (b.at a [.code c]) (c0 :: cs) w) (lone c0 cs w2)) := by
  obtain ⟨fn, kind, rnd⟩ := b
  simp only at hb
  subst hb
  have key : ∃ todo, Steps P (lone ((⟨fn, kind, some l⟩ : Base).at a [.code c]) (c0 :: cs) w) (lone ((⟨fn, kind, some l⟩ : Base).at a' todo) (c0 :: cs) w') ∧
      ((kind = .normal → step P (lone ((⟨fn, kind, some l⟩ : Base).at a' todo) (c0 :: cs) w') = .next (lone (c0.finish cv) cs w2)) ∧
       (kind = .deferred → c0.mode = .returning → step P (lone ((⟨fn, kind, some l⟩ : Base).at a' todo) (c0 :: cs) w') = .next (lone c0 cs w2))) := by
    cases x with
    | norm =>
      simp only [AOut.code] at he
      refine ⟨[], h [] (c0 :: cs), fun hk => step_lone_go ?_, fun hk hm => step_lone_go ?_⟩
      · subst hk; simp [stepG, stepG.exec, Base.at, he, doReturn]
      · subst hk; simp [stepG, stepG.exec, Base.at, he, doReturn, hm]
    | ret =>
      simp only [AOut.code] at he
      obtain ⟨k1, s⟩ := h [] (c0 :: cs)
      refine ⟨_, s, fun hk => step_lone_go ?_, fun hk hm => step_lone_go ?_⟩
      · subst hk; simp [stepG, stepG.exec, Base.at, he, doReturn]
      · subst hk; simp [stepG, stepG.exec, Base.at, he, doReturn, hm]
    | exit i =>
      simp only [AOut.code] at he
      obtain ⟨k1, e1, s⟩ := h [] (c0 :: cs)
      have e2 : exitTo i k1 = none := by rw [e1]; rfl
      refine ⟨_, s, fun hk => step_lone_go ?_, fun hk hm => step_lone_go ?_⟩
      · subst hk; simp [stepG, stepG.exec, Base.at, he, doReturn, e2]
      · subst hk; simp [stepG, stepG.exec, Base.at, he, doReturn, hm, e2]
  obtain ⟨todo, s1, s2, s3⟩ := key
  exact ⟨fun hk => s1.trans (.one (s2 hk)), fun hk hm => s1.trans (.one (s3 hk hm))⟩
theorem st_beginRound {b : Base} {a : Act} {k : List Item} {cs : List Frame} {w : World} {l : Nat} {lp : Loop} (hb : b.rnd = some l) (h : w.heap[l]? = some (.loop lp)) (hs : lp.state = .ready) :
    step P (lone (b.at a (.beginRound :: k)) cs w) = .next (lone (b.at a k) cs { w with heap := w.heap.setIfInBounds l (.loop { lp with state := .busy }) }) := by
  obtain ⟨fn, kind, rnd⟩ := b
  simp only at hb
  subst hb
  refine step_lone_go ?_
  have hr : (Instr.beginRound l).run P w = .ok () { w with heap := w.heap.setIfInBounds l (.loop { lp with state := .busy }) } := by
    simp [Instr.beginRound, run_getLoop h, run_setObj' h, hs]
  have hr' : (do (some l).elim (stuck "beginRound: no round") Instr.beginRound; pure Next.skip : Sem Next).run P w = .ok .skip { w with heap := w.heap.setIfInBounds l (.loop { lp with state := .busy }) } := by
    simp only [Option.elim]
    exact run_unit hr
  simp only [stepG, stepG.exec, Base.at, stepG.apply, Sem.runT_eq, hr', GStep.bare_after]
  simp [Frame.finish]
theorem zip_fold (ps : Array Tmp) (cl : List Value) (tmps : Array Value) :
    (ps.zip cl.toArray).foldl (fun tmps (x : Tmp × Value) => tmps.setIfInBounds x.1 x.2) tmps = (ps.toList.zip cl).foldl (fun tmps (x : Nat × Value) => tmps.setIfInBounds x.1 x.2) tmps := by
  rw [← Array.foldl_toList]
  simp
theorem roundF_ok {e : E} (hE : ESim P e) (hc : ∀ vm n c, CmdOk P vm n c (comp P vm n c)) {l : Nat} {args : List AV} {h h' : H} {v : AV} (hwf : h.WF) (hr : roundF P e l args h = .ret v h') :
    SimC P h h' v fun φ s => ∃ cl L, φ l = some L ∧ VRels φ args cl ∧ s = Instr.yield L.blk cl.toArray := by
  unfold roundF at hr
  split at hr
  · rename_i p0 vm n t ps as bd hg
    rcases setPars_cases vm n ps args t with ⟨w, hw⟩ | ⟨r1, k1, k2, k3⟩
    · rw [hw] at hr; cases hr
    · rw [k1] at hr
      have has := hc vm n as e hE r1 (.rnd l) h hwf
      generalize (comp P vm n as).run e r1 (.rnd l) h = R at hr has
      cases R with
      | norm r2 ds2 h1 =>
        have o1 : OkOut P ⟨vm, n, []⟩ ⟨vm, n, []⟩ [] r1 (.rnd l) h [.code as] .norm [] r2 ds2 h1 := has
        have hwf1 := o1.1.wf hwf
        simp only at hr
        unfold roundBody at hr
        split at hr
        · rename_i p1 vm0 n0 t0 ps0 as0 bd0 hg1
          simp only [putH_eq] at hr
          by_cases hlt : l < h1.next
          · rw [if_pos hlt] at hr
            have a2 := AStep.upd hlt (loop_ne_gone hg1) (.loop .busy p1 vm0 n0 t0 ps0 as0 bd0)
            have hwf2 := a2.wf hwf1
            have hbd := hc vm n bd e hE r2 (.rnd l) _ hwf2
            generalize (comp P vm n bd).run e r2 (.rnd l) (h1.upd l (.loop .busy p1 vm0 n0 t0 ps0 as0 bd0)) = R2 at hr hbd
            have out : ∀ (x : AOut) (r3 : R3) (ds3 : DS) (h3 : H), OkOut P ⟨vm, n, []⟩ ⟨vm, n, []⟩ [] r2 (.rnd l) (h1.upd l (.loop .busy p1 vm0 n0 t0 ps0 as0 bd0)) [.code bd] x [] r3 ds3 h3 →
                roundEnd l h3 x.jump = .ret v h' → SimC P h h' v fun φ s => ∃ cl L, φ l = some L ∧ VRels φ args cl ∧ s = Instr.yield L.blk cl.toArray := by
              intro x r3 ds3 h3 o3 hend
              have hwf3 := o3.1.wf hwf2
              obtain ⟨a4, hst4⟩ := roundEnd_ok hwf3 hend
              refine ⟨((o1.1.trans a2).trans o3.1).trans a4, fun kd hkd φ s w hC hrel hgr win => ?_⟩
              obtain ⟨cl, L, hL, hcl, rfl⟩ := hC
              obtain ⟨lp, m1, m2, m3, m4, m5, m6, m7⟩ := hrel.loop hL hg
              have hsz : cl.toArray.size = lp.params.size := by
                have e1 := hcl.length
                have e2 : lp.params.size = ps.length := by rw [← m5]; simp
                simp only [List.size_toArray]
                omega
              have hy : (Instr.yield L.blk cl.toArray).run P w = .ok (.round L.blk lp.fn ((ps.zip cl).foldl (fun tmps (x : Nat × Value) => tmps.setIfInBounds x.1 x.2) lp.tmps) as bd) w := by
                have hz := zip_fold lp.params cl lp.tmps
                rw [m5] at hz
                simp only [Instr.yield, Sem.run_bind, run_getLoop m1, Result.andThen_ok]
                rw [if_neg (by simp [hsz])]
                simp only [m6, m7, Sem.run_pure]
                rw [← hz]
              have hT := k3 φ lp.tmps cl hcl m4
              have win3' : Win φ h h3 := Win.left a4 win
              have win2 : Win φ h (h1.upd l (.loop .busy p1 vm0 n0 t0 ps0 as0 bd0)) := Win.left (o3.1.trans a4) win
              have win1 : Win φ h h1 := Win.left a2 win2
              obtain ⟨a1, w1, φ1, s1, l1, d1, st1⟩ := o1.2 ⟨lp.fn, kd, some L.blk⟩ φ ⟨_, []⟩ w hT.lrel ⟨L, hL, rfl, rfl⟩ hrel hgr win1
              have hL1 := st1.ext l L hL
              obtain ⟨lp1, q1, q2, q3, q4, q5, q6, q7⟩ := st1.rel.loop hL1 hg1
              have st2 := Step.loop (st' := .busy) (p' := p1) st1.rel hwf1 hL1 hg1 hlt q1 (lp' := { lp1 with state := .busy }) rfl q3 q4 q5 q6 q7
              have st12 := Step.trans hwf o1.1 a2 win2 st1 st2
              have hgr2 := (hgr.mono st1.ext)
              have hd : a1.defers = [] := by
                cases ds2 with
                | fn _ => exact absurd d1.1 (by simp)
                | rnd bb => obtain ⟨_, _, _, hd⟩ := d1; exact hd
              obtain ⟨a3, w3, φ3, s3, l3, d3, st3⟩ := o3.2 ⟨lp.fn, kd, some L.blk⟩ φ1 a1 _ l1 ⟨L, hL1, rfl, hd⟩ st2.rel hgr2 (Win.right (o1.1.trans a2) o3.1 win3' st12)
              have hL3 := st3.ext l L hL1
              obtain ⟨cv, w4, z1, z2, z3⟩ := hst4 φ3 w3 L x.code hL3 x.jrel st3.rel
              have st123 := Step.trans hwf (o1.1.trans a2) o3.1 win3' st12 st3
              refine ⟨cv, w4, φ3, ?_, z2, Step.trans hwf ((o1.1.trans a2).trans o3.1) a4 win st123 z3⟩
              have begin_ : ∀ cs, Steps P (lone ((⟨lp.fn, kd, some L.blk⟩ : Base).at ⟨(ps.zip cl).foldl (fun tmps (x : Nat × Value) => tmps.setIfInBounds x.1 x.2) lp.tmps, []⟩ [.code as, .beginRound, .code bd]) cs w)
                  (lone ((⟨lp.fn, kd, some L.blk⟩ : Base).at a1 [.code bd]) cs { w1 with heap := w1.heap.setIfInBounds L.blk (.loop { lp1 with state := .busy }) }) := fun cs =>
                (s1 [.beginRound, .code bd] cs).trans (.one (st_beginRound rfl q1 q2))
              have ends := fun c0 cs => reach_end (P := P) (b := ⟨lp.fn, kd, some L.blk⟩) rfl s3 z1 c0 cs
              have hfr : ∀ c0, kd = c0 → Frame.round L.blk lp.fn ((ps.zip cl).foldl (fun tmps (x : Nat × Value) => tmps.setIfInBounds x.1 x.2) lp.tmps) as bd c0 =
                  (⟨lp.fn, kd, some L.blk⟩ : Base).at ⟨(ps.zip cl).foldl (fun tmps (x : Nat × Value) => tmps.setIfInBounds x.1 x.2) lp.tmps, []⟩ [.code as, .beginRound, .code bd] := fun c0 hk => by subst hk; rfl
              refine .round hy (fun hk c0 cs => ?_) (fun hk c0 cs hm => ?_)
              · rw [hfr _ hk]; exact (begin_ (c0 :: cs)).trans ((ends c0 cs).1 hk)
              · rw [hfr _ hk]; exact (begin_ (c0 :: cs)).trans ((ends c0 cs).2 hk hm)
            cases R2 with
            | fail w => cases hr
            | norm r3 ds3 h3 => exact out .norm r3 ds3 h3 hbd hr
            | ret r3 ds3 h3 => exact out .ret r3 ds3 h3 hbd hr
            | exit i r3 ds3 h3 => exact out (.exit i) r3 ds3 h3 hbd hr
          · rw [if_neg hlt] at hr; cases hr
        · cases hr
      | fail w => cases hr
      | exit i r ds h => cases hr
      | ret r ds h => cases hr
  · cases hr
end
end Go.Ai

namespace Go.Ai
open Go
set_option linter.unusedVariables false

section
variable {P : Program}
theorem run_endLoop {w : World} {l : Nat} {lp : Loop} (h : w.heap[l]? = some (.loop lp)) (hs : lp.state ≠ .busy) :
    (Instr.endLoop l).run P w = .ok lp.pending { w with heap := w.heap.setIfInBounds l (.loop { lp with state := .exhausted }) } := by
  have : ¬ (lp.state == LoopState.busy) = true := by simpa using hs
  simp only [Instr.endLoop, Sem.run_bind, run_getLoop h, Result.andThen_ok]
  rw [if_neg this]
  simp [run_setObj' h]
/-- the step that enters a loop over a function: its record is laid, the function is called -/
theorem Does.rangeFunc {b : Base} {a : Act} {k : List Item} {cs : List Frame} {w w1 w' : World} {f : Operand} {ps : Array Tmp} {as bd : Code} {l : Nat} {mark : List Deferred} {cv : Value} {s : Sem Next}
    (hl : (Instr.enterLoop b.fn a.tmps ps as bd b.rnd).run P w = .ok (l, mark) w1)
    (hs : Does P .normal s w1 cv w')
    (he : (do let d ← resolve a.eval { callee := .value f, args := #[.const (.func (.yield l) #[] #[])], argTypes := #[] } 0; invoke d.target d.args : Sem Next).run P w1 = s.run P w1) :
    Steps P (lone (b.at a (.code (.rangeFunc f ps as bd) :: k)) cs w) (lone (b.at { a with defers := mark ++ a.defers } (.endRangeFunc l :: k)) cs w') := by
  have h0 := Does.congr he hs
  have hfin : ∀ v, (b.at { a with defers := mark ++ a.defers } (.inRangeFunc l :: k)).finish v = b.at { a with defers := mark ++ a.defers } (.endRangeFunc l :: k) := fun v => rfl
  have hev : ∀ todo ds, (b.at { a with defers := ds } todo).eval = a.eval := fun todo ds => by
    rw [Base.eval_at]; funext x; cases x <;> rfl
  have hstep : (stepG P true { frame := b.at a (.code (.rangeFunc f ps as bd) :: k), callers := cs, status := .running, dying := none } w).bare =
      (stepG.apply P true (b.at { a with defers := mark ++ a.defers } (.inRangeFunc l :: k)) cs none
        (do let d ← resolve a.eval { callee := .value f, args := #[.const (.func (.yield l) #[] #[])], argTypes := #[] } 0; invoke d.target d.args) w1).bare := by
    have := hev (.inRangeFunc l :: k) (mark ++ a.defers)
    simp only [Base.at] at this
    simp only [stepG, stepG.exec, Base.at, Sem.runT_eq, hl, GStep.bare_after]
    rw [this]
  generalize (do let d ← resolve a.eval { callee := .value f, args := #[.const (.func (.yield l) #[] #[])], argTypes := #[] } 0; invoke d.target d.args : Sem Next) = s' at h0 hstep
  cases h0 with
  | value h =>
    refine .one (step_lone_go ?_)
    rw [hstep, ← hfin cv]
    simp only [stepG.apply, if_true, Sem.runT_eq, h, GStep.bare_after]
    rfl
  | skip h =>
    refine .one (step_lone_go ?_)
    rw [hstep, ← hfin undef]
    simp only [stepG.apply, if_true, Sem.runT_eq, h, GStep.bare_after]
    rfl
  | enter h hr =>
    refine .head (step_lone_go ?_) (by have := hr.normal (b.at { a with defers := mark ++ a.defers } (.inRangeFunc l :: k)) cs; rwa [hfin] at this)
    rw [hstep]
    simp only [stepG.apply, if_true, Sem.runT_eq, h, GStep.bare_after]
    rfl
  | round h hr hd =>
    refine .head (step_lone_go ?_) (by have := hr rfl (b.at { a with defers := mark ++ a.defers } (.inRangeFunc l :: k)) cs; rwa [hfin] at this)
    rw [hstep]
    simp only [stepG.apply, if_true, Sem.runT_eq, h, GStep.bare_after]
    rfl
theorem st_endRangeFunc {b : Base} {a : Act} {k : List Item} {cs : List Frame} {w : World} {l : Nat} {lp : Loop} (h : w.heap[l]? = some (.loop lp)) (hs : lp.state ≠ .busy) :
    step P (lone (b.at a (.endRangeFunc l :: k)) cs w) = .next (lone (b.at a ((lp.pending.map Item.code).toList ++ k)) cs { w with heap := w.heap.setIfInBounds l (.loop { lp with state := .exhausted }) }) :=
  step_lone_go (by simp only [stepG, stepG.exec, Base.at, Sem.runT_eq, run_endLoop h hs, GStep.bare_after]; rfl)
end
end Go.Ai

namespace Go.Ai
open Go
set_option linter.unusedVariables false

section
variable {P : Program}
def pushO (w : World) (o : Obj) : World := { w with heap := w.heap.push o }
def loopOf (fn : FuncId) (tmps : Array Value) (ps : Array Tmp) (as bd : Code) (D : Nat) : Loop := { state := .ready, pending := none, fn, tmps, params := ps, assign := as, body := bd, defers := D }
def exhaust (w : World) (l : Nat) (lp : Loop) : World := { w with heap := w.heap.setIfInBounds l (.loop { lp with state := .exhausted }) }
/-- a loop over a function, from its record's being laid to its end -/
theorem loop_core {e : E} (hE : ESim P e) (vm n : Nat) (ps : Array Tmp) (as bd : Code) (r : R3) (g : FuncId) (first captured : List AV) (h : H) (hwf : h.WF) (ds : DS) :
    (∃ w, (h.new (.loop .ready none vm n r ps.toList as bd) fun b h1 => endLoopA b (e.call g (first ++ [.func (.yield b) [] []] ++ captured) h1) r ds) = .fail w) ∨
    ∃ p h3, (h.new (.loop .ready none vm n r ps.toList as bd) fun b h1 => endLoopA b (e.call g (first ++ [.func (.yield b) [] []] ++ captured) h1) r ds) = jumpA p r ds h3 ∧ AStep h h3 ∧
      ∀ φ w fn tmps D ca cc, TRel φ vm n r tmps → RelF φ h.get w → GRel P φ → Win φ h h3 → VRels φ first ca → VRels φ captured cc →
        ∃ cv w2 φ2 lp, Does P .normal (callFunc g (ca ++ [Value.func (.yield w.heap.size) #[] #[]] ++ cc).toArray) (pushO w (.loop (loopOf fn tmps ps as bd D))) cv w2 ∧
          w2.heap[w.heap.size]? = some (.loop lp) ∧ lp.state ≠ .busy ∧ JRel p lp.pending ∧ Step φ h w φ2 h3 (exhaust w2 w.heap.size lp) := by
  simp only [H.new_eq]
  by_cases hl : h.next < maxBlocks
  · simp only [if_pos hl]
    cases hcall : e.call g (first ++ [.func (.yield h.next) [] []] ++ captured) (h.push (.loop .ready none vm n r ps.toList as bd)) with
    | fail w => exact .inl ⟨w, rfl⟩
    | ret v h2 =>
      have a1 := AStep.push hl (.loop .ready none vm n r ps.toList as bd)
      have hwf1 := a1.wf hwf
      have sim := hE.call _ _ _ _ _ hwf1 hcall
      have hwf2 := sim.1.wf hwf1
      simp only [endLoopA]
      cases hg2 : h2.get h.next with
      | loop st p vm0 n0 t0 ps0 as0 bd0 =>
        simp only
        have go : ∀ st, h2.get h.next = .loop st p vm0 n0 t0 ps0 as0 bd0 → st ≠ .busy → (∃ w, (h2.put h.next (.loop .exhausted p vm0 n0 t0 ps0 as0 bd0) fun h => jumpA p r ds h) = .fail w) ∨
            ∃ p' h3, (h2.put h.next (.loop .exhausted p vm0 n0 t0 ps0 as0 bd0) fun h => jumpA p r ds h) = jumpA p' r ds h3 ∧ AStep h h3 ∧
              ∀ φ w fn tmps D ca cc, TRel φ vm n r tmps → RelF φ h.get w → GRel P φ → Win φ h h3 → VRels φ first ca → VRels φ captured cc →
                ∃ cv w2 φ2 lp, Does P .normal (callFunc g (ca ++ [Value.func (.yield w.heap.size) #[] #[]] ++ cc).toArray) (pushO w (.loop (loopOf fn tmps ps as bd D))) cv w2 ∧
                  w2.heap[w.heap.size]? = some (.loop lp) ∧ lp.state ≠ .busy ∧ JRel p' lp.pending ∧ Step φ h w φ2 h3 (exhaust w2 w.heap.size lp) := by
          intro st hg2 hst
          rw [H.put_eq]
          by_cases hlt : h.next < h2.next
          · rw [if_pos hlt]
            have a3 := AStep.upd hlt (loop_ne_gone hg2) (.loop .exhausted p vm0 n0 t0 ps0 as0 bd0)
            refine .inr ⟨p, _, rfl, (a1.trans sim.1).trans a3, fun φ w fn tmps D ca cc ht hr hg win hca hcc => ?_⟩
            have win2 : Win φ h h2 := Win.left a3 win
            have win1 : Win φ h (h.push (.loop .ready none vm n r ps.toList as bd)) := Win.left sim.1 win2
            have hn : φ h.next = none := win1 h.next (Nat.le_refl _) (Nat.lt_succ_self _)
            have ho : ORel φ ⟨w.heap.size, 0, 0⟩ (.loop .ready none vm n r ps.toList as bd) (.loop (loopOf fn tmps ps as bd D)) := .loop (r := loopOf fn tmps ps as bd D) rfl .none ht
            have st1 := Step.new (w' := pushO w (.loop (loopOf fn tmps ps as bd D))) hr hwf hl hn ho rfl rfl rfl rfl
            have hb1 := Phi.put_same φ h.next ⟨w.heap.size, 0, 0⟩
            have hargs : VRels (φ.put h.next ⟨w.heap.size, 0, 0⟩) (first ++ [.func (.yield h.next) [] []] ++ captured) (ca ++ [Value.func (.yield w.heap.size) #[] #[]] ++ cc) :=
              ((hca.mono st1.ext).append (.cons (.func (a' := []) (c' := []) (.yield hb1) .nil .nil) .nil)).append (hcc.mono st1.ext)
            obtain ⟨cv, w2, φ2, d1, d2, st2⟩ := sim.2 .normal (.inl rfl) _ _ _ ⟨_, hargs, rfl⟩ st1.rel (hg.mono st1.ext) (Win.right a1 sim.1 win2 st1)
            have hb2 := st2.ext _ _ hb1
            obtain ⟨lp, q1, q2, q3, q4, q5, q6, q7⟩ := st2.rel.loop hb2 hg2
            have st3 := Step.loop (st' := .exhausted) (p' := p) st2.rel hwf2 hb2 hg2 hlt q1 (lp' := { lp with state := .exhausted }) rfl q3 q4 q5 q6 q7
            exact ⟨cv, w2, φ2, lp, d1, q1, by rw [q2]; exact hst, q3, Step.trans hwf (a1.trans sim.1) a3 win (Step.trans hwf a1 sim.1 win2 st1 st2) st3⟩
          · rw [if_neg hlt]; exact .inl ⟨_, rfl⟩
        cases st with
        | busy => exact .inl ⟨_, rfl⟩
        | ready => exact go _ hg2 (by simp)
        | done => exact go _ hg2 (by simp)
        | exhausted => exact go _ hg2 (by simp)
      | _ => exact .inl ⟨_, rfl⟩
  · simp only [if_neg hl]; exact .inl ⟨_, rfl⟩
theorem resolve_yield {a : Act} {f : Operand} {l g : Nat} {ca cc : List Value} (hf : a.eval f = .func (.func g) ca.toArray cc.toArray) (w : World) :
    (do let d ← resolve a.eval { callee := .value f, args := #[.const (.func (.yield l) #[] #[])], argTypes := #[] } 0; invoke d.target d.args : Sem Next).run P w =
      (callFunc g (ca ++ [Value.func (.yield l) #[] #[]] ++ cc).toArray).run P w := by
  have e1 : a.eval (.const (.func (.yield l) #[] #[])) = .func (.yield l) #[] #[] := rfl
  simp [resolve, hf, e1, Deferred.ofValue, invoke]
def jumpOut : Option AJump → AOut
  | none => .norm
  | some .ret => .ret
  | some (.exit i) => .exit i
/-- where the pending jump leads -/
theorem reach_jump {b : Base} {a a2 : Act} {w w2 : World} {c : Code} {l : Nat} {lp : Loop} {p : Option AJump} (hs : ∀ k cs, Steps P (lone (b.at a (.code c :: k)) cs w) (lone (b.at a2 (.endRangeFunc l :: k)) cs w2))
    (h1 : w2.heap[l]? = some (.loop lp)) (h2 : lp.state ≠ .busy) (hj : JRel p lp.pending) :
    Reach P b a w [.code c] (jumpOut p) a2 (exhaust w2 l lp) := by
  have s := fun k cs => (hs k cs).trans (.one (st_endRangeFunc (b := b) (a := a2) (k := k) (cs := cs) h1 h2))
  have s' : ∀ k cs, Steps P (lone (b.at a (.code c :: k)) cs w) (lone (b.at a2 ((lp.pending.map Item.code).toList ++ k)) cs (exhaust w2 l lp)) := s
  clear s
  generalize exhaust w2 l lp = w3 at s' ⊢
  generalize lp.pending = j at hj s'
  cases hj with
  | none => exact fun k cs => s' k cs
  | ret => exact fun k cs => ⟨k, s' k cs⟩
  | exit => exact fun k cs => ⟨k, rfl, s' k cs⟩
theorem resOk_jump {y : Lay} {r : R3} {ds : DS} {h h3 : H} {pre : List Item} {p : Option AJump} {ds' : DS}
    (ho : OkOut P y y [] r ds h pre (jumpOut p) [] r ds' h3) : ResOk P y y [] r ds h pre (jumpA p r ds' h3) := by
  cases p with
  | none => exact ho
  | some j => cases j <;> exact ho
theorem cmd_rangeFunc {vm n : Nat} {f : Operand} {ps : Array Tmp} {as bd : Code} : CmdOk P vm n (.rangeFunc f ps as bd) (comp P vm n (.rangeFunc f ps as bd)) := fun e hE r ds h hwf => by
  show ResOk P ⟨vm, n, []⟩ ⟨vm, n, []⟩ [] r ds h [.code (.rangeFunc f ps as bd)] (rangeA vm n ps.toList as bd ((opnd P ⟨vm, n, []⟩ f).get [] r) e r ds h)
  unfold rangeA
  split
  · rename_i g first captured hv
    simp only [appK_eq]
    have hcf : ∀ φ (a : Act), LRel φ ⟨vm, n, []⟩ [] r a.tmps → GRel P φ → ∃ ca cc, a.eval f = .func (.func g) ca.toArray cc.toArray ∧ VRels φ first ca ∧ VRels φ captured cc := by
      intro φ a hl hg
      have := opnd_rel (P := P) hl hg f
      rw [hv] at this
      generalize hvv : a.eval f = vf at this
      cases this with
      | @func _ fn' _ a' _ c' hfn ha hcap => cases hfn; exact ⟨a', c', rfl, ha, hcap⟩
    cases ds with
    | fn l =>
      simp only
      rw [H.new_eq]
      by_cases hlt : h.next < maxBlocks
      · rw [if_pos hlt]
        have a0 := AStep.push hlt .dfr
        have hwf0 := a0.wf hwf
        rcases loop_core hE vm n ps as bd r g first captured (h.push .dfr) hwf0 (.fn (.col h.next :: l)) with ⟨w, hw⟩ | ⟨p, h3, k1, k2, k3⟩
        · rw [hw]; trivial
        · rw [k1]
          refine resOk_jump ⟨a0.trans k2, fun b φ a w hl hd hr hg win => ?_⟩
          obtain ⟨ca, cc, hf, hca, hcc⟩ := hcf φ a hl hg
          have win0 : Win φ h (h.push .dfr) := Win.left k2 win
          have hn : φ h.next = none := win0 h.next (Nat.le_refl _) (Nat.lt_succ_self _)
          have st0 := Step.new (w' := pushO w (.deferred (some []))) (sz := 0) (O := .deferred (some [])) hr hwf hlt hn .dfr rfl rfl rfl rfl
          obtain ⟨cv, w2, φ2, lp, d1, d2, d3, d4, st2⟩ := k3 _ (pushO w (.deferred (some []))) b.fn a.tmps w.heap.size ca cc (hl.mono st0.ext).trel st0.rel (hg.mono st0.ext) (Win.right a0 k2 win st0) (hca.mono st0.ext) (hcc.mono st0.ext)
          have hsz : (pushO w (.deferred (some []))).heap.size = w.heap.size + 1 := by simp [pushO]
          have hrnd := hd.1
          have hen : (Instr.enterLoop b.fn a.tmps ps as bd b.rnd).run P w = .ok (w.heap.size + 1, [{ target := .collected w.heap.size, args := #[] }]) (pushO (pushO w (.deferred (some []))) (.loop (loopOf b.fn a.tmps ps as bd w.heap.size))) := by
            rw [hrnd]
            simp [Instr.enterLoop, newObj, Sem.run, pushO, loopOf]
            rfl
          have hst := Step.trans hwf a0 k2 win st0 st2
          rw [hsz] at d1 d2 hst
          refine ⟨{ a with defers := { target := .collected w.heap.size, args := #[] } :: a.defers }, _, φ2, reach_jump (fun k cs => Does.rangeFunc hen d1 (resolve_yield hf _)) d2 d3 d4, (hl.mono hst.ext), ⟨hrnd, .cons (.col (l := ⟨w.heap.size, 0, 0⟩) ?_) (hd.2.mono hst.ext)⟩, hst⟩
          exact st2.ext _ _ (Phi.put_same _ _ _)
      · rw [if_neg hlt]; trivial
    | rnd bb =>
      simp only
      split
      · rename_i st0 p0 vm0 n0 t0 ps0 as0 bd0 hgb
        rcases loop_core hE vm n ps as bd r g first captured h hwf (.rnd bb) with ⟨w, hw⟩ | ⟨p, h3, k1, k2, k3⟩
        · rw [hw]; trivial
        · rw [k1]
          refine resOk_jump ⟨k2, fun b φ a w hl hd hr hg win => ?_⟩
          obtain ⟨ca, cc, hf, hca, hcc⟩ := hcf φ a hl hg
          obtain ⟨L, hL, hrnd, hds⟩ := hd
          obtain ⟨lp0, q1, _⟩ := hr.loop hL hgb
          obtain ⟨cv, w2, φ2, lp, d1, d2, d3, d4, st2⟩ := k3 φ w b.fn a.tmps lp0.defers ca cc hl.trel hr hg win hca hcc
          have hen : (Instr.enterLoop b.fn a.tmps ps as bd b.rnd).run P w = .ok (w.heap.size, []) (pushO w (.loop (loopOf b.fn a.tmps ps as bd lp0.defers))) := by
            rw [hrnd]
            simp [Instr.enterLoop, run_getLoop q1, newObj, Sem.run, pushO, loopOf]
          refine ⟨a, _, φ2, reach_jump (fun k cs => ?_) d2 d3 d4, hl.mono st2.ext, ⟨L, st2.ext _ _ hL, hrnd, hds⟩, st2⟩
          have := Does.rangeFunc (b := b) (a := a) (k := k) (cs := cs) hen d1 (resolve_yield hf _)
          simpa using this
      · trivial
  · trivial
end
end Go.Ai

namespace Go.Ai
open Go
set_option linter.unusedVariables false

def OpS.xs : OpS → List Operand
  | .bad _ => []
  | .h0 _ => []
  | .h1 x _ => [x]
  | .h2 x y _ => [x, y]
  | .h3 x y z _ => [x, y, z]
  | .hn xs _ => xs
  | .call _ xs => xs
  | .callv f xs => f :: xs
  | .invoke r _ xs => r :: xs
  | .deferv f xs => f :: xs
  | .deferi r _ xs => r :: xs

section
variable {P : Program}
def XsIn (q : OpS) (l : List Operand) : Prop := ∀ z ∈ q.xs, z ∈ l
theorem appendP_xs (el : TypeId) (s x : Operand) : XsIn (appendP P el s x) [s, x] := by
  unfold appendP
  (repeat' split) <;> simp [XsIn, OpS.xs]
theorem builtinP_xs (b : Builtin) (args : List Operand) (ats : List TypeId) : XsIn (builtinP P b args ats) args := by
  unfold builtinP
  (repeat' split) <;> first | exact appendP_xs _ _ _ | simp [XsIn, OpS.xs]
theorem semP_xs' (o : Oper) : XsIn (semP P o) o.op.operands.toList := by
  unfold semP
  generalize o.op = op
  cases op
  case call cl =>
    simp only
    split
    · intro z hz
      have := builtinP_xs _ _ _ z hz
      simp only [Op.operands, Call.operands]
      simp; right; simpa using this
    · rename_i f hc
      simp only [Op.operands, Call.operands, hc]
      split <;> simp [XsIn, OpS.xs]
      intro z hz; exact .inr hz
    · rename_i r n hc
      simp [XsIn, OpS.xs, Op.operands, Call.operands, hc]
  case defer cl =>
    simp only
    split
    · rename_i f hc
      simp [XsIn, OpS.xs, Op.operands, Call.operands, hc]
    · rename_i r n hc
      simp [XsIn, OpS.xs, Op.operands, Call.operands, hc]
    · simp [XsIn, OpS.xs]
  case slice ty x lo hi mx =>
    simp only
    (repeat' split) <;> simp [XsIn, OpS.xs, Op.operands] <;> (intro z hz; first | (rcases hz with h | h | h <;> simp [h]) | (rcases hz with h | h <;> simp [h]))
  case next it b => cases b <;> simp [XsIn, OpS.xs, Op.operands]
  all_goals (try simp only)
  all_goals (repeat' split) <;> simp [XsIn, OpS.xs, Op.operands]
theorem semP_xs (o : Oper) : ∀ x ∈ (semP P o).xs, x ∈ o.op.operands.toList := semP_xs' o
end
end Go.Ai
