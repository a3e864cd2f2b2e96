
/- Lists of floats, tables, matrices in blocks; the narrowing, the widening, the root as steps of a walk. Nothing of the program. -/

import Derived.Test.YtkifpligpobiaaaF2

import Derived.Maps.AppendAt
set_option linter.unusedVariables false
set_option linter.unusedSimpArgs false

namespace Go.Proofs.Ytkifpligpobiaaa

open Go.RowKit

def flts (xs : List Nat) : List Value := xs.map fun x => .float .f32 x
theorem flts_length (xs : List Nat) : (flts xs).length = xs.length := by simp [flts]
def rdf (xs : List Nat) (i : Int) : Nat := xs.getD i.toNat 0
theorem rdf_get {xs : List Nat} {k : Nat} (h : k < xs.length) : rdf xs k = xs[k] := by simp [rdf, h]
theorem flts_append (xs ys : List Nat) : flts (xs ++ ys) = flts xs ++ flts ys := by simp [flts]
theorem flts_replicate (n : Nat) (x : Nat) : flts (List.replicate n x) = List.replicate n (.float .f32 x) := by simp [flts]
theorem flts_get {xs : List Nat} {j : Nat} (h : j < xs.length) : (flts xs)[j]? = some (.float .f32 (rdf xs j)) := by simp [flts, rdf, h]
theorem flts_set (xs : List Nat) (j : Nat) (x : Nat) : flts (xs.set j x) = (flts xs).set j (.float .f32 x) := by simp [flts, List.map_set]
theorem Rds.flt {w : World} {A : Option Addr} {n : Nat} {xs : List Nat} (h : Rds w A n (flts xs)) (i : Int) (h0 : 0 ≤ i) (h1 : i < n) : ∃ ad, A = some ad ∧ w.cell? (ad.add i.toNat) = some (.float .f32 (rdf xs i)) := by
  obtain ⟨ad, e, hc⟩ := h.at' (by omega)
  refine ⟨ad, e, ?_⟩
  have hl : i.toNat < xs.length := by have := h.len; rw [flts_length] at this; omega
  rw [hc _ (by omega)]
  simp [flts, rdf, hl]
theorem Rds.fltN {w : World} {A : Option Addr} {n : Nat} {xs : List Nat} (h : Rds w A n (flts xs)) (k : Nat) (h1 : k < n) : ∃ ad, A = some ad ∧ w.cell? (ad.add k) = some (.float .f32 (rdf xs k)) := by
  obtain ⟨ad, e, hc⟩ := h.flt k (by omega) (by omega)
  exact ⟨ad, e, by simpa using hc⟩
theorem Rds.flen {w : World} {A : Option Addr} {n : Nat} {xs : List Nat} (h : Rds w A n (flts xs)) : xs.length = n := by have := h.len; rwa [flts_length] at this

/-- A float32 up to what a NaN's bits say. -/
abbrev c32 (x : Nat) : Option Nat := cf .f32 x
def cfs (xs : List Nat) : List (Option Nat) := xs.map c32
theorem cfs_length (xs : List Nat) : (cfs xs).length = xs.length := by simp [cfs]
theorem cfs_append (xs ys : List Nat) : cfs (xs ++ ys) = cfs xs ++ cfs ys := by simp [cfs]
theorem cfs_set (xs : List Nat) (j x : Nat) : cfs (xs.set j x) = (cfs xs).set j (c32 x) := by simp [cfs, List.map_set]
def rdo (xs : List (Option Nat)) (i : Nat) : Option Nat := xs.getD i none
theorem rdo_cfs {xs : List Nat} {i : Nat} (h : i < xs.length) : rdo (cfs xs) i = c32 (rdf xs i) := by simp [rdo, cfs, rdf, h]
abbrev fadd (a b : Option Nat) : Option Nat := fop .add .f32 a b
abbrev fsub (a b : Option Nat) : Option Nat := fop .sub .f32 a b
abbrev fmul (a b : Option Nat) : Option Nat := fop .mul .f32 a b
abbrev fdiv (a b : Option Nat) : Option Nat := fop .quo .f32 a b
/-- How two numbers stand to each other. -/
def fcmp (a b : Option Nat) : Option Ordering := a.bind fun x => b.bind fun y => FloatKind.f32.format.order x y
theorem order_nan' {k : FloatKind} {r y : Nat} (h : cf k y = none) : k.format.order r y = none := by
  obtain ⟨s, t, e⟩ := isNaN_iff.1 (cf_none.1 h)
  unfold Ieee.Format.order
  rw [e]
  cases k.format.read r <;> simp [Ieee.Datum.order]
theorem fcmp_cf (x y : Nat) : fcmp (c32 x) (c32 y) = FloatKind.f32.format.order x y := by
  unfold fcmp
  cases h1 : c32 x with
  | none => exact (order_nan h1).symm
  | some a =>
    obtain ⟨rfl, _⟩ := cf_some h1
    cases h2 : c32 y with
    | none => exact (order_nan' h2).symm
    | some b => obtain ⟨rfl, _⟩ := cf_some h2; rfl
theorem isFin_c32 {x : Nat} (h : isFin .f32 x = true) : c32 x = some x := by
  unfold c32 cf
  unfold isFin at h
  split at h
  · rename_i hd
    rw [if_neg]
    rw [hd]; simp [Ieee.Datum.isNaN]
  · cases h
/-- Whether a number is finite. -/
def finO (a : Option Nat) : Bool := match a with
  | some x => isFin .f32 x
  | none => false
theorem finO_cf (x : Nat) : finO (c32 x) = isFin .f32 x := by
  cases h : c32 x with
  | none =>
    obtain ⟨s, t, e⟩ := isNaN_iff.1 (cf_none.1 h)
    unfold finO isFin
    rw [e]
  | some a => obtain ⟨rfl, _⟩ := cf_some h; rfl
theorem c32_0 : c32 0 = some 0 := by decide

/-- The first m things of a table with C columns. -/
def tab {α : Type} (C : Nat) (F : Nat → Nat → α) (m : Nat) : List α := (List.range m).map fun j => F (j / C) (j % C)
theorem tab_zero {α : Type} (C : Nat) (F : Nat → Nat → α) : tab C F 0 = [] := rfl
theorem tab_length {α : Type} (C : Nat) (F : Nat → Nat → α) (m : Nat) : (tab C F m).length = m := by simp [tab]
theorem tab_next {α : Type} {C : Nat} (F : Nat → Nat → α) (m : Nat) : tab C F m ++ [F (m / C) (m % C)] = tab C F (m + 1) := by
  unfold tab
  rw [List.range_succ, List.map_append]
  rfl
theorem tab_succ {α : Type} {C : Nat} (F : Nat → Nat → α) (i k : Nat) (hk : k < C) : tab C F (i * C + k) ++ [F i k] = tab C F (i * C + (k + 1)) := by
  have h1 : (i * C + k) / C = i := by
    rw [Nat.mul_comm, Nat.mul_add_div (by omega), Nat.div_eq_of_lt hk]; rfl
  have h2 : (i * C + k) % C = k := by
    rw [Nat.mul_comm, Nat.mul_add_mod, Nat.mod_eq_of_lt hk]
  have := tab_next F (i * C + k) (C := C)
  rw [h1, h2] at this
  exact this
theorem tab_set {α : Type} {C m : Nat} {F F' : Nat → Nat → α} {i k : Nat} {y : α} (hk : k < C) (hm : i * C + k < m) (hy : F' i k = y) (h : ∀ a b, b < C → (a ≠ i ∨ b ≠ k) → F' a b = F a b) : (tab C F m).set (i * C + k) y = tab C F' m := by
  apply List.ext_getElem
  · simp [tab]
  intro j h1 h2
  have hj : j < m := by simpa [tab] using h2
  rw [List.getElem_set]
  simp only [tab, List.getElem_map, List.getElem_range]
  have hd := Nat.div_add_mod j C
  have hml := Nat.mod_lt j (show 0 < C by omega)
  split
  · rename_i e
    have h1 : (i * C + k) / C = i := by
      rw [Nat.mul_comm, Nat.mul_add_div (by omega), Nat.div_eq_of_lt hk]; rfl
    have h2 : (i * C + k) % C = k := by
      rw [Nat.mul_comm, Nat.mul_add_mod, Nat.mod_eq_of_lt hk]
    rw [← e, h1, h2, hy]
  · rename_i e
    rw [h _ _ hml]
    by_cases e1 : j / C = i
    · right
      intro e2
      apply e
      rw [← hd, e1, e2, Nat.mul_comm]
    · exact .inl e1
theorem tab_const {α : Type} (C m : Nat) (z : α) : tab C (fun _ _ => z) m = List.replicate m z := by
  simp [tab, List.map_const']
theorem tab_congr {α : Type} {C R : Nat} {F F' : Nat → Nat → α} (h : ∀ a b, a < R → b < C → F a b = F' a b) : tab C F (R * C) = tab C F' (R * C) := by
  unfold tab
  apply List.map_congr_left
  intro j hj
  rw [List.mem_range] at hj
  have hC : 0 < C := by
    rcases Nat.eq_zero_or_pos C with h0 | h0
    · subst h0; omega
    · exact h0
  exact h _ _ ((Nat.div_lt_iff_lt_mul hC).2 hj) (Nat.mod_lt _ hC)
/-- The number in a row and a column. -/
def at_ (xs : List Nat) (C i k : Nat) : Nat := rdf xs ((i : Int) * C + k)
/-- The index of a number. -/
theorem ix_facts {R C i k n : Nat} (hi : i < R) (hk : k < C) (hR : R ≤ 12) (hC : C ≤ 12) (hn : n = R * C) :
    0 ≤ (i : Int) * C ∧ (i : Int) * C ≤ 132 ∧ 0 ≤ (i : Int) * C + k ∧ (i : Int) * C + k < n ∧ n ≤ 144 ∧ ((i : Int) * C + k).toNat = i * C + k ∧ IntKind.i64.wrap ((i : Int) * C) = (i : Int) * C ∧ IntKind.i64.wrap ((i : Int) * C + k) = (i : Int) * C + k := by
  have h1 : i * C ≤ 11 * C := Nat.mul_le_mul_right _ (by omega)
  have h2 : (i + 1) * C ≤ R * C := Nat.mul_le_mul_right _ (by omega)
  have h3 : R * C ≤ 12 * C := Nat.mul_le_mul_right _ hR
  have e : (i : Int) * C = ((i * C : Nat) : Int) := by simp
  rw [Nat.succ_mul] at h2
  rw [e]
  refine ⟨by omega, by omega, by omega, by omega, by omega, by omega, IntWalk.i64_in _ (by omega), IntWalk.i64_in _ (by omega)⟩

section

variable {P : Program}

/-- The one cell of a block, as a slice. -/
def One (w : World) (v : Value) (y : Value) (e : TypeId) : Prop := ∀ g, v = .slice (some ⟨g, 0, none⟩) 1 1 → Blk w g #[y] e
theorem One.ext {w w' : World} {v y : Value} {e : TypeId} (h : One w v y e) (hx : Ext w w') : One w' v y e := fun g hg => (h g hg).ext hx
theorem One.new (w : World) (y : Value) (e : TypeId) : One (w.alloc (.cells #[y] e)) (.slice (some ⟨w.heap.size, 0, none⟩) 1 1) y e := by
  intro g hg
  simp only [Value.slice.injEq, Option.some.injEq, Addr.mk.injEq, and_true] at hg
  subst hg
  exact Blk.new _ _ _
/-- One more element behind a row of the call's own. -/
theorem wpList_app1 {ops : Array Oper} {rest : List Oper} {o : Oper} {a : Act} {Q : Exit → Act → World → Prop} (hgd : o.guard = none) (s x : Operand) (t : TypeId)
    (ho : o.op = .call { callee := .builtin .append, args := #[s, x], argTypes := #[t, t] })
    (W : World) (base : Nat) (e : TypeId) (z : Value) (bytes : Nat) (ht : P.underlying t = some (.slice e)) (hi : (P.info? e).map (fun i => (i.zero, i.size, i.bytes)) = some (some z, 1, bytes)) (hz : z.cells.size = 1) (hby : bytes ≤ 16)
    (v : Value) (vs : List Value) (hs : a.eval s = v) (g : Nat) (y : Value) (hx : a.eval x = .slice (some ⟨g, 0, none⟩) 1 1) (hg : One W (.slice (some ⟨g, 0, none⟩) 1 1) y e) (hown : Own W base e v vs) (hy : y.oneCell' = true) (hl : vs.length + 1 ≤ 1048576) (hb : base ≤ W.heap.size)
    (h : ∀ A k w', Own w' base e (.slice A (vs.length + 1) k) (vs ++ [y]) → Wr W w' v → ((Value.slice A (vs.length + 1) k).ownBlock = v.ownBlock ∨ (Value.slice A (vs.length + 1) k).ownBlock = some W.heap.size) → wpList P ops Q rest (a.put o.dst (.slice A (vs.length + 1) k)) w') :
    wpList P ops Q (o :: rest) a W := by
  obtain ⟨i0, hi0, hz0, hz1, hz2⟩ := info_parts hi
  refine wpList_append_own_at _ hgd s x t ho base e i0 z 1 bytes ht hi0 hz0 hz1 hz2 hz (by decide) v vs.length vs hs hown.row ⟨g, 0, none⟩ 1 1 [y] hx rfl ?_ (by intro u hu; simp at hu; subst hu; exact hy) (by unfold maxLen; omega) (Nat.le_trans (Nat.mul_le_mul_left _ hby) (by omega)) hb ?_
  · intro j u hj
    match j, hj with
    | 0, hj =>
      simp at hj
      subst hj
      exact (hg g rfl).cell 0 rfl
  intro v' w1 h1 h2 _ h4
  have ho' : Own w1 base e v' (vs ++ [y]) := ⟨by simpa using h1, by simp; omega⟩
  obtain ⟨A, k, e1, _⟩ := ho'.rds
  rw [List.length_append] at e1
  subst e1
  exact h A k w1 ho' h2 h4
end

section

variable {P : Program}

/-- More elements behind a row of the call's own. -/
theorem wpList_appN {ops : Array Oper} {rest : List Oper} {o : Oper} {a : Act} {Q : Exit → Act → World → Prop} (hgd : o.guard = none) (s x : Operand) (t : TypeId)
    (ho : o.op = .call { callee := .builtin .append, args := #[s, x], argTypes := #[t, t] })
    (W : World) (base : Nat) (e : TypeId) (z : Value) (bytes : Nat) (ht : P.underlying t = some (.slice e)) (hi : (P.info? e).map (fun i => (i.zero, i.size, i.bytes)) = some (some z, 1, bytes)) (hz : z.cells.size = 1) (hby : bytes ≤ 16)
    (v : Value) (vs : List Value) (hs : a.eval s = v) (ad : Addr) (m c : Nat) (ys : List Value) (hx : a.eval x = .slice (some ad) m c) (hm : ys.length = m) (hc : ∀ j u, ys[j]? = some u → W.cell? (ad.add j) = some u)
    (hown : Own W base e v vs) (hy : ∀ u ∈ ys, u.oneCell' = true) (hl : vs.length + m ≤ 1048576) (hb : base ≤ W.heap.size)
    (h : ∀ A k w', Own w' base e (.slice A (vs.length + m) k) (vs ++ ys) → Wr W w' v → ((Value.slice A (vs.length + m) k).ownBlock = v.ownBlock ∨ (Value.slice A (vs.length + m) k).ownBlock = some W.heap.size) → wpList P ops Q rest (a.put o.dst (.slice A (vs.length + m) k)) w') :
    wpList P ops Q (o :: rest) a W := by
  obtain ⟨i0, hi0, hz0, hz1, hz2⟩ := info_parts hi
  refine wpList_append_own_at _ hgd s x t ho base e i0 z 1 bytes ht hi0 hz0 hz1 hz2 hz (by decide) v vs.length vs hs hown.row ad m c ys hx (by rw [Nat.mul_one]; exact hm) hc hy (by unfold maxLen; omega) (Nat.le_trans (Nat.mul_le_mul_left _ hby) (by omega)) hb ?_
  intro v' w1 h1 h2 _ h4
  have ho' : Own w1 base e v' (vs ++ ys) := ⟨by rw [List.length_append, hm]; exact h1, by simp; omega⟩
  obtain ⟨A, k, e1, _⟩ := ho'.rds
  rw [List.length_append, hm] at e1
  subst e1
  exact h A k w1 ho' h2 h4
end

theorem Own.empty (w : World) (e : TypeId) : Own (w.alloc (.cells #[] e)) w.heap.size e (.slice (some ⟨w.heap.size, 0, none⟩) 0 0) [] :=
  ⟨World.ownsRow_made w #[] 0 (Nat.le_refl _) (Nat.zero_le _) rfl, by simp⟩
theorem Own.cap {w : World} {base : Nat} {e : TypeId} {A : Option Addr} {n cap : Nat} {vs : List Value} (h : Own w base e (.slice A n cap) vs) : n ≤ cap := by
  rcases h.row.2 with ⟨h1, h0⟩ | ⟨g, cap', cur, h1, _, _, h2, _⟩
  · simp only [Value.slice.injEq] at h1; omega
  · simp only [Value.slice.injEq] at h1; have := h.len; omega

/-! ### A conversion between the float kinds -/

theorem cf_nanConv (k : FloatKind) (b t : Nat) : cf k ((Question.nanConv k b).cut t) = none := by
  cases k
  · exact cf_nan32 t
  · exact cf_nan64 t
theorem nanConv64_lt (b t : Nat) : (Question.nanConv .f64 b).cut t < 18446744073709551616 := by
  show (t % 2) * 2 ^ 63 + 0x7ff0000000000000 + 1 + (t / 2) % (2 ^ 52 - 1) < _
  have h1 := Nat.mod_lt (t / 2) (show 0 < 2 ^ 52 - 1 by omega)
  omega
theorem nanConv32_lt (b t : Nat) : (Question.nanConv .f32 b).cut t < 4294967296 := by
  show (t % 2) * 2 ^ 31 + 0x7f800000 + 1 + (t / 2) % (2 ^ 23 - 1) < _
  have h1 := Nat.mod_lt (t / 2) (show 0 < 2 ^ 23 - 1 by omega)
  omega
theorem cf_write (k : FloatKind) {d : Ieee.Datum} (h : d.isNaN = false) : cf k (k.format.write d) = some (k.format.write d) := by
  unfold cf
  rw [read_write k d h]
  rfl
theorem wide_cf {x y : Nat} (h : wide x = some y) : cf .f64 y = some y ∧ y < 18446744073709551616 := by
  cases hd : FloatKind.f32.format.read x with
  | number s m e =>
    rw [(wide_num hd).1] at h
    obtain rfl := Option.some.inj h
    exact ⟨cf_write .f64 rfl, FloatKind.f64.format.write_lt _⟩
  | infinity s =>
    rw [wide_inf hd] at h
    obtain rfl := Option.some.inj h
    exact ⟨cf_write .f64 rfl, FloatKind.f64.format.write_lt _⟩
  | nan s t => rw [wide_nan (cf_none.2 (isNaN_iff.2 ⟨s, t, hd⟩))] at h; cases h
theorem narrow_cf {x y : Nat} (h : narrow x = some y) : cf .f32 y = some y ∧ y < 4294967296 := by
  unfold narrow floatToFloatBits at h
  rw [if_neg (by decide)] at h
  split at h
  · cases h
  · obtain rfl := Option.some.inj h
    exact ⟨cf_write .f32 rfl, FloatKind.f32.format.write_lt _⟩
  · split at h
    · cases h
    · obtain rfl := Option.some.inj h
      exact ⟨cf_write .f32 rfl, FloatKind.f32.format.write_lt _⟩
theorem wide_none {x : Nat} (h : wide x = none) : (FloatKind.f32.format.read x).isNaN = true := by
  cases hd : FloatKind.f32.format.read x with
  | number s m e => rw [(wide_num hd).1] at h; cases h
  | infinity s => rw [wide_inf hd] at h; cases h
  | nan s t => rfl

theorem run_conv {P : Program} (src dst : TypeId) (s k : FloatKind) (b : Nat) (w : World) (hs : (P.underlying src).isSome = true) (hd : P.underlying dst = some (.float k)) (hne : s ≠ k)
    (hn : floatToFloatBits s b k = none → (s.format.read b).isNaN = true) (hc : ∀ r, floatToFloatBits s b k = some r → cf k r = some r) :
    ∃ r w', (convert src dst (.float s b)).run P w = .ok (.float k r) w' ∧ Ext w w' ∧ cf k r = floatToFloatBits s b k ∧ (floatToFloatBits s b k = none → ∃ t, r = (Question.nanConv k b).cut t) := by
  cases h : floatToFloatBits s b k with
  | some r => exact ⟨r, w, run_convert_float_float w src dst s k b r hs hd h, Ext.refl _, hc r h, fun h => by cases h⟩
  | none =>
    obtain ⟨sg, t, e⟩ := isNaN_iff.1 (hn h)
    have e' : s.decode b = .nan sg t := e
    obtain ⟨u, hs'⟩ := Option.isSome_iff_exists.1 hs
    refine ⟨(Question.nanConv k b).cut (w.tape w.drawn (Question.nanConv k b)), w.drew, ?_, (Ext.refl w).drew, cf_nanConv _ _ _, fun _ => ⟨_, rfl⟩⟩
    cases u <;> simp [convert, run_underlying hs', run_underlying hd, Conv.floatToFloat, hne, e', Sem.run_bind, Question.forced]
theorem run_widen {P : Program} (src dst : TypeId) (x : Nat) (w : World) (hs : (P.underlying src).isSome = true) (hd : P.underlying dst = some (.float .f64)) :
    ∃ r w', (convert src dst (.float .f32 x)).run P w = .ok (.float .f64 r) w' ∧ Ext w w' ∧ cf .f64 r = wide x ∧ r < 18446744073709551616 := by
  obtain ⟨r, w', h1, h2, h3, h4⟩ := run_conv (P := P) src dst .f32 .f64 x w hs hd (by decide) wide_none (fun r h => (wide_cf h).1)
  refine ⟨r, w', h1, h2, h3, ?_⟩
  cases h : wide x with
  | none =>
    obtain ⟨t, rfl⟩ := h4 h
    exact nanConv64_lt _ _
  | some y =>
    have h3' : cf .f64 r = wide x := h3
    rw [h] at h3'
    obtain ⟨rfl, _⟩ := cf_some h3'
    exact (wide_cf h).2
theorem run_narrow {P : Program} (src dst : TypeId) (x : Nat) (w : World) (hs : (P.underlying src).isSome = true) (hd : P.underlying dst = some (.float .f32)) (hn : narrow x = none → cf .f64 x = none) :
    ∃ r w', (convert src dst (.float .f64 x)).run P w = .ok (.float .f32 r) w' ∧ Ext w w' ∧ cf .f32 r = narrow x ∧ r < 4294967296 := by
  obtain ⟨r, w', h1, h2, h3, h4⟩ := run_conv (P := P) src dst .f64 .f32 x w hs hd (by decide) (fun h => cf_none.1 (hn h)) (fun r h => (narrow_cf h).1)
  refine ⟨r, w', h1, h2, h3, ?_⟩
  cases h : narrow x with
  | none =>
    obtain ⟨t, rfl⟩ := h4 h
    exact nanConv32_lt _ _
  | some y =>
    have h3' : cf .f32 r = narrow x := h3
    rw [h] at h3'
    obtain ⟨rfl, _⟩ := cf_some h3'
    exact (narrow_cf h).2

/-! ### Roots, finite ones -/

theorem isFin_wide {x r : Nat} (h : cf .f64 r = wide x) : isFin .f64 r = isFin .f32 x := by
  cases hd : FloatKind.f32.format.read x with
  | number s m e =>
    obtain ⟨h1, h2⟩ := wide_num hd
    rw [h1] at h
    obtain ⟨rfl, _⟩ := cf_some h
    rw [h2]
    unfold isFin
    rw [hd]
  | infinity s =>
    rw [wide_inf hd] at h
    obtain ⟨rfl, _⟩ := cf_some h
    have : FloatKind.f64.format.read (FloatKind.f64.format.write (.infinity s)) = .infinity s := read_infRung .f64 s
    unfold isFin
    rw [this, hd]
  | nan s t =>
    rw [wide_nan (cf_none.2 (isNaN_iff.2 ⟨s, t, hd⟩))] at h
    obtain ⟨s', t', e⟩ := isNaN_iff.1 (cf_none.1 h)
    unfold isFin
    rw [e, hd]
theorem signed_false (m k : Nat) : Ieee.signed false m k = ((m <<< k : Nat) : Int) := by unfold Ieee.signed; rw [if_neg (by simp)]
/-- What is greater than the greatest number of f64. -/
theorem inf_test (x : Nat) (hx : x < 18446744073709551616) (hn : (FloatKind.f64.format.read x).isNaN = false) : (FloatKind.f64.format.order (x % 9223372036854775808) 9218868437227405311 == some .gt) = !isFin .f64 x := by
  have e2 : FloatKind.f64.format.signWeight = 9223372036854775808 := rfl
  have hmax : FloatKind.f64.format.read 9218868437227405311 = .number false 9007199254740991 971 := by decide
  cases hd : FloatKind.f64.format.read x with
  | number s m e =>
    obtain ⟨a1, a2, a3, a4, a5, a6⟩ := read_spec .f64 hd
    obtain ⟨s', m', e', hd'⟩ := read_less .f64 false (x % FloatKind.f64.format.signWeight) a6
    have hw : FloatKind.f64.format.word false (x % FloatKind.f64.format.signWeight) = x % 9223372036854775808 := rfl
    rw [hw] at hd'
    obtain ⟨b1, b2, b3, b4, b5, b6⟩ := read_spec .f64 hd'
    have hs' : s' = false := by
      rw [b3, e2]
      have : x % 9223372036854775808 / 9223372036854775808 = 0 := Nat.div_eq_of_lt (Nat.mod_lt _ (by omega))
      rw [this]
      rfl
    have hB : FloatKind.f64.format.binade = 4503599627370496 := rfl
    have hL : FloatKind.f64.format.leastPlace = -1074 := rfl
    have hI : FloatKind.f64.format.infRung = 9218868437227405312 := rfl
    rw [hB] at b1 b4
    rw [hL] at b2 b4
    rw [hI] at b6
    rw [e2] at b4 b6
    have he : e' ≤ 971 := by
      have : (e' - -1074).toNat * 4503599627370496 ≤ x % 9223372036854775808 % 9223372036854775808 := by omega
      have : (e' - -1074).toNat < 2047 := by omega
      have h5 := b5
      rw [hL, hB] at h5
      omega
    unfold Ieee.Format.order isFin
    rw [hd', hmax, hd, hs']
    simp only [Ieee.Datum.order]
    have hmin : min e' 971 = e' := by omega
    rw [hmin, signed_false, signed_false]
    have z : (e' - e').toNat = 0 := by omega
    rw [z, Nat.shiftLeft_zero]
    have hle : m' ≤ 9007199254740991 <<< (971 - e').toNat := by
      rw [Nat.shiftLeft_eq]
      have := Nat.two_pow_pos (971 - e').toNat
      calc m' ≤ 9007199254740991 * 1 := by omega
        _ ≤ _ := Nat.mul_le_mul_left _ this
    have hc : compare (m' : Int) ((9007199254740991 <<< (971 - e').toNat : Nat) : Int) ≠ .gt := by
      intro hg
      rw [Int.compare_eq_gt] at hg
      omega
    cases hcc : compare (m' : Int) ((9007199254740991 <<< (971 - e').toNat : Nat) : Int) with
    | gt => exact absurd hcc hc
    | lt => rfl
    | eq => rfl
  | infinity s =>
    have h1 := read_inf .f64 hd
    rw [e2] at h1
    have h2 : FloatKind.f64.format.read (x % 9223372036854775808) = .infinity false := by rw [h1]; exact read_infRung .f64 false
    unfold Ieee.Format.order isFin
    rw [h2, hmax, hd]
    rfl
  | nan s t => rw [hd] at hn; cases hn

theorem root_datum_nan {d r : Ieee.Datum} {n : Nat} (h : d.root n = some r) : r.isNaN = false := by
  cases d <;> simp only [Ieee.Datum.root] at h
  · split at h
    · cases h; rfl
    · split at h
      · cases h
      · cases h; rfl
  · split at h
    · cases h
    · cases h; rfl
  · cases h
theorem sqrt_cf {y z : Nat} (h : FloatKind.f64.format.sqrt y = some z) : cf .f64 z = some z ∧ z < 18446744073709551616 := by
  refine ⟨?_, FloatKind.f64.format.sqrt_lt h⟩
  unfold Ieee.Format.sqrt at h
  cases hr : (FloatKind.f64.format.read y).root (FloatKind.f64.format.fractionBits + 2) with
  | none => rw [hr] at h; cases h
  | some d =>
    rw [hr] at h
    obtain rfl := Option.some.inj h
    exact cf_write .f64 (root_datum_nan hr)
theorem sqrt_nan {y : Nat} (h : cf .f64 y = none) : FloatKind.f64.format.sqrt y = none := by
  obtain ⟨s, t, e⟩ := isNaN_iff.1 (cf_none.1 h)
  unfold Ieee.Format.sqrt
  rw [e]
  rfl
theorem root_ok {x y z : Nat} (hy : wide x = some y) (hz : FloatKind.f64.format.sqrt y = some z) : ∃ r, narrow z = some r := by
  cases hd : FloatKind.f32.format.read x with
  | number s m e =>
    by_cases hm : m = 0
    · subst hm
      have hy' := (wide_num hd).1
      rw [hy] at hy'
      have hyw : y = FloatKind.f64.format.word s 0 := by
        have := Option.some.inj hy'
        rw [this]
        show FloatKind.f64.format.nearest s 0 e = _
        unfold Ieee.Format.nearest
        rw [if_pos rfl]
      obtain ⟨s', m', e', hr⟩ := read_less .f64 s 0 (by decide)
      rw [← hyw] at hr
      obtain ⟨a1, a2, a3, a4, a5, a6⟩ := read_spec .f64 hr
      have hm0 : m' = 0 := by
        have h0 : y % FloatKind.f64.format.signWeight = 0 := by rw [hyw]; exact word_mod .f64 s (Nat.zero_le _)
        omega
      subst hm0
      unfold Ieee.Format.sqrt at hz
      rw [hr] at hz
      simp only [Ieee.Datum.root] at hz
      rw [if_pos trivial] at hz
      obtain rfl := Option.some.inj hz
      have hzw : FloatKind.f64.format.write (.number s' 0 e') = FloatKind.f64.format.word s' 0 := by
        show FloatKind.f64.format.nearest s' 0 e' = _
        unfold Ieee.Format.nearest
        rw [if_pos rfl]
      rw [hzw]
      obtain ⟨s2, m2, e2, hr2⟩ := read_less .f64 s' 0 (by decide)
      obtain ⟨c1, c2, c3, c4, c5, c6⟩ := read_spec .f64 hr2
      have hm2 : m2 = 0 := by
        have h0 := word_mod .f64 s' (Nat.zero_le _ : 0 ≤ FloatKind.f64.format.infRung)
        omega
      subst hm2
      refine ⟨_, narrow_num hr2 ?_⟩
      have hw2 : FloatKind.f32.format.nearest s2 0 e2 = FloatKind.f32.format.word s2 0 := by
        unfold Ieee.Format.nearest
        rw [if_pos rfl]
      rw [hw2]
      obtain ⟨s3, m3, e3, hr3⟩ := read_less .f32 s2 0 (by decide)
      rw [hr3]
      rfl
    · cases s with
      | false =>
        obtain ⟨y', z', r, m', e', h1, h2, h3, _⟩ := root_pos hd hm
        rw [hy] at h1
        obtain rfl := Option.some.inj h1
        rw [hz] at h2
        obtain rfl := Option.some.inj h2
        exact ⟨r, h3⟩
      | true =>
        obtain ⟨d, r, hr, hw, hs⟩ := wide_exact hd hm
        rw [hy] at hw
        obtain rfl := Option.some.inj hw
        have hne : m <<< d ≠ 0 := by rw [Nat.shiftLeft_eq]; exact Nat.mul_ne_zero hm (Nat.ne_of_gt (Nat.two_pow_pos _))
        unfold Ieee.Format.sqrt at hz
        rw [hs true] at hz
        simp only [Ieee.Datum.root] at hz
        rw [if_neg hne, if_pos trivial] at hz
        cases hz
  | infinity s =>
    have hy' := wide_inf hd
    rw [hy] at hy'
    obtain rfl := Option.some.inj hy'
    have hr : FloatKind.f64.format.read (FloatKind.f64.format.write (.infinity s)) = .infinity s := read_infRung .f64 s
    unfold Ieee.Format.sqrt at hz
    rw [hr] at hz
    cases s with
    | true => cases hz
    | false =>
      obtain rfl := Option.some.inj hz
      exact ⟨_, narrow_inf (read_infRung .f64 false)⟩
  | nan s t => rw [wide_nan (cf_none.2 (isNaN_iff.2 ⟨s, t, hd⟩))] at hy; cases hy
/-- A float is stored. -/
theorem store_f32 (P : Program) {w : World} {a : Addr} {c : Value} (y : Nat) (hc : w.cell? a = some c) (hf : w.frozen? a = false) : (store a (.float .f32 y)).run P w = .ok () (w.setCell a (.float .f32 y)) := by
  rw [run_store P w a _ _ rfl, hc]
  simp [hf]
/-- A float that comes back. -/
def RetF (w : World) (d : Option Nat) (e : Ending) (w' : World) : Prop := ∃ r, e = .returned (.float .f32 r) ∧ c32 r = d ∧ Ext w w'
theorem ex_fop (op : BinOp) (a b : Option Nat) : ∃ r, c32 r = fop op .f32 a b := by
  cases h : fop op .f32 a b with
  | none => exact ⟨_, cf_nan .f32 0 0 0⟩
  | some r =>
    refine ⟨r, ?_⟩
    unfold fop at h
    cases a with
    | none => cases h
    | some x => cases b with
      | none => cases h
      | some y => exact fop_num h
theorem ex_root (a : Option Nat) : ∃ r, c32 r = rootF a := by
  cases h : rootF a with
  | none => exact ⟨_, cf_nan .f32 0 0 0⟩
  | some r =>
    refine ⟨r, ?_⟩
    unfold rootF at h
    simp only [Option.bind_eq_some_iff] at h
    obtain ⟨x, _, y, _, z, _, h⟩ := h
    exact (narrow_cf h).1

end Go.Proofs.Ytkifpligpobiaaa
