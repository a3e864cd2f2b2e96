
/- Maps from places to numbers: reading, going through, taking out. -/

import Derived.Test.YtkifpligpobiaaaK2

import Derived.Test.YtkifpligpobiaaaG2

import Derived.Maps.RangeWalk
set_option linter.unusedVariables false
set_option linter.unusedSimpArgs false

namespace Go.Proofs.Ytkifpligpobiaaa

open Go.RowKit


theorem MapV.lt {w : World} {b cnt n : Nat} {M : Sqr} (h : MapV w b cnt n M) : b < w.heap.size := by
  obtain ⟨D, ho, _⟩ := h
  exact ho.lt
theorem MapV.kept {w w' : World} {b cnt n : Nat} {M : Sqr} {row : Option Nat} (h : MapV w b cnt n M) (hg : w.grownBy w' row) (hne : some b ≠ row) : MapV w' b cnt n M := by
  obtain ⟨D, ho, h⟩ := h
  exact ⟨D, ho.kept hg hne, h⟩
theorem Ext.grown {w w' : World} (h : Ext w w') (row : Option Nat) : w.grownBy w' row := ⟨h.os, h.tape, h.output, h.size, fun i hi _ => h.block i hi⟩
theorem MapV.ext {w w' : World} {b cnt n : Nat} {M : Sqr} (h : MapV w b cnt n M) (hx : Ext w w') : MapV w' b cnt n M := h.kept (hx.grown none) (by simp)
theorem MapV.mono {w : World} {b cnt cnt' n : Nat} {M : Sqr} (h : MapV w b cnt n M) (hc : cnt ≤ cnt') : MapV w b cnt' n M := by
  obtain ⟨D, ho, h⟩ := h
  exact ⟨D, ho.mono hc, h⟩
theorem MapV.congr {w : World} {b cnt n : Nat} {M M' : Sqr} (h : MapV w b cnt n M) (e : ∀ i j, i < n → j < n → M i j = M' i j) : MapV w b cnt n M' := by
  obtain ⟨D, ho, h1, h2⟩ := h
  exact ⟨D, ho, fun i j hi hj => by rw [← e i j hi hj]; exact h1 i j hi hj, h2⟩

theorem pigeon {α : Type} (R : α → Nat → Prop) (N : Nat) : ∀ (l : List α), (∀ a ∈ l, ∃ q, q < N ∧ R a q) → l.Pairwise (fun a b => ∀ q, R a q → R b q → False) → l.length ≤ N := by
  have key : ∀ (l : List α), (∀ a ∈ l, ∃ q, q < N ∧ R a q) → l.Pairwise (fun a b => ∀ q, R a q → R b q → False) → ∃ L : List Nat, L.length = l.length ∧ L.Nodup ∧ ∀ q ∈ L, q < N ∧ ∃ a ∈ l, R a q := by
    intro l
    induction l with
    | nil => intro _ _; exact ⟨[], rfl, List.nodup_nil, fun q hq => by cases hq⟩
    | cons x l ih =>
      intro h hp
      rw [List.pairwise_cons] at hp
      obtain ⟨L, h1, h2, h3⟩ := ih (fun a ha => h a (List.mem_cons_of_mem _ ha)) hp.2
      obtain ⟨q, hq, hR⟩ := h x List.mem_cons_self
      refine ⟨q :: L, by simp [h1], ?_, ?_⟩
      · rw [List.nodup_cons]
        refine ⟨fun hm => ?_, h2⟩
        obtain ⟨_, a, ha, hRa⟩ := h3 q hm
        exact hp.1 a ha q hR hRa
      · intro r hr
        rcases List.mem_cons.1 hr with rfl | hr
        · exact ⟨hq, x, List.mem_cons_self, hR⟩
        · obtain ⟨h4, a, ha, hRa⟩ := h3 r hr
          exact ⟨h4, a, List.mem_cons_of_mem _ ha, hRa⟩
  intro l h hp
  obtain ⟨L, h1, h2, h3⟩ := key l h hp
  have := notIn_len h2 fun q hq => (h3 q hq).1
  omega
/-- No more entries than places. -/
theorem MapV.tight {w : World} {b cnt n : Nat} {M : Sqr} (h : MapV w b cnt n M) : MapV w b (n * n) n M := by
  obtain ⟨D, ho, h1, h2⟩ := h
  refine ⟨D, ?_, h1, h2⟩
  obtain ⟨es', e, hpw, hk⟩ := ho.entries place_law
  have hsz : es'.length ≤ n * n := by
    refine pigeon (fun p q => p.1 = kp (q / n : Nat) (q % n : Nat)) (n * n) es' (fun p hp => ?_) (hpw.imp fun hne q h3 h4 => hne (h3.trans h4.symm))
    have : Maps.has D p.1 = true := by rw [e, Maps.has_eq, List.any_eq_true]; exact ⟨p, hp, WideAt.sameKey_self (hk p hp)⟩
    obtain ⟨i, j, hi, hj, hkl⟩ := h2 _ this
    refine ⟨i * n + j, ix_lt hi hj, ?_⟩
    rw [(ix_div hj).1, (ix_div hj).2]
    exact hkl
  obtain ⟨es, clock, hb, F, hs, hD⟩ := ho
  refine ⟨es, clock, hb, F, ?_, hD⟩
  rw [e] at hD
  simp only [DataW.map.injEq] at hD
  rw [hD, length_sorted, List.length_map, Array.length_toList] at hsz
  exact hsz

theorem make_map_run (w : World) : (Instr.makeMap 92 none).run Try.prog w = .ok (.map (some w.heap.size)) (w.alloc (.map #[] 0)) := rfl
theorem zero_f32 (w : World) : (zeroValue 43).run Try.prog w = .ok (.float .f32 0) w := by kernel_rfl
theorem fltR_inv {v : Value} {z : DataW Unit × List MemPlace} (h : fltR v = some z) : ∃ x, v = .float .f32 x ∧ z = (.lit (.float .f32 x), []) := by
  unfold fltR at h
  split at h
  · exact ⟨_, rfl, (Option.some.inj h).symm⟩
  · cases h
theorem lit_inj {a b : Nat} (h : (DataW.lit (.float .f32 a) : DataW Unit) = .lit (.float .f32 b)) : a = b := by
  simp only [DataW.lit.injEq, Lit.float.injEq, true_and] at h
  exact h

/-- A number is looked up, and whether it is there. -/
theorem MapV.look {w : World} {b cnt n : Nat} {M : Sqr} (h : MapV w b cnt n M) (hn : n ≤ 32) {i j : Nat} (hi : i < n) (hj : j < n) :
    ∃ x, (Instr.lookup 92 (.map (some b)) (placeV i j) true).run Try.prog w = .ok (.tuple #[.float .f32 x, .bool (M i j).isSome]) w ∧ c32 x = (M i j).getD (some 0) := by
  obtain ⟨D, ho, h1, h2⟩ := h
  obtain ⟨v, ps, hrun, hv⟩ := ho.look_ok place_law Try.underlying92 (zero_f32 w) (show fltR (.float .f32 0) = some (.lit (.float .f32 0), []) from rfl) (kp_key (nat_wf (i := i) (by omega)) (nat_wf (i := j) (by omega)))
  have hm := h1 i j hi hj
  unfold MapAt at hm
  cases hM : M i j with
  | none =>
    rw [hM] at hm
    rw [hm] at hrun
    rw [Maps.atKey_of_not_has hm] at hv
    obtain ⟨x, rfl, e⟩ := fltR_inv hv
    obtain rfl := lit_inj (Prod.mk.inj e).1
    exact ⟨_, hrun, c32_0⟩
  | some y =>
    rw [hM] at hm
    obtain ⟨g1, z, g2, g3⟩ := hm
    rw [g1] at hrun
    rw [g2] at hv
    obtain ⟨x, rfl, e⟩ := fltR_inv hv
    obtain rfl := lit_inj (Prod.mk.inj e).1
    exact ⟨_, hrun, g3⟩
theorem MapV.look1 {w : World} {b cnt n : Nat} {M : Sqr} (h : MapV w b cnt n M) (hn : n ≤ 32) {i j : Nat} (hi : i < n) (hj : j < n) :
    ∃ x, (Instr.lookup 92 (.map (some b)) (placeV i j) false).run Try.prog w = .ok (.float .f32 x) w ∧ c32 x = (M i j).getD (some 0) := by
  obtain ⟨D, ho, h1, h2⟩ := h
  obtain ⟨v, ps, hrun, hv⟩ := ho.lookup place_law Try.underlying92 (zero_f32 w) (show fltR (.float .f32 0) = some (.lit (.float .f32 0), []) from rfl) (kp_key (nat_wf (i := i) (by omega)) (nat_wf (i := j) (by omega)))
  have hm := h1 i j hi hj
  unfold MapAt at hm
  cases hM : M i j with
  | none =>
    rw [hM] at hm
    rw [Maps.atKey_of_not_has hm] at hv
    obtain ⟨x, rfl, e⟩ := fltR_inv hv
    obtain rfl := lit_inj (Prod.mk.inj e).1
    exact ⟨_, hrun, c32_0⟩
  | some y =>
    rw [hM] at hm
    obtain ⟨g1, z, g2, g3⟩ := hm
    rw [g2] at hv
    obtain ⟨x, rfl, e⟩ := fltR_inv hv
    obtain rfl := lit_inj (Prod.mk.inj e).1
    exact ⟨_, hrun, g3⟩
/-- A number is written. -/
theorem MapV.update {w : World} {b cnt n : Nat} {M : Sqr} (h : MapV w b cnt n M) (hn : n ≤ 32) {i j : Nat} (hi : i < n) (hj : j < n) (x : Nat) :
    ∃ w', (Instr.mapUpdate 92 (.map (some b)) (placeV i j) (.float .f32 x)).run Try.prog w = .ok () w' ∧ MapV w' b (n * n) n (updM M i j (some (c32 x))) ∧ w.grownBy w' (some b) := by
  obtain ⟨D, ho, h1, h2⟩ := h.tight
  have hnn : n * n ≤ 32 * 32 := Nat.mul_le_mul hn hn
  obtain ⟨w1, hrun, ho1, hg1⟩ := ho.update (t := 92) place_law Try.underlying92 (by unfold maxLen; omega) (kp_key (nat_wf (i := i) (by omega)) (nat_wf (i := j) (by omega))) (show fltR (.float .f32 x) = some (.lit (.float .f32 x), []) from rfl)
  exact ⟨w1, hrun, (MapV.put hn hi hj x (ho.isMap) h1 h2 ho1).tight, hg1⟩

/-- A map that is gone through: what is still to come. -/
def RangeV (w : World) (b r c0 n : Nat) (M : Sqr) (S : Nat → Nat → Bool) (cnt : Nat) : Prop := ∃ (D : DataW Unit) (left : Lit → Bool), w.ranges Try.prog 95 fltR b r c0 D left cnt ∧ (∀ i j, i < n → j < n → MapAt D i j (M i j)) ∧ (∀ kl, Maps.has D kl = true → ∃ i j : Nat, i < n ∧ j < n ∧ kl = kp i j) ∧ ∀ i j, i < n → j < n → left (kp i j) = S i j
def strike (S : Nat → Nat → Bool) (i j : Nat) : Nat → Nat → Bool := fun a b => S a b && !(decide (a = i) && decide (b = j))
theorem RangeV.map {w : World} {b r c0 n : Nat} {M : Sqr} {S : Nat → Nat → Bool} {cnt : Nat} (h : RangeV w b r c0 n M S cnt) : MapV w b c0 n M := by
  obtain ⟨D, left, h0, h1, h2, _⟩ := h
  exact ⟨D, h0.owns, h1, h2⟩
theorem RangeV.left_eq {w : World} {b r c0 n : Nat} {M : Sqr} {S : Nat → Nat → Bool} {cnt : Nat} (h : RangeV w b r c0 n M S cnt) : w.rangeLeft b r = cnt := by
  obtain ⟨D, left, h0, _⟩ := h
  exact h0.left_eq
theorem RangeV.ne {w : World} {b r c0 n : Nat} {M : Sqr} {S : Nat → Nat → Bool} {cnt : Nat} (h : RangeV w b r c0 n M S cnt) : r ≠ b := by
  obtain ⟨D, left, h0, _⟩ := h
  exact h0.ne
theorem RangeV.lt {w : World} {b r c0 n : Nat} {M : Sqr} {S : Nat → Nat → Bool} {cnt : Nat} (h : RangeV w b r c0 n M S cnt) : r < w.heap.size := by
  obtain ⟨D, left, h0, _⟩ := h
  exact h0.lt
theorem RangeV.kept {w w' : World} {b r c0 n : Nat} {M : Sqr} {S : Nat → Nat → Bool} {cnt : Nat} {row : Option Nat} (h : RangeV w b r c0 n M S cnt) (hg : w.grownBy w' row) (hb : some b ≠ row) (hr : some r ≠ row) : RangeV w' b r c0 n M S cnt := by
  obtain ⟨D, left, h0, h1⟩ := h
  exact ⟨D, left, h0.kept hg hb hr, h1⟩
theorem RangeV.ext {w w' : World} {b r c0 n : Nat} {M : Sqr} {S : Nat → Nat → Bool} {cnt : Nat} (h : RangeV w b r c0 n M S cnt) (hx : Ext w w') : RangeV w' b r c0 n M S cnt := h.kept (hx.grown none) (by simp) (by simp)

section

variable {w : World} {ops : Array Oper} {rest : List Oper} {o : Oper} {a : Act} {Q : Exit → Act → World → Prop}

/-- 'range m'. -/
theorem wpList_range_V (hg : o.guard = none) (m : Operand) (hop : o.op = Op.range 92 m) (b n c0 : Nat) (M : Sqr) (hm : a.eval m = .map (some b)) (h : MapV w b c0 n M)
    (hK : ∀ w' cnt, RangeV w' b w.heap.size c0 n M (fun i j => (M i j).isSome) cnt → cnt ≤ c0 → Ext w w' → w'.heap.size = w.heap.size + 1 → wpList Try.prog ops Q rest (a.put o.dst (.pointer (some ⟨w.heap.size, 0, none⟩))) w') :
    wpList Try.prog ops Q (o :: rest) a w := by
  obtain ⟨D, ho, h1, h2⟩ := h
  refine wpList_range_own w hg m _ hop _ _ place_law Try.underlying92 fltR b c0 D hm ho fun w' hr hgr hs => ?_
  refine hK w' _ ⟨D, _, hr, h1, h2, fun i j hi hj => ?_⟩ ho.size_le ⟨hgr.os, hgr.tape, hgr.output, hgr.size, fun i hi => hgr.block i hi (by simp)⟩ hs
  have := h1 i j hi hj
  unfold MapAt at this
  show _ = (M i j).isSome
  cases hM : M i j with
  | none => rw [hM] at this; exact this
  | some v => rw [hM] at this; exact this.1
/-- The step. -/
theorem wpList_next_V (hg : o.guard = none) (it : Operand) (hop : o.op = Op.next it false) (b r c0 n : Nat) (M : Sqr) (S : Nat → Nat → Bool) (cnt : Nat) (hn : n ≤ 32)
    (hit : a.eval it = .pointer (some ⟨r, 0, none⟩)) (h : RangeV w b r c0 n M S cnt)
    (hDone : cnt = 0 → (∀ i j, i < n → j < n → S i j = false) → wpList Try.prog ops Q rest (a.put o.dst (.tuple #[.bool false])) w)
    (hMore : ∀ (i j x : Nat) (w' : World) (cnt' : Nat), i < n → j < n → S i j = true → M i j = some (c32 x) → RangeV w' b r c0 n M (strike S i j) cnt' → cnt' < cnt → w.grownBy w' (some r) → w'.heap.size = w.heap.size →
      (Instr.entry (.pointer (some ⟨r, 0, none⟩))).run Try.prog w' = .ok (.tuple #[.agg #[.int .i64 i, .int .i64 j], .float .f32 x]) w' → wpList Try.prog ops Q rest (a.put o.dst (.tuple #[.bool true, .agg #[.int .i64 i, .int .i64 j], .float .f32 x])) w') :
    wpList Try.prog ops Q (o :: rest) a w := by
  refine wpList_plain hg fun K' hK' => ?_
  unfold Oper.wp
  obtain ⟨D, left, h0, h1, h2, h3⟩ := h
  rcases h0.next place_law o.type with ⟨hc, hl, hrun⟩ | ⟨key, v, kl, y, w', cnt', hkey, hlk, hv, hat, hrun, hrg, hlt, hgr, hsz, hen⟩
  · simp [execOp, hop, hit, hrun, Result.andThen]
    exact hK' _ _ (hDone hc fun i j hi hj => by rw [← h3 i j hi hj]; exact hl _)
  · obtain ⟨i, j, hi, hj, rfl⟩ := h2 kl (Maps.has_true_of_atKey hat)
    obtain rfl : key = placeV i j := place_law.inj hkey (kp_key (nat_wf (i := i) (by omega)) (nat_wf (i := j) (by omega)))
    obtain ⟨x, rfl, rfl⟩ := fltR_inv hv
    · skip
      have hm := h1 i j hi hj
      have hx : M i j = some (c32 x) := by
        unfold MapAt at hm
        cases hM : M i j with
        | none =>
          rw [hM] at hm
          rw [Maps.has_true_of_atKey hat] at hm
          cases hm
        | some u =>
          rw [hM] at hm
          obtain ⟨_, z, g2, g3⟩ := hm
          have := lit_inj ((hat (.lit (.bool false))).symm.trans (g2 (.lit (.bool false))))
          rw [this, g3]
      simp [execOp, hop, hit, hrun, Result.andThen]
      refine hK' _ _ (hMore i j x w' cnt' hi hj (by rw [← h3 i j hi hj]; exact hlk) hx ⟨D, _, hrg, h1, h2, fun p q hp hq => ?_⟩ hlt hgr hsz hen)
      show (left (kp p q) && !(kp p q).sameKey (kp i j)) = _
      unfold strike
      rw [h3 p q hp hq]
      by_cases e : p = i ∧ q = j
      · obtain ⟨rfl, rfl⟩ := e
        rw [WideAt.sameKey_self (kp_isKey (by omega) (by omega)), decide_eq_true rfl, decide_eq_true rfl]
        rfl
      · have hne : kp p q ≠ kp i j := fun h => e (kp_inj (by omega) (by omega) (by omega) (by omega) h)
        have hz : (decide (p = i) && decide (q = j)) = false := by
          by_cases e1 : p = i
          · rw [decide_eq_false (fun h => e ⟨e1, h⟩), Bool.and_false]
          · rw [decide_eq_false e1, Bool.false_and]
        rw [Maps.sameKey_ne hne, hz]
end

end Go.Proofs.Ytkifpligpobiaaa
