
/- A row of a graph taken out, the reference. -/

import Derived.Test.YtkifpligpobiaaaH4

import Derived.Test.YtkifpligpobiaaaH6
set_option linter.unusedVariables false
set_option linter.unusedSimpArgs false

namespace Go.Proofs.Ytkifpligpobiaaa

open Go.RowKit


/-- Writes that hit two blocks alone. -/
structure Wr2 (w w' : World) (g1 g2 : Nat) : Prop where
  os : w'.os = w.os
  tape : w'.tape = w.tape
  output : w'.output = w.output
  size : w.heap.size ≤ w'.heap.size
  block : ∀ b, b < w.heap.size → b ≠ g1 → b ≠ g2 → w'.heap[b]? = w.heap[b]?
theorem Wr2.of_ext {w w' : World} (h : Ext w w') (g1 g2 : Nat) : Wr2 w w' g1 g2 := ⟨h.os, h.tape, h.output, h.size, fun b hb _ _ => h.block b hb⟩
theorem Wr2.trans {a b c : World} {g1 g2 : Nat} (h : Wr2 a b g1 g2) (k : Wr2 b c g1 g2) : Wr2 a c g1 g2 :=
  ⟨k.os.trans h.os, k.tape.trans h.tape, k.output.trans h.output, Nat.le_trans h.size k.size, fun i hi h1 h2 => (k.block i (Nat.lt_of_lt_of_le hi h.size) h1 h2).trans (h.block i hi h1 h2)⟩
theorem Wr2.wr1 {w w' : World} {g1 g2 n c : Nat} (h : Wr w w' (.slice (some ⟨g1, 0, none⟩) n c)) : Wr2 w w' g1 g2 := ⟨h.os, h.tape, h.output, h.size, fun b hb h1 _ => h.block b hb (fun e => h1 (Option.some.inj e))⟩
theorem Wr2.wr2 {w w' : World} {g1 g2 n c : Nat} (h : Wr w w' (.slice (some ⟨g2, 0, none⟩) n c)) : Wr2 w w' g1 g2 := ⟨h.os, h.tape, h.output, h.size, fun b hb _ h2 => h.block b hb (fun e => h2 (Option.some.inj e))⟩
theorem Wr2.new {w w' w'' : World} {g1 g2 : Nat} {e : TypeId} {v : Value} {vs : List Value} (h : Wr2 w w' g1 g2) (hw : Wr w' w'' v) (ho : Own w' w.heap.size e v vs) : Wr2 w w'' g1 g2 :=
  ⟨hw.os.trans h.os, hw.tape.trans h.tape, hw.output.trans h.output, Nat.le_trans h.size hw.size, fun b hb h1 h2 => (hw.block b (Nat.lt_of_lt_of_le hb h.size) (fun e => by have := (ho.row.lt b e.symm).1; omega)).trans (h.block b hb h1 h2)⟩
theorem Wr2.ext {w0 w w' : World} {g1 g2 : Nat} (h : Wr2 w w' g1 g2) (hx : Ext w0 w) (h1 : w0.heap.size ≤ g1) (h2 : w0.heap.size ≤ g2) : Ext w0 w' :=
  ⟨h.os.trans hx.os, h.tape.trans hx.tape, h.output.trans hx.output, Nat.le_trans hx.size h.size, fun i hi => (h.block i (Nat.lt_of_lt_of_le hi hx.size) (by omega) (by omega)).trans (hx.block i hi)⟩
theorem Own.same {w w' : World} {base : Nat} {e : TypeId} {v : Value} {vs : List Value} (h : Own w base e v vs) (hk : ∀ k, v.ownBlock = some k → w'.heap[k]? = w.heap[k]?) : Own w' base e v vs := by
  refine ⟨⟨h.row.1, ?_⟩, h.small⟩
  rcases h.row.2 with h0 | ⟨g, cap, cur, rfl, hb, hg, h1⟩
  · exact .inl h0
  · exact .inr ⟨g, cap, cur, rfl, hb, (hk g rfl).trans hg, h1⟩
theorem Own.wr2 {w w' : World} {base g1 g2 : Nat} {e : TypeId} {v : Value} {vs : List Value} (h : Own w base e v vs) (hw : Wr2 w w' g1 g2) (h1 : v.ownBlock ≠ some g1) (h2 : v.ownBlock ≠ some g2) : Own w' base e v vs :=
  h.same fun k hk => hw.block k (h.lt_size k hk) (fun e => h1 (by rw [← e]; exact hk)) (fun e => h2 (by rw [← e]; exact hk))

def gnL (n : Nat) (S : Nat → Bool) : List Bool := (List.range n).map S
theorem gnL_length (n : Nat) (S : Nat → Bool) : (gnL n S).length = n := by simp [gnL]
theorem gnL_at {n i : Nat} (S : Nat → Bool) (h : i < n) : rdb (gnL n S) (i : Nat) = S i := by simp [rdb, gnL, h]
theorem gnL_set {n i : Nat} {S S' : Nat → Bool} (hi : i < n) (h1 : ∀ a, a ≠ i → S' a = S a) {x : Bool} (hx : S' i = x) : (gnL n S).set i x = gnL n S' := by
  apply List.ext_getElem
  · simp [gnL]
  intro j h2 h3
  rw [List.getElem_set]
  simp only [gnL, List.getElem_map, List.getElem_range]
  split
  · rename_i e
    subst e
    exact hx.symm
  · rename_i e
    exact (h1 j (fun e' => e e'.symm)).symm
theorem gnL_none (n : Nat) : gnL n (fun _ => false) = List.replicate n false := by simp [gnL, List.map_const']

/-- Pairs of a list become neighbours, as far as p, q. -/
def parS (L : List Nat) (B : Grf) (p q : Nat) : Grf := fun a b => B a b || decide (a ≠ b ∧ ((a ∈ L.take p ∧ b ∈ L) ∨ (p < L.length ∧ a = L.getD p 0 ∧ b ∈ L.take q)))
theorem parS_zero (L : List Nat) (B : Grf) : parS L B 0 0 = B := by
  funext a b
  unfold parS
  rw [decide_eq_false (by simp), Bool.or_false]
theorem parS_same {L : List Nat} {B : Grf} {p : Nat} (hp : p < L.length) (a b : Nat) : parS L B p p a b = parS L B p (p + 1) a b := by
  unfold parS
  congr 2
  rw [eq_iff_iff]
  refine and_congr_right fun hne => or_congr Iff.rfl (and_congr_right fun _ => and_congr_right fun ha => ?_)
  rw [take_next hp, List.mem_append, List.mem_singleton]
  exact ⟨.inl, fun h => h.elim id fun e => absurd (ha.trans e.symm) hne⟩
theorem parS_at {L : List Nat} {B : Grf} {p q : Nat} (hn : L.Nodup) (hp : p < L.length) (hq : q < L.length) (hne : p ≠ q) : parS L B p (q + 1) (L.getD p 0) (L.getD q 0) = true := by
  unfold parS
  have h : L.getD p 0 ≠ L.getD q 0 := by
    have e1 : L.getD p 0 = L[p] := by simp [hp]
    have e2 : L.getD q 0 = L[q] := by simp [hq]
    rw [e1, e2]
    intro e
    exact hne ((List.nodup_iff_pairwise_ne.1 hn |> fun h => by
      rcases Nat.lt_trichotomy p q with h1 | h1 | h1
      · exact absurd e (List.pairwise_iff_getElem.1 h p q hp hq h1)
      · exact h1
      · exact absurd e.symm (List.pairwise_iff_getElem.1 h q p hq hp h1)))
  rw [decide_eq_true ⟨h, .inr ⟨hp, rfl, by rw [take_next hq]; simp⟩⟩, Bool.or_true]
theorem parS_other {L : List Nat} {B : Grf} {p q a b : Nat} (hq : q < L.length) (h : a ≠ L.getD p 0 ∨ b ≠ L.getD q 0) : parS L B p (q + 1) a b = parS L B p q a b := by
  unfold parS
  congr 2
  rw [eq_iff_iff]
  refine and_congr_right fun hne => or_congr Iff.rfl (and_congr_right fun _ => and_congr_right fun ha => ?_)
  rw [take_next hq, List.mem_append, List.mem_singleton]
  exact ⟨fun k => k.elim id fun e => h.elim (fun h' => absurd ha h') (fun h' => absurd e h'), .inl⟩
theorem parS_row {L : List Nat} {B : Grf} {p : Nat} (hp : p < L.length) (a b : Nat) : parS L B p L.length a b = parS L B (p + 1) 0 a b := by
  unfold parS
  congr 2
  rw [eq_iff_iff]
  refine and_congr_right fun _ => ?_
  rw [take_next hp, List.take_length, List.mem_append, List.mem_singleton, List.take_zero]
  constructor
  · rintro (⟨h1, h2⟩ | ⟨_, h1, h2⟩)
    · exact .inl ⟨.inl h1, h2⟩
    · exact .inl ⟨.inr h1, h2⟩
  · rintro (⟨h1 | h1, h2⟩ | ⟨_, _, h⟩)
    · exact .inl ⟨h1, h2⟩
    · exact .inr ⟨hp, h1, h2⟩
    · cases h
/-- Those that are left beside row i. -/
def lft (n : Nat) (B : Grf) (gone : Nat → Bool) (i : Nat) : List Nat := lsB n fun k => B i k && !goneB gone i k
theorem parS_end {n : Nat} {B : Grf} {gone : Nat → Bool} {i : Nat} : ∀ a b, a < n → b < n → parS (lft n B gone i) B (lft n B gone i).length 0 a b = outS B gone n i a b := by
  intro a b ha hb
  unfold parS outS
  congr 1
  rw [List.take_length]
  have m : ∀ x, x < n → (x ∈ lft n B gone i ↔ (B i x && !gone x && !decide (x = i)) = true) := by
    intro x hx
    unfold lft goneB
    rw [lsB_mem]
    cases B i x <;> cases gone x <;> cases decide (x = i) <;> simp [hx]
  rw [Bool.eq_iff_iff, decide_eq_true_iff]
  simp only [decide_eq_true ha, decide_eq_true hb, Bool.true_and, List.take_zero]
  rw [Bool.and_eq_true, Bool.and_eq_true, ← m b hb, ← m a ha]
  simp only [Bool.not_eq_true', decide_eq_false_iff_not]
  constructor
  · rintro ⟨h1, ⟨h2, h3⟩ | ⟨_, _, h⟩⟩
    · exact ⟨⟨h2, h3⟩, h1⟩
    · cases h
  · rintro ⟨⟨h2, h3⟩, h1⟩
    exact ⟨h1, .inl ⟨h2, h3⟩⟩

set_option maxRecDepth 20000 in
set_option maxHeartbeats 8000000 in
theorem l05Out_any (b1 b2 g1 g2 n N c1 c2 i : Nat) (B : Grf) (gone : Nat → Bool) (hn32 : n ≤ 32) (hN : N = n * n) (hi : i < n) (hne : g1 ≠ g2) (w : World) (h1w : g1 < w.heap.size) (h2w : g2 < w.heap.size)
    (o1 : Own w b1 4 (.slice (some ⟨g1, 0, none⟩) N c1) (bools (gb n B))) (o2 : Own w b2 4 (.slice (some ⟨g2, 0, none⟩) n c2) (bools (gnL n gone))) :
    Calls Try.prog 123 #[.slice (some ⟨g1, 0, none⟩) N c1, .slice (some ⟨g2, 0, none⟩) n c2, .int .i64 n, .int .i64 i] w fun e w' => (∃ A k, e = .returned (.slice A (lft n B gone i).length k) ∧ Own w' w.heap.size 2 (.slice A (lft n B gone i).length k) (ints (natI (lft n B gone i)))) ∧
      Own w' b1 4 (.slice (some ⟨g1, 0, none⟩) N c1) (bools (gb n (outS B gone n i))) ∧ Own w' b2 4 (.slice (some ⟨g2, 0, none⟩) n c2) (bools (gnL n (goneB gone i))) ∧ Wr2 w w' g1 g2 := by
  have HN := Lib.hid hN
  have hiI : (i : Int) < n := by omega
  clear hN
  obtain ⟨hc, hf⟩ := o2.at_ i hi
  rw [bools_get (by rw [gnL_length]; exact hi)] at hc
  have hsb := store_bool Try.prog true hc hf
  obtain ⟨s1, s2⟩ := o2.stored i (.bool true)
  rw [← bools_set, gnL_set (S' := goneB gone i) hi (fun a ha => by unfold goneB; rw [decide_eq_false ha, Bool.or_false]) (by unfold goneB; rw [decide_eq_true rfl, Bool.or_true])] at s1
  have o1' := o1.other s2 (.inr (by show some g1 ≠ some g2; simpa using hne))
  have hw1 : Wr2 w (w.setCell ⟨g2, i, none⟩ (.bool true)) g1 g2 := Wr2.wr2 s2
  clear s2
  obtain ⟨f, hff⟩ : ∃ f : Nat → Bool, f = fun k => B i k && !goneB gone i k := ⟨_, rfl⟩
  have HF : Hid (∀ k, f k = (B i k && !goneB gone i k)) := by show ∀ k, _; intro k; rw [hff]
  have HL : Hid (lft n B gone i = lsB n f) := by show _ = _; rw [hff]; rfl
  rw [HL.out]
  clear hff
  go_enter Try.func123, Try.ntmps123
  go_upto_region 1 with (fail)
  go_upto_region 2 with (fail)
  obtain ⟨w1, hw1'⟩ : ∃ v : World, v = w.setCell ⟨g2, i, none⟩ (.bool true) := ⟨_, rfl⟩
  rw [← hw1'] at s1 o1' hw1 ⊢
  clear hw1' o1 o2 hc hf hsb
  have xg : Ext w1 (w1.alloc (.cells #[] 2)) := (Ext.refl _).alloc _
  have oL := (Own.empty w1 2).base hw1.size
  replace o1' := o1'.ext xg
  replace s1 := s1.ext xg
  replace hw1 := hw1.trans (Wr2.of_ext xg g1 g2)
  clear xg
  go_wp2_with fail
  go_loopw [9, 10] (fun u v wr => ∃ k : Nat, k ≤ n ∧ v = .int .i64 k ∧ ∃ A len c, len = (lsB k f).length ∧ u = .slice A len c ∧ Own wr w.heap.size 2 (.slice A len c) (ints (natI (lsB k f))) ∧ Own wr b1 4 (.slice (some ⟨g1, 0, none⟩) N c1) (bools (gb n B)) ∧ Own wr b2 4 (.slice (some ⟨g2, 0, none⟩) n c2) (bools (gnL n (goneB gone i))) ∧ Wr2 w wr g1 g2) (fun _ v _ => n - (intOf v).toNat)
  case atStart => exact ⟨0, Nat.zero_le _, rfl, _, 0, 0, rfl, rfl, oL, o1', s1, hw1⟩
  case round =>
    rename World => wA
    clear oL o1' s1 hw1
    obtain ⟨k, hk, rfl, A1, len, cA, hlen, rfl, oL, o1, o2, hw⟩ := hrel
    by_cases hlk : k < n
    · obtain ⟨i1, i2, i3, i4, i5, i6⟩ := ix32 hi hlk hn32
      rw [← HN.out] at i4 i6
      have i7 : i * n + k < N := by omega
      have g4 : IntKind.i64.wrap ((k : Int) + 1) = (k : Int) + 1 := IntWalk.i64_in _ (by omega)
      have hkI : (k : Int) < n := by omega
      have hd1 := (o1.at_ (i * n + k) i7).1
      have hd2 := (o2.at_ k hlk).1
      rw [bools_get (by rw [gb_length, ← HN.out]; exact i7), gb_at B hi hlk] at hd1
      rw [bools_get (by rw [gnL_length]; exact hlk), gnL_at _ hlk] at hd2
      have hlen' : len ≤ k := by rw [hlen]; exact lsB_len _ _
      have HLEN := Lib.hid hlen
      clear hlen
      have no : Hid (f k = false → lsB (k + 1) f = lsB k f) := by show _ → _; exact lsB_no
      have yes : Hid (f k = true → lsB (k + 1) f = lsB k f ++ [k]) := by show _ → _; exact lsB_yes
      have hfk := HF.out k
      cases h1 : B i k with
      | false =>
        rw [h1] at hd1 hfk
        have He := no.out hfk
        have HE := Lib.hid He
        clear He hfk h1
        go_wp2_with fail
        go_roundw
        case rel => exact ⟨k + 1, by omega, by go_num, A1, len, cA, by rw [HE.out]; exact HLEN.out, rfl, by rw [HE.out]; exact oL, o1, o2, hw⟩
        case measure => simp [intOf]; omega
      | true =>
        rw [h1] at hd1 hfk
        cases h2 : goneB gone i k with
        | true =>
          rw [h2] at hd2 hfk
          have He := no.out hfk
          have HE := Lib.hid He
          clear He hfk h1 h2
          go_wp2_with fail
          go_roundw
          case rel => exact ⟨k + 1, by omega, by go_num, A1, len, cA, by rw [HE.out]; exact HLEN.out, rfl, by rw [HE.out]; exact oL, o1, o2, hw⟩
          case measure => simp [intOf]; omega
        | false =>
          rw [h2] at hd2 hfk
          have He := yes.out hfk
          have HE := Lib.hid He
          clear He hfk h1 h2
          have xg : Ext wA (wA.alloc (.cells #[.int .i64 k] 2)) := (Ext.refl _).alloc _
          have ho' := oL.ext xg
          have o1' := o1.ext xg
          have o2' := o2.ext xg
          have hw' := hw.trans (Wr2.of_ext xg g1 g2)
          have hsz := hw.size
          have hl := oL.len
          clear xg oL o1 o2 hw
          go_wp2_with (at_builtin; go_loud (refine wpList_app1 rfl _ _ _ rfl (wA.alloc (.cells #[.int .i64 k] 2)) w.heap.size 2 (.int .i64 0) 8 Try.underlying22 info_i64 rfl (by decide) (.slice A1 len cA) (ints (natI (lsB k f))) rfl wA.heap.size (.int .i64 k) rfl (One.new _ _ _) ho' rfl (by omega) (by simp; omega) ?_); rw [hl]; intro A' c' w9 h5 h6 h7)
          go_roundw
          case rel =>
            refine ⟨k + 1, by omega, by go_num, A', len + 1, c', by rw [HE.out, List.length_append, ← HLEN.out]; rfl, rfl, ?_, o1'.other h6 (.inr fun e => ho'.above h1w e.symm), o2'.other h6 (.inr fun e => ho'.above h2w e.symm), hw'.new h6 ho'⟩
            rw [HE.out, natI_append, ints_append]
            exact h5
          case measure => simp [intOf]; omega
    · obtain rfl : k = n := by omega
      have hlen32 : len ≤ k := by rw [hlen]; exact lsB_len _ _
      obtain ⟨L, hL⟩ : ∃ L, L = lsB k f := ⟨_, rfl⟩
      have hnd : L.Nodup := by rw [hL]; exact lsB_nodup _ _
      have hlt : ∀ p, p < L.length → L.getD p 0 < k := by
        intro p hp
        have : L.getD p 0 ∈ lsB k f := by rw [← hL]; simp [hp]
        exact (lsB_mem.1 this).1
      have hend : gb k (parS L B len 0) = gb k (outS B gone k i) := by rw [hlen, ← hL]; exact gb_congr (by have := parS_end (n := k) (B := B) (gone := gone) (i := i); rw [HL.out, ← hL] at this; exact this)
      rw [← hL] at hlen oL
      have HLL := Lib.hid hL
      have HLEN := Lib.hid hlen
      have HND := Lib.hid hnd
      have HLT := Lib.hid hlt
      have HEND := Lib.hid hend
      clear hlen hnd hlt hend hL
      rw [← parS_zero L B] at o1
      go_wp2_with fail
      go_loopw [43] (fun u wr => ∃ p : Nat, p ≤ len ∧ u = .int .i64 p ∧ Own wr w.heap.size 2 (.slice A1 len cA) (ints (natI L)) ∧ Own wr b1 4 (.slice (some ⟨g1, 0, none⟩) N c1) (bools (gb k (parS L B p 0))) ∧ Own wr b2 4 (.slice (some ⟨g2, 0, none⟩) k c2) (bools (gnL k (goneB gone i))) ∧ Wr2 w wr g1 g2) (fun u _ => len - (intOf u).toNat)
      case atStart => exact ⟨0, Nat.zero_le _, rfl, oL, o1, o2, hw⟩
      case round =>
        rename World => wB
        clear oL o1 o2 hw
        obtain ⟨p, hp, rfl, oL, o1, o2, hw⟩ := hrel
        by_cases hlp : p < len
        · have g5 : IntKind.i64.wrap ((p : Int) + 1) = (p : Int) + 1 := IntWalk.i64_in _ (by omega)
          go_wp2_with fail
          go_loopw [48] (fun u wr => ∃ q : Nat, q ≤ len ∧ u = .int .i64 q ∧ Own wr w.heap.size 2 (.slice A1 len cA) (ints (natI L)) ∧ Own wr b1 4 (.slice (some ⟨g1, 0, none⟩) N c1) (bools (gb k (parS L B p q))) ∧ Own wr b2 4 (.slice (some ⟨g2, 0, none⟩) k c2) (bools (gnL k (goneB gone i))) ∧ Wr2 w wr g1 g2) (fun u _ => len - (intOf u).toNat)
          case atStart => exact ⟨0, Nat.zero_le _, rfl, oL, o1, o2, hw⟩
          case round =>
            rename World => wC
            clear oL o1 o2 hw
            obtain ⟨q, hq, rfl, oL, o1, o2, hw⟩ := hrel
            by_cases hlq : q < len
            · have g6 : IntKind.i64.wrap ((q : Int) + 1) = (q : Int) + 1 := IntWalk.i64_in _ (by omega)
              have hp' : p < L.length := by rw [← HLEN.out]; exact hlp
              have hq' : q < L.length := by rw [← HLEN.out]; exact hlq
              by_cases e : p = q
              · have e' : ((p : Int) != q) = false := by simp; omega
                have HC := Lib.hid (gb_congr (n := k) (fun a b _ _ => parS_same (B := B) hp' a b))
                subst e
                rw [HC.out] at o1
                go_wp2_with fail
                go_roundw
                case rel => exact ⟨p + 1, by omega, by go_num, oL, o1, o2, hw⟩
                case measure => simp [intOf]; omega
              · have e' : ((p : Int) != q) = true := by simp; omega
                obtain ⟨ad, hLA, hd1⟩ := oL.reads.intN p hlp
                obtain ⟨ad', hLA', hd2⟩ := oL.reads.intN q hlq
                subst hLA
                obtain rfl := Option.some.inj hLA'
                clear hLA'
                rw [natI_rd hp'] at hd1
                rw [natI_rd hq'] at hd2
                have ha := HLT.out p hp'
                have hb := HLT.out q hq'
                obtain ⟨x, hx⟩ : ∃ x, x = L.getD p 0 := ⟨_, rfl⟩
                obtain ⟨y, hy⟩ : ∃ y, y = L.getD q 0 := ⟨_, rfl⟩
                rw [← hx] at hd1 ha
                rw [← hy] at hd2 hb
                have hat := parS_at (B := B) HND.out hp' hq' e
                rw [← hx, ← hy] at hat
                have hot : ∀ a b, b < k → (a ≠ x ∨ b ≠ y) → parS L B p (q + 1) a b = parS L B p q a b := fun a b _ h => parS_other hq' (by rw [← hx, ← hy]; exact h)
                have HAT := Lib.hid hat
                have HOT := Lib.hid hot
                clear hat hot hx hy
                obtain ⟨j1, j2, j3, j4, j5, j6⟩ := ix32 ha hb hn32
                rw [← HN.out] at j4 j6
                have j7 : x * k + y < N := by omega
                have hpI : (p : Int) < len := by omega
                have hqI : (q : Int) < len := by omega
                go_wp2_with fail
                refine wp_region_T (cs := []) [0, 1, 2, 3, 4, 5, 6, 7, 8, 9, 10, 11, 12] [13] [] [] (fun _ _ => False) (fun _ _ _ => True) (by kernel_rfl) (by kernel_rfl) (fun _ _ _ _ _ _ => trivial) ?_
                refine' wpT_det (o := ⟨some 54, Op.move (Operand.tmp 0), 69, "l05_sparse.go:309", #[], none⟩) rfl (by rfl) (by rfl) (fun w' hw' => ?_) ?_; rotate_left
                · go_simp <;> first | rfl | exact ⟨rfl, rfl⟩
                simp only [Act.put, List.setIfInBounds_toArray, List.set_cons_zero, List.set_cons_succ]
                refine' wpT_det (o := ⟨some 55, Op.move (Operand.tmp 9), 22, "l05_sparse.go:309", #[], none⟩) rfl (by rfl) (by rfl) (fun w' hw' => ?_) ?_; rotate_left
                · go_simp <;> first | rfl | exact ⟨rfl, rfl⟩
                simp only [Act.put, List.setIfInBounds_toArray, List.set_cons_zero, List.set_cons_succ]
                refine' wpT_det (o := ⟨some 56, Op.move (Operand.tmp 11), 3, "l05_sparse.go:309", #[], none⟩) rfl (by rfl) (by rfl) (fun w' hw' => ?_) ?_; rotate_left
                · go_simp <;> first | rfl | exact ⟨rfl, rfl⟩
                simp only [Act.put, List.setIfInBounds_toArray, List.set_cons_zero, List.set_cons_succ]
                refine' wpT_det (o := ⟨some 57, Op.indexAddr 22 (Operand.tmp 55) (Operand.tmp 56), 0, "l05_sparse.go:309", #[{ on := 1, ground := Ground.data }, { on := 2, ground := Ground.data }], none⟩) rfl (by rfl) (by rfl) (fun w' hw' => ?_) ?_; rotate_left
                · go_simp <;> first | rfl | exact ⟨rfl, rfl⟩
                simp only [Act.put, List.setIfInBounds_toArray, List.set_cons_zero, List.set_cons_succ]
                refine' wpT_det (o := ⟨some 58, Op.load 2 (Operand.tmp 57), 2, "l05_sparse.go:309", #[{ on := 3, ground := Ground.data }], none⟩) rfl (by rfl) (by rfl) (fun w' hw' => ?_) ?_; rotate_left
                · have hd1_ := Ext.cell hw' hd1; have hd2_ := Ext.cell hw' hd2; go_simp <;> first | rfl | exact ⟨rfl, rfl⟩
                simp only [Act.put, List.setIfInBounds_toArray, List.set_cons_zero, List.set_cons_succ]
                refine' wpT_det (o := ⟨some 59, Op.move (Operand.tmp 2), 2, "l05_sparse.go:309", #[], none⟩) rfl (by rfl) (by rfl) (fun w' hw' => ?_) ?_; rotate_left
                · go_simp <;> first | rfl | exact ⟨rfl, rfl⟩
                simp only [Act.put, List.setIfInBounds_toArray, List.set_cons_zero, List.set_cons_succ]
                refine' wpT_det (o := ⟨some 60, Op.binOp BinOp.mul 2 (Operand.tmp 58) (Operand.tmp 59) 2, 2, "l05_sparse.go:309", #[{ on := 4, ground := Ground.data }, { on := 5, ground := Ground.data }], none⟩) rfl (by rfl) (by rfl) (fun w' hw' => ?_) ?_; rotate_left
                · go_simp <;> first | rfl | exact ⟨rfl, rfl⟩
                simp only [Act.put, List.setIfInBounds_toArray, List.set_cons_zero, List.set_cons_succ]
                refine' wpT_det (o := ⟨some 61, Op.move (Operand.tmp 9), 22, "l05_sparse.go:309", #[], none⟩) rfl (by rfl) (by rfl) (fun w' hw' => ?_) ?_; rotate_left
                · go_simp <;> first | rfl | exact ⟨rfl, rfl⟩
                simp only [Act.put, List.setIfInBounds_toArray, List.set_cons_zero, List.set_cons_succ]
                refine' wpT_det (o := ⟨some 62, Op.move (Operand.tmp 12), 3, "l05_sparse.go:309", #[], none⟩) rfl (by rfl) (by rfl) (fun w' hw' => ?_) ?_; rotate_left
                · go_simp <;> first | rfl | exact ⟨rfl, rfl⟩
                simp only [Act.put, List.setIfInBounds_toArray, List.set_cons_zero, List.set_cons_succ]
                refine' wpT_det (o := ⟨some 63, Op.indexAddr 22 (Operand.tmp 61) (Operand.tmp 62), 0, "l05_sparse.go:309", #[{ on := 7, ground := Ground.data }, { on := 8, ground := Ground.data }], none⟩) rfl (by rfl) (by rfl) (fun w' hw' => ?_) ?_; rotate_left
                · go_simp <;> first | rfl | exact ⟨rfl, rfl⟩
                simp only [Act.put, List.setIfInBounds_toArray, List.set_cons_zero, List.set_cons_succ]
                refine' wpT_det (o := ⟨some 64, Op.load 2 (Operand.tmp 63), 2, "l05_sparse.go:309", #[{ on := 9, ground := Ground.data }], none⟩) rfl (by rfl) (by rfl) (fun w' hw' => ?_) ?_; rotate_left
                · have hd1_ := Ext.cell hw' hd1; have hd2_ := Ext.cell hw' hd2; go_simp <;> first | rfl | exact ⟨rfl, rfl⟩
                simp only [Act.put, List.setIfInBounds_toArray, List.set_cons_zero, List.set_cons_succ]
                refine' wpT_det (o := ⟨some 65, Op.binOp BinOp.add 2 (Operand.tmp 60) (Operand.tmp 64) 2, 2, "l05_sparse.go:309", #[{ on := 6, ground := Ground.data }, { on := 10, ground := Ground.data }], none⟩) rfl (by rfl) (by rfl) (fun w' hw' => ?_) ?_; rotate_left
                · go_simp <;> first | rfl | exact ⟨rfl, rfl⟩
                simp only [Act.put, List.setIfInBounds_toArray, List.set_cons_zero, List.set_cons_succ]
                refine' wpT_det (o := ⟨some 66, Op.indexAddr 69 (Operand.tmp 54) (Operand.tmp 65), 0, "l05_sparse.go:309", #[{ on := 0, ground := Ground.data }, { on := 11, ground := Ground.data }, { on := 0, ground := Ground.phase }, { on := 1, ground := Ground.phase }, { on := 2, ground := Ground.phase }, { on := 3, ground := Ground.phase }, { on := 4, ground := Ground.phase }, { on := 5, ground := Ground.phase }, { on := 6, ground := Ground.phase }, { on := 7, ground := Ground.phase }, { on := 8, ground := Ground.phase }, { on := 9, ground := Ground.phase }, { on := 10, ground := Ground.phase }, { on := 11, ground := Ground.phase }], none⟩) rfl (by rfl) (by rfl) (fun w' hw' => ?_) ?_; rotate_left
                · go_simp <;> first | rfl | exact ⟨rfl, rfl⟩
                simp only [Act.put, List.setIfInBounds_toArray, List.set_cons_zero, List.set_cons_succ]
                refine wpT_nil (fun w4 hw' hF => ?_)
                show wpList _ _ _ [(⟨none, Op.store 4 (Operand.tmp 66) (Operand.const (Value.bool true)), 0, "l05_sparse.go:309", #[{ on := 12, ground := Ground.data }, { on := 0, ground := Ground.phase }, { on := 1, ground := Ground.phase }, { on := 2, ground := Ground.phase }, { on := 3, ground := Ground.phase }, { on := 4, ground := Ground.phase }, { on := 5, ground := Ground.phase }, { on := 6, ground := Ground.phase }, { on := 7, ground := Ground.phase }, { on := 8, ground := Ground.phase }, { on := 9, ground := Ground.phase }, { on := 10, ground := Ground.phase }, { on := 11, ground := Ground.phase }], none⟩ : Oper)] _ _
                have hx := hw'.undrew
                clear hF hw' hd1 hd2
                replace oL := oL.ext hx
                replace o1 := o1.ext hx
                replace o2 := o2.ext hx
                replace hw := hw.trans (Wr2.of_ext hx g1 g2)
                clear hx
                obtain ⟨hc, hf⟩ := o1.at_ (x * k + y) j7
                rw [bools_get (by rw [gb_length, ← HN.out]; exact j7)] at hc
                have hsb := store_bool Try.prog true hc hf
                obtain ⟨s1, s2⟩ := o1.stored (x * k + y) (.bool true)
                rw [← bools_set, gb_set ha hb HAT.out HOT.out] at s1
                have oL2 := oL.other s2 (oL.apart o1 (by decide)).1
                have o2' := o2.other s2 (.inr (by show some g2 ≠ some g1; simpa using fun e => hne e.symm))
                have hw2 := hw.trans (Wr2.wr1 s2)
                clear oL o1 o2 hw s2
                go_wp2_with fail
                go_roundw
                case rel => exact ⟨q + 1, by omega, by go_num, oL2, s1, o2', hw2⟩
                case measure => simp [intOf]; omega
            · obtain rfl : q = len := by omega
              have hp' : p < L.length := by rw [← HLEN.out]; exact hlp
              have HC : Hid (gb k (parS L B p q) = gb k (parS L B (p + 1) 0)) := by show _ = _; rw [HLEN.out]; exact gb_congr (fun a b _ _ => parS_row (B := B) hp' a b)
              rw [HC.out] at o1
              go_wp2_with fail
              go_roundw
              case rel => exact ⟨p + 1, by omega, by go_num, oL, o1, o2, hw⟩
              case measure => simp [intOf]; omega
        · obtain rfl : p = len := by omega
          rw [HEND.out] at o1
          go_wp2_with fail
          go_ret
          refine ⟨⟨A1, cA, ?_, ?_⟩, o1, o2, hw⟩
          · rw [← HLL.out, ← HLEN.out]; rfl
          · rw [← HLL.out, ← HLEN.out]; exact oL

end Go.Proofs.Ytkifpligpobiaaa
