import Derived.Test.YtcfimkjkolgboaaE18
set_option linter.unusedVariables false
set_option linter.unusedSimpArgs false
namespace Go.Proofs.Ytcfimkjkolgboaa
open Go.RowKit

section
variable {P : Program}
theorem wpList_app1w {ops : Array Oper} {rest : List Oper} {o : Oper} {a : Act} {Q : Exit → Act → World → Prop} (hgd : o.guard = none) (s x : Operand) (t : TypeId)
    (ho : o.op = .call { callee := .builtin .append, args := #[s, x], argTypes := #[t, t] })
    (W : World) (base : Nat) (e : TypeId) (z : Value) (bytes : Nat) (ht : P.underlying t = some (.slice e)) (hi : (P.info? e).map (fun i => (i.zero, i.size, i.bytes)) = some (some z, 1, bytes)) (hz : z.cells.size = 1) (hby : bytes ≤ 64)
    (v : Value) (vs : List Value) (hs : a.eval s = v) (g : Nat) (y : Value) (hx : a.eval x = .slice (some ⟨g, 0, none⟩) 1 1) (hg : One W (.slice (some ⟨g, 0, none⟩) 1 1) y e) (hown : Own W base e v vs) (hy : y.oneCell' = true) (hl : vs.length + 1 ≤ 1048576) (hb : base ≤ W.heap.size)
    (h : ∀ A k w', Own w' base e (.slice A (vs.length + 1) k) (vs ++ [y]) → Wr W w' v → ((Value.slice A (vs.length + 1) k).ownBlock = v.ownBlock ∨ (Value.slice A (vs.length + 1) k).ownBlock = some W.heap.size) → wpList P ops Q rest (a.put o.dst (.slice A (vs.length + 1) k)) w') :
    wpList P ops Q (o :: rest) a W := by
  obtain ⟨i0, hi0, hz0, hz1, hz2⟩ := info_parts hi
  refine wpList_append_own_at _ hgd s x t ho base e i0 z 1 bytes ht hi0 hz0 hz1 hz2 hz (by decide) v vs.length vs hs hown.row ⟨g, 0, none⟩ 1 1 [y] hx rfl ?_ (by intro u hu; simp at hu; subst hu; exact hy) (by unfold maxLen; omega) (Nat.le_trans (Nat.mul_le_mul_left _ hby) (by omega)) hb ?_
  · intro j u hj
    match j, hj with
    | 0, hj =>
      simp at hj
      subst hj
      exact (hg g rfl).cell 0 rfl
  intro v' w1 h1 h2 _ h4
  have ho' : Own w1 base e v' (vs ++ [y]) := ⟨by simpa using h1, by simp; omega⟩
  obtain ⟨A, k, e1, _⟩ := ho'.rds
  rw [List.length_append] at e1
  subst e1
  exact h A k w1 ho' h2 h4
end
theorem info_is : (Try.prog.info? 26).map (fun i => (i.zero, i.size, i.bytes)) = some (some (.slice none 0 0), 1, 24) := by kernel_rfl

/-- Rows of the call's own, each a list. -/
def RowsOf (w : World) (base : Nat) (vs : List Value) (Ls : List (List Int)) : Prop :=
  vs.length = Ls.length ∧ ∀ (j : Nat) (L : List Int), Ls[j]? = some L → ∃ A c, vs[j]? = some (Value.slice A L.length c) ∧ Own w base 2 (.slice A L.length c) (ints L)
theorem RowsOf.ext {w w' : World} {base : Nat} {vs : List Value} {Ls : List (List Int)} (h : RowsOf w base vs Ls) (hx : Ext w w') : RowsOf w' base vs Ls :=
  ⟨h.1, fun j L hj => by obtain ⟨A, c, h1, h2⟩ := h.2 j L hj; exact ⟨A, c, h1, h2.ext hx⟩⟩
theorem Own.apart {w : World} {b1 b2 : Nat} {e1 e2 : TypeId} {v1 v2 : Value} {vs1 vs2 : List Value} (h1 : Own w b1 e1 v1 vs1) (h2 : Own w b2 e2 v2 vs2) (hne : e1 ≠ e2) : v1.ownBlock = none ∨ v1.ownBlock ≠ v2.ownBlock := by
  cases hk : v1.ownBlock with
  | none => exact .inl rfl
  | some k =>
    right
    intro he
    obtain ⟨c1, g1⟩ := own_block h1 k hk
    obtain ⟨c2, g2⟩ := own_block h2 k he.symm
    rw [g1] at g2
    simp only [Option.some.injEq, Obj.cells.injEq] at g2
    exact hne g2.2.1
theorem RowsOf.wr {w w' : World} {base b2 : Nat} {vs : List Value} {Ls : List (List Int)} {v : Value} {us : List Value} (h : RowsOf w base vs Ls) (hw : Wr w w' v) (ho : Own w b2 26 v us) : RowsOf w' base vs Ls :=
  ⟨h.1, fun j L hj => by obtain ⟨A, c, h1, h2⟩ := h.2 j L hj; exact ⟨A, c, h1, h2.other hw (h2.apart ho (by decide))⟩⟩
theorem RowsOf.push {w : World} {base : Nat} {vs : List Value} {Ls : List (List Int)} (h : RowsOf w base vs Ls) {A : Option Addr} {c : Nat} {L : List Int} (ho : Own w base 2 (.slice A L.length c) (ints L)) : RowsOf w base (vs ++ [.slice A L.length c]) (Ls ++ [L]) := by
  refine ⟨by simp [h.1], fun j M hj => ?_⟩
  rw [List.getElem?_append] at hj
  split at hj
  · rename_i hlt
    obtain ⟨A', c', h1, h2⟩ := h.2 j M hj
    exact ⟨A', c', by rw [List.getElem?_append_left (by rw [h.1]; exact hlt)]; exact h1, h2⟩
  · rename_i hlt
    have hj' : j - Ls.length = 0 := by
      have := (List.getElem?_eq_some_iff.1 hj).1
      simp at this
      omega
    rw [hj'] at hj
    simp at hj
    subst hj
    exact ⟨A, c, by rw [List.getElem?_append_right (by rw [h.1]; omega), h.1, hj']; rfl, ho⟩

/-- The sets of k numbers less than n, of the first M. -/
def chL (n k : Nat) : Nat → List (List Int)
  | 0 => []
  | M + 1 => if (bl M n).length = k then chL n k M ++ [bl M n] else chL n k M
theorem chL_len (n k M : Nat) : (chL n k M).length ≤ M := by
  induction M with
  | zero => simp [chL]
  | succ M ih =>
    simp only [chL]
    split
    · rw [List.length_append, List.length_singleton]; omega
    · omega
theorem chL_mem {n k M : Nat} {L : List Int} (h : L ∈ chL n k M) : ∃ m, m < M ∧ L = bl m n := by
  induction M with
  | zero => simp [chL] at h
  | succ M ih =>
    simp only [chL] at h
    split at h
    · simp only [List.mem_append, List.mem_singleton] at h
      rcases h with h | h
      · obtain ⟨m, h1, h2⟩ := ih h; exact ⟨m, by omega, h2⟩
      · exact ⟨M, by omega, h⟩
    · obtain ⟨m, h1, h2⟩ := ih h; exact ⟨m, by omega, h2⟩

def RetRows (w : World) (Ls : List (List Int)) (e : Ending) (w' : World) : Prop := ∃ A c vs, e = .returned (.slice A Ls.length c) ∧ Own w' w.heap.size 26 (.slice A Ls.length c) vs ∧ RowsOf w' w.heap.size vs Ls ∧ Ext w w'

theorem pow_le {n : Nat} (hn : n ≤ 6) : 2 ^ n ≤ 64 := Nat.pow_le_pow_right (n := 2) (by omega) hn

set_option maxHeartbeats 1000000 in
theorem choices_any (n k : Nat) (hn : n ≤ 6) (hk : k ≤ 6) (w : World) : Calls Try.prog 101 #[.int .i64 n, .int .i64 k] w (RetRows w (chL n k (2 ^ n))) := by
  have hp := pow_le hn
  obtain ⟨M, hM⟩ : ∃ M : Nat, M = 2 ^ n := ⟨_, rfl⟩
  have hwp : IntKind.u64.wrap ((2 : Int) ^ n) = (M : Int) := by
    have e : ((2 : Int) ^ n) = (M : Int) := by rw [hM]; simp
    rw [e]
    exact IntWalk.u64_in _ (by omega)
  rw [← hM] at hp ⊢
  have HM := Lib.hid hM
  clear hM
  go_enter Try.func101, Try.ntmps101
  go_wp2_with fail
  go_loopw [5, 10] (fun u v wr => ∃ m : Nat, m ≤ M ∧ v = .int .u64 m ∧ ∃ A N c vs, N = (chL n k m).length ∧ u = .slice A N c ∧ Own wr w.heap.size 26 (.slice A N c) vs ∧ RowsOf wr w.heap.size vs (chL n k m) ∧ Ext w wr) (fun _ v _ => M - (intOf v).toNat)
  case atStart => exact ⟨0, Nat.zero_le _, rfl, _, 0, 0, [], rfl, rfl, Own.empty _ _, ⟨rfl, fun j L hj => by simp [chL] at hj⟩, (Ext.refl _).alloc _⟩
  case round =>
    obtain ⟨m, hm, rfl, A, N, c, vs, hN, rfl, ho, hr, hx⟩ := hrel
    by_cases hlt : m < M
    · have hbl : bl m 64 = bl m n := by
        have := bl_more (m := m) (n := n) (by rw [← HM.out]; exact hlt) (64 - n)
        rwa [show n + (64 - n) = 64 from by omega] at this
      have hlen := bl_len m n
      have hNl := chL_len n k m
      rw [← hN] at hNl
      have HN := Lib.hid hN
      have HB := Lib.hid hbl
      clear hN hbl
      obtain ⟨Ln, hLn⟩ : ∃ Ln, Ln = (bl m n).length := ⟨_, rfl⟩
      rw [← hLn] at hlen
      have HLn := Lib.hid hLn
      clear hLn
      by_cases hk' : Ln = k
      · have hke : ((Ln : Int) == (k : Int)) = true := by simp [hk']
        have hch : chL n k (m + 1) = chL n k m ++ [bl m n] := by simp only [chL]; rw [← HLn.out, if_pos hk']
        have HCh := Lib.hid hch
        have HK := Lib.hid hk'
        clear hch hk'
        go_wp2_with fail
        refine (degree_any m (by omega) _).mono ?_
        rw [HB.out, ← HLn.out]
        rintro e w1 ⟨rfl, hx1⟩
        go_wp2_with fail
        refine (list_any m (by omega) _).mono ?_
        rw [HB.out, ← HLn.out]
        rintro e w2 ⟨A2, c2, rfl, ho2, hx2⟩
        have x12 := hx1.trans hx2
        have hy : Ext w2 (w2.alloc (.cells #[.slice A2 Ln c2] 26)) := (Ext.refl _).alloc _
        have ho' := (ho.ext x12).ext hy
        have hr' := (hr.ext x12).ext hy
        have ho2' := (ho2.base (b := w.heap.size) (hx.trans hx1).size).ext hy
        have hx' := (hx.trans x12).trans hy
        have hsz := hx'.size
        have hl := ho.len
        have hone := One.new w2 (.slice A2 Ln c2) 26
        go_wp2_with (at_builtin; go_loud (refine wpList_app1w rfl _ _ _ rfl (w2.alloc (.cells #[.slice A2 Ln c2] 26)) w.heap.size 26 (.slice none 0 0) 24 Try.underlying84 info_is rfl (by decide) (.slice A N c) vs rfl w2.heap.size (.slice A2 Ln c2) rfl hone ho' rfl (by omega) hsz ?_); rw [hl]; intro A' c' w3 h5 h6 h7)
        go_roundw
        case rel =>
          refine ⟨m + 1, by omega, by go_num, A', N + 1, c', _, by rw [HCh.out, List.length_append, ← HN.out]; rfl, rfl, h5, ?_, h6.ext hx' ho'⟩
          rw [HCh.out]
          have h8 := RowsOf.push hr' (A := A2) (c := c2) (L := bl m n) (by rw [← HLn.out]; exact ho2')
          rw [← HLn.out] at h8
          exact h8.wr h6 ho'
        case measure => simp [intOf]; omega
      · have hke : ((Ln : Int) == (k : Int)) = false := by simp; omega
        have hch : chL n k (m + 1) = chL n k m := by simp only [chL]; rw [← HLn.out, if_neg hk']
        have HCh := Lib.hid hch
        clear hch hk'
        go_wp2_with fail
        refine (degree_any m (by omega) _).mono ?_
        rw [HB.out, ← HLn.out]
        rintro e w1 ⟨rfl, hx1⟩
        go_wp2_with fail
        go_roundw
        case rel => exact ⟨m + 1, by omega, by go_num, A, N, c, vs, by rw [HCh.out]; exact HN.out, rfl, ho.ext hx1, by rw [HCh.out]; exact hr.ext hx1, hx.trans hx1⟩
        case measure => simp [intOf]; omega
    · obtain rfl : m = M := by omega
      subst hN
      go_wp2_with fail
      go_ret
      exact ⟨A, c, vs, rfl, ho, hr, hx⟩

end Go.Proofs.Ytcfimkjkolgboaa
