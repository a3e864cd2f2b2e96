import Derived.Test.YtcfimkjkolgboaaE4
set_option linter.unusedVariables false
set_option linter.unusedSimpArgs false
namespace Go.Proofs.Ytcfimkjkolgboaa
open Go.RowKit

section
variable {P : Program}
/-- More elements behind a row of the call's own. -/
theorem wpList_appN {ops : Array Oper} {rest : List Oper} {o : Oper} {a : Act} {Q : Exit → Act → World → Prop} (hgd : o.guard = none) (s x : Operand) (t : TypeId)
    (ho : o.op = .call { callee := .builtin .append, args := #[s, x], argTypes := #[t, t] })
    (W : World) (base : Nat) (e : TypeId) (z : Value) (bytes : Nat) (ht : P.underlying t = some (.slice e)) (hi : (P.info? e).map (fun i => (i.zero, i.size, i.bytes)) = some (some z, 1, bytes)) (hz : z.cells.size = 1) (hby : bytes ≤ 16)
    (v : Value) (vs : List Value) (hs : a.eval s = v) (ad : Addr) (m c : Nat) (ys : List Value) (hx : a.eval x = .slice (some ad) m c) (hm : ys.length = m) (hc : ∀ j u, ys[j]? = some u → W.cell? (ad.add j) = some u)
    (hown : Own W base e v vs) (hy : ∀ u ∈ ys, u.oneCell' = true) (hl : vs.length + m ≤ 1048576) (hb : base ≤ W.heap.size)
    (h : ∀ A k w', Own w' base e (.slice A (vs.length + m) k) (vs ++ ys) → Wr W w' v → ((Value.slice A (vs.length + m) k).ownBlock = v.ownBlock ∨ (Value.slice A (vs.length + m) k).ownBlock = some W.heap.size) → wpList P ops Q rest (a.put o.dst (.slice A (vs.length + m) k)) w') :
    wpList P ops Q (o :: rest) a W := by
  obtain ⟨i0, hi0, hz0, hz1, hz2⟩ := info_parts hi
  refine wpList_append_own_at _ hgd s x t ho base e i0 z 1 bytes ht hi0 hz0 hz1 hz2 hz (by decide) v vs.length vs hs hown.row ad m c ys hx (by rw [Nat.mul_one]; exact hm) hc hy (by unfold maxLen; omega) (Nat.le_trans (Nat.mul_le_mul_left _ hby) (by omega)) hb ?_
  intro v' w1 h1 h2 _ h4
  have ho' : Own w1 base e v' (vs ++ ys) := ⟨by rw [List.length_append, hm]; exact h1, by simp; omega⟩
  obtain ⟨A, k, e1, _⟩ := ho'.rds
  rw [List.length_append, hm] at e1
  subst e1
  exact h A k w1 ho' h2 h4
end

theorem Own.empty (w : World) (e : TypeId) : Own (w.alloc (.cells #[] e)) w.heap.size e (.slice (some ⟨w.heap.size, 0, none⟩) 0 0) [] :=
  ⟨World.ownsRow_made w #[] 0 (Nat.le_refl _) (Nat.zero_le _) rfl, by simp⟩
theorem Own.cap {w : World} {base : Nat} {e : TypeId} {A : Option Addr} {n cap : Nat} {vs : List Value} (h : Own w base e (.slice A n cap) vs) : n ≤ cap := by
  rcases h.row.2 with ⟨h1, h0⟩ | ⟨g, cap', cur, h1, _, _, h2, _⟩
  · simp only [Value.slice.injEq] at h1; omega
  · simp only [Value.slice.injEq] at h1; have := h.len; omega

/-- 0, 1, .., n - 1. -/
def asc (n : Nat) : List Int := (List.range n).map fun (j : Nat) => (j : Int)
theorem asc_length (n : Nat) : (asc n).length = n := by simp [asc]
theorem asc_succ (n : Nat) : asc n ++ [(n : Int)] = asc (n + 1) := by simp [asc, List.range_succ]
theorem asc_mem {n : Nat} {x : Int} (h : x ∈ asc n) : 0 ≤ x ∧ x < n := by
  unfold asc at h
  simp at h
  obtain ⟨j, hj, rfl⟩ := h
  omega

set_option maxHeartbeats 1000000 in
theorem ascending_any (n : Nat) (hn : n ≤ 6) (w : World) : Calls Try.prog 84 #[.int .i64 n] w (RetInts w n (asc n)) := by
  go_enter Try.func84, Try.ntmps84
  go_wp2_with fail
  go_loopw [3, 7] (fun u v wr => ∃ k : Nat, k ≤ n ∧ v = .int .i64 k ∧ ∃ A c, u = .slice A k c ∧ Own wr w.heap.size 2 (.slice A k c) (ints (asc k)) ∧ Ext w wr) (fun _ v _ => n - (intOf v).toNat)
  case atStart => exact ⟨0, Nat.zero_le _, rfl, _, _, rfl, Own.empty _ _, (Ext.refl _).alloc _⟩
  case round =>
    obtain ⟨k, hk, rfl, A, c, rfl, ho, hx⟩ := hrel
    by_cases hlt : k < n
    · have ho' := ho.ext ((Ext.refl wr).alloc (.cells #[.int .i64 k] 2))
      have hsz := hx.size
      have hl := ho.len
      go_wp2_with (at_builtin; go_loud (refine wpList_app1 rfl _ _ _ rfl (wr.alloc (.cells #[.int .i64 k] 2)) w.heap.size 2 (.int .i64 0) 8 Try.underlying26 info_i64 rfl (by decide) (.slice A k c) (ints (asc k)) rfl wr.heap.size (.int .i64 k) rfl (One.new _ _ _) ho' rfl (by omega) (by simp; omega) ?_); rw [hl]; intro A' c' w3 h5 h6 h7)
      go_roundw
      case rel =>
        refine ⟨k + 1, by omega, by go_num, A', c', rfl, ?_, h6.ext (hx.alloc _) ho'⟩
        rw [← asc_succ, ints_append]
        exact h5
      case measure => simp [intOf]; omega
    · obtain rfl : k = n := by omega
      go_wp2_with fail
      go_ret
      exact ⟨A, c, rfl, ho, hx⟩

set_option maxHeartbeats 1000000 in
theorem l06All_any (n : Nat) (hn : n ≤ 6) (w : World) : Calls Try.prog 81 #[.int .i64 n] w (RetInts w n (asc n)) := by
  go_enter Try.func81, Try.ntmps81
  go_wp2_with fail
  go_loopw [3, 4] (fun u v wr => ∃ k : Nat, k ≤ n ∧ v = .int .i64 k ∧ ∃ A c, u = .slice A k c ∧ Own wr w.heap.size 2 (.slice A k c) (ints (asc k)) ∧ Ext w wr) (fun _ v _ => n - (intOf v).toNat)
  case atStart => exact ⟨0, Nat.zero_le _, rfl, _, _, rfl, Own.empty _ _, (Ext.refl _).alloc _⟩
  case round =>
    obtain ⟨k, hk, rfl, A, c, rfl, ho, hx⟩ := hrel
    by_cases hlt : k < n
    · have ho' := ho.ext ((Ext.refl wr).alloc (.cells #[.int .i64 k] 2))
      have hsz := hx.size
      have hl := ho.len
      go_wp2_with (at_builtin; go_loud (refine wpList_app1 rfl _ _ _ rfl (wr.alloc (.cells #[.int .i64 k] 2)) w.heap.size 2 (.int .i64 0) 8 Try.underlying26 info_i64 rfl (by decide) (.slice A k c) (ints (asc k)) rfl wr.heap.size (.int .i64 k) rfl (One.new _ _ _) ho' rfl (by omega) (by simp; omega) ?_); rw [hl]; intro A' c' w3 h5 h6 h7)
      go_roundw
      case rel =>
        refine ⟨k + 1, by omega, by go_num, A', c', rfl, ?_, h6.ext (hx.alloc _) ho'⟩
        rw [← asc_succ, ints_append]
        exact h5
      case measure => simp [intOf]; omega
    · obtain rfl : k = n := by omega
      go_wp2_with fail
      go_ret
      exact ⟨A, c, rfl, ho, hx⟩

theorem ints_oneCell' (xs : List Int) : ∀ u ∈ ints xs, u.oneCell' = true := by
  intro u hu
  simp only [ints, List.mem_map] at hu
  obtain ⟨x, _, rfl⟩ := hu
  rfl

set_option maxHeartbeats 1000000 in
theorem l06Without_any (A : Option Addr) (n cap k : Nat) (xs : List Int) (w : World) (hr : Rds w A n (ints xs)) (hk : k < n) (hcap : n ≤ cap) (hn : n ≤ 1048576) :
    Calls Try.prog 107 #[.slice A n cap, .int .i64 k] w (RetInts w (n - 1) (xs.eraseIdx k)) := by
  have hl := hr.ilen
  obtain ⟨ad, rfl, hc⟩ := hr.at' (by omega)
  have x0 : Ext w (w.alloc (.cells #[] 2)) := (Ext.refl _).alloc _
  have o0 := Own.empty w 2
  obtain ⟨a1, ha1, hs1⟩ : ∃ a1 : Addr, (if cap = k + 1 then some ad else some (⟨ad.block, ad.off + (k + 1), none⟩ : Addr)) = some a1 ∧ Hid (∀ j u, (ints (xs.drop (k + 1)))[j]? = some u → w.cell? (a1.add j) = some u) := by
    by_cases h : cap = k + 1
    · refine ⟨ad, by simp [h], fun j u hu => ?_⟩
      have : (ints (xs.drop (k + 1))).length = 0 := by rw [ints_length, List.length_drop]; omega
      rw [List.length_eq_zero_iff.1 this] at hu
      simp at hu
    · refine ⟨ad.add (k + 1), by simp [h, Addr.add], fun j u hu => ?_⟩
      have hj := (List.getElem?_eq_some_iff.1 hu).1
      rw [ints_length, List.length_drop] at hj
      rw [Addr.add_add, hc _ (by omega), ← hu]
      simp [ints, Nat.add_comm]
  have hs0 : Hid (∀ j u, (ints (xs.take k))[j]? = some u → w.cell? (ad.add j) = some u) := by
    intro j u hu
    have hj := (List.getElem?_eq_some_iff.1 hu).1
    rw [ints_length, List.length_take] at hj
    rw [hc j (by omega), ← hu]
    simp [ints, List.getElem?_take, show j < k by omega]
  have l0 : (ints (xs.take k)).length = k := by rw [ints_length, List.length_take]; omega
  have l1 : (ints (xs.drop (k + 1))).length = n - (k + 1) := by rw [ints_length, List.length_drop]; omega
  have L0 := Lib.hid l0
  have L1 := Lib.hid l1
  have hd : (ints (xs.take k) ++ ints (xs.drop (k + 1))) = ints (xs.eraseIdx k) := by rw [← ints_append, List.eraseIdx_eq_take_drop_succ]
  have HD := Lib.hid hd
  clear hd hc l0 l1 hl
  go_enter Try.func107, Try.ntmps107
  go_wp2_with (first
    | (at_builtin; refine wpList_appN rfl _ _ _ rfl (w.alloc (.cells #[] 2)) w.heap.size 2 (.int .i64 0) 8 Try.underlying26 info_i64 rfl (by decide) (.slice (some ⟨w.heap.size, 0, none⟩) 0 0) [] rfl ad k cap (ints (xs.take k)) rfl L0.out (fun j u hu => x0.cell (hs0.out j u hu)) o0 (ints_oneCell' _) (by simp; omega) (by simp) ?_; rw [List.nil_append, List.length_nil, Nat.zero_add]; intro A1 c1 w1 h5 h6 _; have hx1 := h6.ext x0 o0)
    | (at_builtin; go_loud (refine wpList_appN rfl _ _ _ rfl w1 w.heap.size 2 (.int .i64 0) 8 Try.underlying26 info_i64 rfl (by decide) (.slice A1 k c1) (ints (xs.take k)) rfl a1 (n - (k + 1)) (cap - (k + 1)) (ints (xs.drop (k + 1))) rfl L1.out (fun j u hu => hx1.cell (hs1.out j u hu)) h5 (ints_oneCell' _) (by rw [L0.out]; omega) hx1.size ?_); rw [L0.out, HD.out]; intro A2 c2 w2 h8 h9 _))
  go_ret
  have e : k + (n - (k + 1)) = n - 1 := by omega
  rw [e] at h8
  exact ⟨A2, c2, by rw [e]; rfl, h8, h9.ext hx1 h5⟩

end Go.Proofs.Ytcfimkjkolgboaa
