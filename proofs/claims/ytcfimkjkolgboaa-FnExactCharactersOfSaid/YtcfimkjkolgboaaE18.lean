import Derived.Test.YtcfimkjkolgboaaE17
set_option linter.unusedVariables false
set_option linter.unusedSimpArgs false
namespace Go.Proofs.Ytcfimkjkolgboaa
open Go.RowKit

def bit (m k : Nat) : Bool := m / 2 ^ k % 2 == 1
theorem bits_u64 : ∀ x : Fin 64, bits .and .u64 ((x.1 : Nat) : Int) 1 = ((x.1 % 2 : Nat) : Int) := by decide +kernel
theorem bits_i64 : ∀ x : Fin 64, bits .and .i64 ((x.1 : Nat) : Int) 1 = ((x.1 % 2 : Nat) : Int) := by decide +kernel
theorem bit_u64 {m : Nat} (hm : m < 64) (k : Nat) : (bits .and .u64 ((m : Int) / 2 ^ k) 1 == 1) = bit m k := by
  have e : ((m : Int) / 2 ^ k) = ((m / 2 ^ k : Nat) : Int) := by simp
  rw [e, bits_u64 ⟨m / 2 ^ k, Nat.lt_of_le_of_lt (Nat.div_le_self _ _) hm⟩]
  unfold bit
  rw [Bool.eq_iff_iff]
  simp only [beq_iff_eq]
  omega
theorem bit_i64 {m : Nat} (hm : m < 64) (k : Nat) : (bits .and .i64 ((m : Int) / 2 ^ k) 1 == 1) = bit m k := by
  have e : ((m : Int) / 2 ^ k) = ((m / 2 ^ k : Nat) : Int) := by simp
  rw [e, bits_i64 ⟨m / 2 ^ k, Nat.lt_of_le_of_lt (Nat.div_le_self _ _) hm⟩]
  unfold bit
  rw [Bool.eq_iff_iff]
  simp only [beq_iff_eq]
  omega
/-- The places of the bits of m, of the first k. -/
def bl (m : Nat) : Nat → List Int
  | 0 => []
  | k + 1 => if bit m k then bl m k ++ [(k : Int)] else bl m k
theorem bl_len (m k : Nat) : (bl m k).length ≤ k := by
  induction k with
  | zero => simp [bl]
  | succ k ih =>
    simp only [bl]
    split
    · simp; omega
    · omega
theorem bl_more {m n : Nat} (h : m < 2 ^ n) (j : Nat) : bl m (n + j) = bl m n := by
  induction j with
  | zero => rfl
  | succ j ih =>
    have : bit m (n + j) = false := by
      unfold bit
      rw [Nat.div_eq_of_lt (Nat.lt_of_lt_of_le h (Nat.pow_le_pow_right (by omega) (by omega)))]
      rfl
    show (if bit m (n + j) then _ else _) = _
    rw [this]
    simpa using ih
theorem bl_mem {m : Nat} : ∀ {k : Nat} {x : Int}, x ∈ bl m k → 0 ≤ x ∧ x < k := by
  intro k
  induction k with
  | zero => intro x hx; simp [bl] at hx
  | succ k ih =>
    intro x hx
    simp only [bl] at hx
    split at hx
    · simp only [List.mem_append, List.mem_singleton] at hx
      rcases hx with hx | hx
      · have := ih hx; omega
      · omega
    · have := ih hx; omega

set_option maxHeartbeats 1000000 in
theorem list_any (m : Nat) (hm : m < 64) (w : World) : Calls Try.prog 115 #[.int .u64 m] w (RetInts w (bl m 64).length (bl m 64)) := by
  go_enter Try.func115, Try.ntmps115
  go_wp2_with fail
  go_loopw [3, 6] (fun u v wr => ∃ k : Nat, k ≤ 64 ∧ v = .int .i64 k ∧ ∃ A n c, n = (bl m k).length ∧ u = .slice A n c ∧ Own wr w.heap.size 2 (.slice A n c) (ints (bl m k)) ∧ Ext w wr) (fun _ v _ => 64 - (intOf v).toNat)
  case atStart => exact ⟨0, Nat.zero_le _, rfl, _, 0, 0, rfl, rfl, Own.empty _ _, (Ext.refl _).alloc _⟩
  case round =>
    obtain ⟨k, hk, rfl, A, n, c, hn, rfl, ho, hx⟩ := hrel
    by_cases hlt : k < 64
    · have hb := bit_u64 hm k
      have hn64 := bl_len m k
      rw [← hn] at hn64
      have Hn := Lib.hid hn
      clear hn
      cases ht : bit m k with
      | true =>
        rw [ht] at hb
        have e : bl m (k + 1) = bl m k ++ [(k : Int)] := by simp [bl, ht]
        have He := Lib.hid e
        clear e ht
        have ho' := ho.ext ((Ext.refl wr).alloc (.cells #[.int .i64 k] 2))
        have hsz := hx.size
        have hl := ho.len
        go_wp2_with (at_builtin; go_loud (refine wpList_app1 rfl _ _ _ rfl (wr.alloc (.cells #[.int .i64 k] 2)) w.heap.size 2 (.int .i64 0) 8 Try.underlying26 info_i64 rfl (by decide) (.slice A n c) (ints (bl m k)) rfl wr.heap.size (.int .i64 k) rfl (One.new _ _ _) ho' rfl (by omega) (by simp; omega) ?_); rw [hl]; intro A' c' w3 h5 h6 h7)
        go_roundw
        case rel =>
          refine ⟨k + 1, by omega, by go_num, A', n + 1, c', by rw [He.out, List.length_append, ← Hn.out]; rfl, rfl, ?_, h6.ext (hx.alloc _) ho'⟩
          rw [He.out, ints_append]
          exact h5
        case measure => simp [intOf]; omega
      | false =>
        rw [ht] at hb
        have e : bl m (k + 1) = bl m k := by simp [bl, ht]
        have He := Lib.hid e
        clear e ht
        go_wp2_with fail
        go_roundw
        case rel => exact ⟨k + 1, by omega, by go_num, A, n, c, by rw [He.out]; exact Hn.out, rfl, by rw [He.out]; exact ho, hx⟩
        case measure => simp [intOf]; omega
    · obtain rfl : k = 64 := by omega
      subst hn
      go_wp2_with fail
      go_ret
      exact ⟨A, c, rfl, ho, hx⟩

set_option maxHeartbeats 1000000 in
theorem degree_any (m : Nat) (hm : m < 64) (w : World) : Calls Try.prog 114 #[.int .u64 m] w fun e w' => e = .returned (.int .i64 (bl m 64).length) ∧ Ext w w' := by
  have hn64 := bl_len m 64
  go_enter Try.func114, Try.ntmps114
  go_wp2_with fail
  refine (list_any m hm _).mono ?_
  rintro e w1 ⟨A, c, rfl, ho, hx⟩
  go_wp2_with fail
  refine (length_any A _ c (by omega) _).mono ?_
  rintro e w2 ⟨rfl, rfl⟩
  go_wp2_with fail
  go_ret
  exact ⟨rfl, hx⟩

end Go.Proofs.Ytcfimkjkolgboaa
