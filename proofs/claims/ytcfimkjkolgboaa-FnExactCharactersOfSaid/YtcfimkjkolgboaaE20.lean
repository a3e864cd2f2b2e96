import Derived.Test.YtcfimkjkolgboaaE19
set_option linter.unusedVariables false
set_option linter.unusedSimpArgs false
namespace Go.Proofs.Ytcfimkjkolgboaa
open Go.RowKit

set_option maxHeartbeats 2000000 in
theorem l06Choices_any (n k : Nat) (hn : n ≤ 6) (hk : k ≤ 6) (w : World) : Calls Try.prog 100 #[.int .i64 n, .int .i64 k] w (RetRows w (chL n k (2 ^ n))) := by
  have hp := pow_le hn
  obtain ⟨M, hM⟩ : ∃ M : Nat, M = 2 ^ n := ⟨_, rfl⟩
  have hwp : IntKind.i64.wrap ((2 : Int) ^ n) = (M : Int) := by
    have e : ((2 : Int) ^ n) = (M : Int) := by rw [hM]; simp
    rw [e]
    exact IntWalk.i64_in _ (by omega)
  have hwp' := hwp
  rw [IntWalk.i64_left] at hwp'
  rw [← hM] at hp ⊢
  have HM := Lib.hid hM
  clear hM
  go_enter Try.func100, Try.ntmps100
  go_wp2_with fail
  go_loopw [5, 6] (fun u v wr => ∃ m : Nat, m ≤ M ∧ v = .int .i64 m ∧ ∃ A N c vs, N = (chL n k m).length ∧ u = .slice A N c ∧ Own wr w.heap.size 26 (.slice A N c) vs ∧ RowsOf wr w.heap.size vs (chL n k m) ∧ Ext w wr) (fun _ v _ => M - (intOf v).toNat)
  case atStart => exact ⟨0, Nat.zero_le _, rfl, _, 0, 0, [], rfl, rfl, Own.empty _ _, ⟨rfl, fun j L hj => by simp [chL] at hj⟩, (Ext.refl _).alloc _⟩
  case round =>
    obtain ⟨m, hm, rfl, A, N, c, vs, hN, rfl, ho, hr, hx⟩ := hrel
    by_cases hlt : m < M
    · have hm64 : m < 64 := by omega
      have hNl := chL_len n k m
      rw [← hN] at hNl
      have HN := Lib.hid hN
      clear hN
      obtain ⟨wk, hwk⟩ : ∃ wk : World, wk = wr := ⟨_, rfl⟩
      subst hwk
      go_wp2_with fail
      go_loopw [7, 8] (fun u v wr => ∃ i : Nat, i ≤ n ∧ v = .int .i64 i ∧ ∃ A2 n2 c2, n2 = (bl m i).length ∧ u = .slice A2 n2 c2 ∧ Own wr wk.heap.size 2 (.slice A2 n2 c2) (ints (bl m i)) ∧ Ext wk wr) (fun _ v _ => n - (intOf v).toNat)
      case atStart => exact ⟨0, Nat.zero_le _, rfl, _, 0, 0, rfl, rfl, Own.empty _ _, (Ext.refl _).alloc _⟩
      case round =>
        obtain ⟨i, hi, rfl, A2, n2, c2, hn2, rfl, ho2, hx2⟩ := hrel
        have hlen := bl_len m i
        rw [← hn2] at hlen
        have Hn2 := Lib.hid hn2
        clear hn2
        by_cases hli : i < n
        · have hb := bit_i64 hm64 i
          cases ht : bit m i with
          | true =>
            rw [ht] at hb
            have e : bl m (i + 1) = bl m i ++ [(i : Int)] := by simp [bl, ht]
            have He := Lib.hid e
            clear e ht
            have ho' := ho2.ext ((Ext.refl wr).alloc (.cells #[.int .i64 i] 2))
            have hsz := hx2.size
            have hl := ho2.len
            go_wp2_with (at_builtin; go_loud (refine wpList_app1 rfl _ _ _ rfl (wr.alloc (.cells #[.int .i64 i] 2)) wk.heap.size 2 (.int .i64 0) 8 Try.underlying26 info_i64 rfl (by decide) (.slice A2 n2 c2) (ints (bl m i)) rfl wr.heap.size (.int .i64 i) rfl (One.new _ _ _) ho' rfl (by omega) (by simp; omega) ?_); rw [hl]; intro A' c' w3 h5 h6 h7)
            go_roundw
            case rel =>
              refine ⟨i + 1, by omega, by go_num, A', n2 + 1, c', by rw [He.out, List.length_append, ← Hn2.out]; rfl, rfl, ?_, h6.ext (hx2.alloc _) ho'⟩
              rw [He.out, ints_append]
              exact h5
            case measure => simp [intOf]; omega
          | false =>
            rw [ht] at hb
            have e : bl m (i + 1) = bl m i := by simp [bl, ht]
            have He := Lib.hid e
            clear e ht
            go_wp2_with fail
            go_roundw
            case rel => exact ⟨i + 1, by omega, by go_num, A2, n2, c2, by rw [He.out]; exact Hn2.out, rfl, by rw [He.out]; exact ho2, hx2⟩
            case measure => simp [intOf]; omega
        · obtain rfl : i = n := by omega
          by_cases hk' : n2 = k
          · have hke : ((n2 : Int) == (k : Int)) = true := by simp [hk']
            have hch : chL i k (m + 1) = chL i k m ++ [bl m i] := by simp only [chL]; rw [← Hn2.out, if_pos hk']
            have HCh := Lib.hid hch
            have HK := Lib.hid hk'
            clear hch hk'
            have hy : Ext wr (wr.alloc (.cells #[.slice A2 n2 c2] 26)) := (Ext.refl _).alloc _
            have ho' := (ho.ext hx2).ext hy
            have hr' := (hr.ext hx2).ext hy
            have ho2' := (ho2.base (b := w.heap.size) hx.size).ext hy
            have hx' := (hx.trans hx2).trans hy
            have hsz := hx'.size
            have hl := ho.len
            have hone := One.new wr (.slice A2 n2 c2) 26
            go_wp2_with (at_builtin; go_loud (refine wpList_app1w rfl _ _ _ rfl (wr.alloc (.cells #[.slice A2 n2 c2] 26)) w.heap.size 26 (.slice none 0 0) 24 Try.underlying84 info_is rfl (by decide) (.slice A N c) vs rfl wr.heap.size (.slice A2 n2 c2) rfl hone ho' rfl (by omega) hsz ?_); rw [hl]; intro A' c' w3 h5 h6 h7)
            go_roundw
            case rel =>
              have hgo : ∃ m' : Nat, m' ≤ M ∧ Value.int .i64 ((m : Int) + 1) = .int .i64 m' ∧ ∃ A1 N1 c1 vs1, N1 = (chL i k m').length ∧ Value.slice A' (N + 1) c' = .slice A1 N1 c1 ∧ Own w3 w.heap.size 26 (.slice A1 N1 c1) vs1 ∧ RowsOf w3 w.heap.size vs1 (chL i k m') ∧ Ext w w3 := by
                refine ⟨m + 1, by omega, by simp, A', N + 1, c', _, by rw [HCh.out, List.length_append, ← HN.out]; rfl, rfl, h5, ?_, h6.ext hx' ho'⟩
                rw [HCh.out]
                have h8 := RowsOf.push hr' (A := A2) (c := c2) (L := bl m i) (by rw [← Hn2.out]; exact ho2')
                rw [← Hn2.out] at h8
                exact h8.wr h6 ho'
              first | exact hgo | ((repeat apply Exists.intro); exact ⟨hgo, rfl⟩)
            case measure => simp [intOf]; omega
          · have hke : ((n2 : Int) == (k : Int)) = false := by simp; omega
            have hch : chL i k (m + 1) = chL i k m := by simp only [chL]; rw [← Hn2.out, if_neg hk']
            have HCh := Lib.hid hch
            clear hch hk'
            go_wp2_with fail
            go_roundw
            case rel => exact ⟨m + 1, by omega, by go_num, A, N, c, vs, by rw [HCh.out]; exact HN.out, rfl, ho.ext hx2, by rw [HCh.out]; exact hr.ext hx2, hx.trans hx2⟩
            case measure => simp [intOf]; omega
    · obtain rfl : m = M := by omega
      subst hN
      go_wp2_with fail
      go_ret
      exact ⟨A, c, vs, rfl, ho, hr, hx⟩

end Go.Proofs.Ytcfimkjkolgboaa
