
/- All rows of a graph taken out, the program. -/

import Derived.Test.YtkifpligpobiaaaH6
set_option linter.unusedVariables false
set_option linter.unusedSimpArgs false

namespace Go.Proofs.Ytkifpligpobiaaa

open Go.RowKit


/-- The masks of the first k rows when they are taken out. -/
def tkk (n : Nat) (B : Grf) (k : Nat) : List Nat := (List.range k).map fun i => msk n (stB B i i)
theorem tkk_next (n : Nat) (B : Grf) (k : Nat) : tkk n B (k + 1) = tkk n B k ++ [msk n (stB B k k)] := by unfold tkk; rw [List.range_succ, List.map_append]; rfl
theorem tkk_len (n : Nat) (B : Grf) (k : Nat) : (tkk n B k).length = k := by simp [tkk]
theorem tkk_at {n i k : Nat} (B : Grf) (h : i < k) : (tkk n B k).getD i 0 = msk n (stB B i i) := by simp [tkk, h]
theorem length_u64 (A : Option Addr) (n cap : Nat) (hn : n ≤ 9223372036854775807) (w : World) :
    Calls Try.prog 129 #[.slice A n cap] w fun e w' => e = .returned (.int .i64 n) ∧ w = w' := by
  go_enter Try.func129, Try.ntmps129
  go_upto_region 1 with (fail)
  go_wp2
  go_ret
  exact ⟨rfl, rfl⟩

set_option maxRecDepth 20000 in
set_option maxHeartbeats 8000000 in
theorem takenOut_any (base g N c : Nat) (B : Grf) (hn32 : N ≤ 32) (w : World) (hgw : g < w.heap.size) (og : Own w base 86 (.slice (some ⟨g, 0, none⟩) N c) (u64s (gl N B))) :
    Calls Try.prog 80 #[.slice (some ⟨g, 0, none⟩) N c] w fun e w' => (∃ A k, e = .returned (.slice A N k) ∧ Own w' w.heap.size 86 (.slice A N k) (u64s (tkk N B N))) ∧ Wr w w' (.slice (some ⟨g, 0, none⟩) N c) := by
  go_enter Try.func80, Try.ntmps80
  go_upto_region 1 with (fail)
  go_wp2_with fail
  refine (length_u64 _ N c (by omega) _).mono ?_
  rintro e w1 ⟨rfl, rfl⟩
  have hx0 : Ext w (w.alloc (.cells #[] 86)) := (Ext.refl _).alloc _
  have o0 := Own.empty w 86
  have og0 := og.ext hx0
  have hwr0 : Wr w (w.alloc (.cells #[] 86)) (.slice (some ⟨g, 0, none⟩) N c) := Wr.of_ext hx0 _
  clear hx0
  go_wp2_with fail
  go_loopw [3, 8] (fun u v wr => ∃ i : Nat, i ≤ N ∧ v = .int .i64 i ∧ ∃ A k, u = .slice A i k ∧ Own wr w.heap.size 86 (.slice A i k) (u64s (tkk N B i)) ∧ Own wr base 86 (.slice (some ⟨g, 0, none⟩) N c) (u64s (gl N (stB B i))) ∧ Wr w wr (.slice (some ⟨g, 0, none⟩) N c)) (fun _ v _ => N - (intOf v).toNat)
  case atStart => exact ⟨0, Nat.zero_le _, rfl, _, 0, rfl, o0, og0, hwr0⟩
  case round =>
    rename World => wA
    clear og og0 o0 hwr0
    obtain ⟨i, hi, rfl, A1, k1, rfl, oo, og, hwr⟩ := hrel
    by_cases hlt : i < N
    · have g1 : IntKind.i64.wrap ((i : Int) + 1) = (i : Int) + 1 := IntWalk.i64_in _ (by omega)
      go_wp2_with fail
      refine (takeOut_any base g N c i (stB B i) hn32 hlt _ og).mono ?_
      rintro e w3 ⟨rfl, og3, hw3⟩
      have oo3 := oo.other hw3 (.inr (oo.above hgw))
      have hwr3 := hwr.trans hw3
      obtain ⟨mm, hmm⟩ : ∃ mm, mm = msk N (stB B i i) := ⟨_, rfl⟩
      rw [← hmm]
      have HMM := Lib.hid hmm
      clear hmm hw3 oo og hwr
      have xg : Ext w3 (w3.alloc (.cells #[.int .u64 (mm : Int)] 86)) := (Ext.refl _).alloc _
      have ho' := oo3.ext xg
      have og4 := og3.ext xg
      have hwr4 := hwr3.trans (Wr.of_ext xg _)
      have hsz := hwr3.size
      have hl := oo3.len
      clear xg oo3 og3 hwr3
      go_wp2_with (at_builtin; go_loud (refine wpList_app1 rfl _ _ _ rfl (w3.alloc (.cells #[.int .u64 (mm : Int)] 86)) w.heap.size 86 (.int .u64 0) 8 Try.underlying80 info_u64 rfl (by decide) (.slice A1 i k1) (u64s (tkk N B i)) rfl w3.heap.size (.int .u64 (mm : Int)) rfl (One.new _ _ _) ho' rfl (by omega) (by simp; omega) ?_); rw [hl]; intro A' c' w9 h5 h6 h7)
      go_roundw
      case rel =>
        refine ⟨i + 1, by omega, by go_num, A', c', rfl, ?_, og4.other h6 (.inr ?_), ?_⟩
        · rw [tkk_next, u64s_append, ← HMM.out]
          exact h5
        · intro e
          have e' : (Value.slice A1 i k1).ownBlock = some g := by rw [← e]; rfl
          exact ho'.above hgw e'
        · exact ⟨h6.os.trans hwr4.os, h6.tape.trans hwr4.tape, h6.output.trans hwr4.output, Nat.le_trans hwr4.size h6.size, fun b hb hne => (h6.block b (Nat.lt_of_lt_of_le hb hwr4.size) (fun e => by have := (ho'.row.lt b e.symm).1; omega)).trans (hwr4.block b hb hne)⟩
      case measure => simp [intOf]; omega
    · obtain rfl : i = N := by omega
      go_wp2_with fail
      go_ret
      exact ⟨⟨A1, k1, rfl, oo⟩, hwr⟩

end Go.Proofs.Ytkifpligpobiaaa
