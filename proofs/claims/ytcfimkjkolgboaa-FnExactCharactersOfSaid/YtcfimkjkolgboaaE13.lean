import Derived.Test.YtcfimkjkolgboaaE12
import Derived.Deep.DeepAppendRoom
import Derived.Lib.SliceRun
set_option linter.unusedVariables false
set_option linter.unusedSimpArgs false
namespace Go.Proofs.Ytcfimkjkolgboaa
open Go.RowKit

set_option maxHeartbeats 1000000 in
theorem clone_any (ad : Addr) (n cap : Nat) (xs : List Int) (w : World) (hr : Rds w (some ad) n (ints xs)) (hn : n ≤ 1048576) :
    Calls Try.prog 109 #[.slice (some ad) n cap] w (RetInts w n xs) := by
  have q22 : ∀ (w : World) (a : Option Addr) (n c n' c' : Nat), (binOp .eql 26 (.slice a n c) (.slice none n' c')).run Try.prog w = .ok (.bool a.isNone) w := fun w a n c n' c' => Lib.run_eql_slice_nil w _ _ a n c n' c' Try.underlying26
  have x0 : Ext w (w.alloc (.cells #[] 2)) := (Ext.refl _).alloc _
  have o0 := Own.empty w 2
  have hl := hr.len
  have hc : Hid (∀ j u, (ints xs)[j]? = some u → w.cell? (ad.add j) = some u) := by
    intro j u hu
    have hj := (List.getElem?_eq_some_iff.1 hu).1
    obtain ⟨ad', he, hc⟩ := hr.at' (by omega)
    obtain rfl := Option.some.inj he
    rw [hc j (by omega), hu]
  have HL := Lib.hid hl
  clear hl
  go_enter Try.func109, Try.ntmps109
  go_wp2_with (at_builtin; go_loud (refine wpList_appN rfl _ _ _ rfl (w.alloc (.cells #[] 2)) w.heap.size 2 (.int .i64 0) 8 Try.underlying26 info_i64 rfl (by decide) (.slice (some ⟨w.heap.size, 0, none⟩) 0 0) [] rfl ad n cap (ints xs) rfl HL.out (fun j u hu => x0.cell (hc.out j u hu)) o0 (ints_oneCell' _) (by simp; omega) (by simp) ?_); rw [List.nil_append, List.length_nil, Nat.zero_add]; intro A1 c1 w1 h5 h6 _)
  go_ret
  exact ⟨A1, c1, rfl, h5, h6.ext x0 o0⟩

theorem Own.take {w : World} {base g : Nat} {e : TypeId} {n cap : Nat} {vs : List Value} (h : Own w base e (.slice (some ⟨g, 0, none⟩) n cap) vs) (k : Nat) (hk : k ≤ n) : Own w base e (.slice (some ⟨g, 0, none⟩) k cap) (vs.take k) := by
  have hl := h.len
  refine ⟨⟨by simp, ?_⟩, by have := h.small; simp; omega⟩
  rcases h.row.2 with ⟨h1, h0⟩ | ⟨g', cap', cur, h1, h2, h3, h4, h5, h6, h7⟩
  · simp at h1
  · simp only [Value.slice.injEq, Option.some.injEq, Addr.mk.injEq, and_true] at h1
    obtain ⟨rfl, rfl, rfl⟩ := h1
    refine .inr ⟨g, cap, cur, by simp only [List.length_take]; congr 1; omega, h2, h3, by simp; omega, h5, h6, ?_⟩
    have h8 : cur.toList.take vs.length = vs := by simpa using h7
    rw [Nat.mul_one, List.length_take]
    conv => rhs; rw [← h8, List.take_take]
theorem Own.spare {w : World} {base g : Nat} {e : TypeId} {n cap : Nat} {vs : List Value} (h : Own w base e (.slice (some ⟨g, 0, none⟩) n cap) vs) (j : Nat) (hj : j < cap) : (w.cell? ⟨g, j, none⟩).isSome = true ∧ w.frozen? ⟨g, j, none⟩ = false := by
  rcases h.row.2 with ⟨h1, h0⟩ | ⟨g', cap', cur, h1, h2, h3, h4, h5, h6, h7⟩
  · simp at h1
  · simp only [Value.slice.injEq, Option.some.injEq, Addr.mk.injEq, and_true] at h1
    obtain ⟨rfl, _, rfl⟩ := h1
    refine ⟨?_, frozen_of_row w g j cur e h3⟩
    rw [cell_of_row w g j cur e (0, 0) h3]
    simp
    omega

set_option maxHeartbeats 2000000 in
theorem delete_any (base g n cap k : Nat) (xs : List Int) (w : World) (ho : Own w base 2 (.slice (some ⟨g, 0, none⟩) n cap) (ints xs)) (hk : k < n) :
    Calls Try.prog 108 #[.slice (some ⟨g, 0, none⟩) n cap, .int .i64 k, .int .i64 ((k : Int) + 1)] w fun e w' => e = .returned (.slice (some ⟨g, 0, none⟩) (n - 1) cap) ∧
      Own w' base 2 (.slice (some ⟨g, 0, none⟩) (n - 1) cap) (ints (xs.eraseIdx k)) ∧ Wr w w' (.slice (some ⟨g, 0, none⟩) n cap) := by
  have hcap := ho.cap
  have hl := ho.len
  have hsm := ho.small
  rw [ints_length] at hl hsm
  have hne : ((k : Int) == (k : Int) + 1) = false := by simp; omega
  go_enter Try.func108, Try.ntmps108
  go_wp2_with fail
  have hk1 : (k : Int) + 1 ≤ n := by omega
  have hk0 : (k : Int) ≤ cap := by omega
  obtain ⟨a1, ha1, hs1⟩ : ∃ a1 : Addr, (if cap = k + 1 then some (⟨g, 0, none⟩ : Addr) else some (⟨g, k + 1, none⟩ : Addr)) = some a1 ∧ Hid (∀ j u, (ints (xs.drop (k + 1)))[j]? = some u → w.cell? (a1.add j) = some u) := by
    by_cases h : cap = k + 1
    · refine ⟨⟨g, 0, none⟩, by simp [h], fun j u hu => ?_⟩
      have : (ints (xs.drop (k + 1))).length = 0 := by rw [ints_length, List.length_drop]; omega
      rw [List.length_eq_zero_iff.1 this] at hu
      simp at hu
    · refine ⟨⟨g, k + 1, none⟩, by simp [h], fun j u hu => ?_⟩
      have hj := (List.getElem?_eq_some_iff.1 hu).1
      rw [ints_length, List.length_drop] at hj
      rw [Addr.add_lit, (ho.at_ (k + 1 + j) (by omega)).1, ← hu]
      simp [ints]
  refine wp_region_T (cs := []) [0, 1, 2, 3, 4, 5] [6, 7] [] [] (fun _ _ => False) (fun _ _ _ => True) (by kernel_rfl) (by kernel_rfl) (fun _ _ _ _ _ _ => trivial) ?_
  refine' wpT_det (o := ⟨some 20, Op.move (Operand.tmp 0), 26, "slices.go:232", #[], none⟩) rfl (by rfl) (by rfl) (fun w' hw' => ?_) ?_; rotate_left
  · go_simp <;> first | rfl | exact ⟨rfl, rfl⟩
  simp only [Act.put, List.setIfInBounds_toArray, List.set_cons_zero, List.set_cons_succ]
  refine' wpT_det (o := ⟨some 21, Op.move (Operand.tmp 1), 3, "slices.go:232", #[], none⟩) rfl (by rfl) (by rfl) (fun w' hw' => ?_) ?_; rotate_left
  · go_simp <;> first | rfl | exact ⟨rfl, rfl⟩
  simp only [Act.put, List.setIfInBounds_toArray, List.set_cons_zero, List.set_cons_succ]
  refine' wpT_det (o := ⟨some 22, Op.slice 26 (Operand.tmp 20) none (some (Operand.tmp 21)) none, 26, "slices.go:232", #[{ on := 0, ground := Ground.data }, { on := 1, ground := Ground.data }], none⟩) rfl (by rfl) (by rfl) (fun w' hw' => ?_) ?_; rotate_left
  · go_simp <;> first | rfl | exact ⟨rfl, rfl⟩
  simp only [Act.put, List.setIfInBounds_toArray, List.set_cons_zero, List.set_cons_succ]
  refine' wpT_det (o := ⟨some 23, Op.move (Operand.tmp 0), 26, "slices.go:232", #[], none⟩) rfl (by rfl) (by rfl) (fun w' hw' => ?_) ?_; rotate_left
  · go_simp <;> first | rfl | exact ⟨rfl, rfl⟩
  simp only [Act.put, List.setIfInBounds_toArray, List.set_cons_zero, List.set_cons_succ]
  refine' wpT_det (o := ⟨some 24, Op.move (Operand.tmp 2), 3, "slices.go:232", #[], none⟩) rfl (by rfl) (by rfl) (fun w' hw' => ?_) ?_; rotate_left
  · go_simp <;> first | rfl | exact ⟨rfl, rfl⟩
  simp only [Act.put, List.setIfInBounds_toArray, List.set_cons_zero, List.set_cons_succ]
  refine' wpT_det (o := ⟨some 25, Op.slice 26 (Operand.tmp 23) (some (Operand.tmp 24)) none none, 26, "slices.go:232", #[{ on := 3, ground := Ground.data }, { on := 4, ground := Ground.data }], none⟩) rfl (by rfl) (by rfl) (fun w' hw' => ?_) ?_; rotate_left
  · go_simp <;> first | rfl | exact ⟨rfl, rfl⟩
  simp only [Act.put, List.setIfInBounds_toArray, List.set_cons_zero, List.set_cons_succ]
  refine wpT_nil (fun w2 hw' hF => ?_)
  show wpList _ _ _ [(⟨some 26, Op.call { callee := Callee.builtin Builtin.append, args := #[Operand.tmp 22, Operand.tmp 25], argTypes := #[26, 26] }, 26, "slices.go:232", #[{ on := 2, ground := Ground.data }, { on := 5, ground := Ground.data }], none⟩ : Oper), (⟨some 0, Op.assign (Operand.tmp 26), 26, "slices.go:232", #[{ on := 6, ground := Ground.data }, { on := 6, ground := Ground.chain }, { on := 0, ground := Ground.phase }, { on := 1, ground := Ground.phase }, { on := 2, ground := Ground.phase }, { on := 3, ground := Ground.phase }, { on := 4, ground := Ground.phase }, { on := 5, ground := Ground.phase }, { on := 6, ground := Ground.phase }], none⟩ : Oper)] _ _
  have hx := hw'.undrew
  clear hF hw'
  have o1 : w2.ownsRow base 2 1 (.slice (some ⟨g, 0, none⟩) k cap) k (ints (xs.take k)) := by
    have h := ((ho.ext hx).take k (by omega)).row
    have e1 : (ints xs).take k = ints (xs.take k) := by simp [ints, List.map_take]
    have e2 : (ints (xs.take k)).length = k := by rw [ints_length, List.length_take]; omega
    rw [e1, e2] at h
    exact h
  have hd : (ints (xs.take k) ++ ints (xs.drop (k + 1))) = ints (xs.eraseIdx k) := by rw [← ints_append, List.eraseIdx_eq_take_drop_succ]
  have l1 : (ints (xs.drop (k + 1))).length = n - (k + 1) := by rw [ints_length, List.length_drop]; omega
  have l2 : (ints (xs.eraseIdx k)).length = n - 1 := by rw [ints_length, List.length_eraseIdx_of_lt (by omega)]; omega
  have en : k + (n - (k + 1)) = n - 1 := by omega
  have HD := Lib.hid hd
  have L1 := Lib.hid l1
  have L2 := Lib.hid l2
  have EN := Lib.hid en
  have hn1 : n - 1 < cap := by omega
  have hcn : ¬ cap = n - 1 := by omega
  clear hd l1 l2 en
  obtain ⟨i0, hi0, hz0, hz1, hz2⟩ := info_parts info_i64
  have v3 : ∀ w, (zeroValue 2).run Try.prog w = .ok (.int .i64 0) w := by intro w; simp [go_sem]
  go_wp2_with (at_builtin; go_loud (refine wpList_append_own_spare _ rfl _ _ _ rfl base 2 i0 1 Try.underlying26 hi0 hz1 g k cap (ints (xs.take k)) rfl o1 a1 (n - (k + 1)) (cap - (k + 1)) (ints (xs.drop (k + 1))) rfl (by rw [Nat.mul_one]; exact L1.out) (fun j u hu => hx.cell (hs1.out j u hu)) (ints_oneCell' _) (by omega) ?_); rw [EN.out, HD.out]; intro w3 h5 h6; have o3 : Own w3 base 2 (.slice (some ⟨g, 0, none⟩) (n - 1) cap) (ints (xs.eraseIdx k)) := ⟨by rw [L2.out]; exact h5, by rw [L2.out]; omega⟩; have hcl := fun ty => Lib.run_clear_slice w3 26 _ ty _ Try.underlying26 v3 rfl rfl g (n - 1) (n - (n - 1)) (cap - (n - 1)) (by omega) (fun t ht => (o3.spare (n - 1 + t) (by omega)).1) (fun t ht => (o3.spare (n - 1 + t) (by omega)).2))
  go_ret
  have e1 : n - (n - 1) = 1 := by omega
  have e2 : w3.setCells g (n - 1) (List.replicate (n - (n - 1)) (Value.int IntKind.i64 0)) = w3.setCell ⟨g, n - 1, none⟩ (.int .i64 0) := by rw [e1]; rfl
  rw [e2]
  obtain ⟨o4, hw4⟩ := o3.stored (n - 1) (.int .i64 0)
  rw [List.set_eq_of_length_le (by rw [L2.out]; exact Nat.le_refl _)] at o4
  refine ⟨rfl, o4, ?_⟩
  have g1 : Wr w w2 (.slice (some ⟨g, 0, none⟩) n cap) := Wr.of_ext hx _
  have g2 : Wr w2 w3 (.slice (some ⟨g, 0, none⟩) n cap) := h6
  have g3 : Wr w3 (w3.setCell ⟨g, n - 1, none⟩ (.int .i64 0)) (.slice (some ⟨g, 0, none⟩) n cap) := hw4
  exact (g1.trans g2).trans g3

end Go.Proofs.Ytcfimkjkolgboaa
