
/- The sparse square of a map's numbers. -/

import Derived.Test.YtkifpligpobiaaaK4

import Derived.Test.YtkifpligpobiaaaQ4

import Derived.Test.YtkifpligpobiaaaV2
set_option linter.unusedVariables false
set_option linter.unusedSimpArgs false

namespace Go.Proofs.Ytkifpligpobiaaa

open Go.RowKit


/-- One more element, as an operation of a region that draws. -/
theorem gives_app1 {P : Program} {R : Value → World → Prop} {o : Oper} {ev : Operand → Value} (s x : Operand) (t : TypeId)
    (ho : o.op = .call { callee := .builtin .append, args := #[s, x], argTypes := #[t, t] })
    (W : World) (base : Nat) (e : TypeId) (z : Value) (bytes : Nat) (ht : P.underlying t = some (.slice e)) (hi : (P.info? e).map (fun i => (i.zero, i.size, i.bytes)) = some (some z, 1, bytes)) (hz : z.cells.size = 1) (hby : bytes ≤ 16)
    (v : Value) (vs : List Value) (hs : ev s = v) (g : Nat) (y : Value) (hx : ev x = .slice (some ⟨g, 0, none⟩) 1 1) (hg : One W (.slice (some ⟨g, 0, none⟩) 1 1) y e) (hown : Own W base e v vs) (hy : y.oneCell' = true) (hl : vs.length + 1 ≤ 1048576) (hb : base ≤ W.heap.size)
    (h : ∀ A k w', Own w' base e (.slice A (vs.length + 1) k) (vs ++ [y]) → Wr W w' v → ((Value.slice A (vs.length + 1) k).ownBlock = v.ownBlock ∨ (Value.slice A (vs.length + 1) k).ownBlock = some W.heap.size) → R (.slice A (vs.length + 1) k) w') :
    Gives P R ((execOp ev o).run P W) := by
  obtain ⟨i0, hi0, hz0, hz1, hz2⟩ := info_parts hi
  obtain ⟨v', w', hr, h2, h3, h4, h5⟩ := run_append_own_at (P := P) W base t o.type e i0 z 1 bytes ht hi0 hz0 hz1 hz2 hz (by decide) v vs.length vs hown.row ⟨g, 0, none⟩ 1 1 [y] rfl (by
    intro j u hj
    match j, hj with
    | 0, hj =>
      simp at hj
      subst hj
      exact (hg g rfl).cell 0 rfl) (by intro u hu; simp at hu; subst hu; exact hy) (by unfold maxLen; omega) (Nat.le_trans (Nat.mul_le_mul_left _ hby) (by omega)) hb
  have ho' : Own w' base e v' (vs ++ [y]) := ⟨by simpa using h2, by simp; omega⟩
  obtain ⟨A, k, e1, _⟩ := ho'.rds
  rw [List.length_append] at e1
  subst e1
  refine gives_value ?_ (h A k w' ho' h3 h5)
  unfold execOp
  simp only [ho, resolve, invoke, builtin, Sem.run_bind, Sem.run_pure, Result.andThen_ok, List.map_toArray, List.map_cons, List.map_nil, hs, hx, hr]
  rfl

section

variable {w0 w : World} {b n k l q c d : Nat} {A B V X Y : Option Addr} {ss cs : List Int} {vs : List Nat}

theorem CL.app2 (hb : w0.heap.size ≤ b) (h1 : Blk w b #[.int .i64 n, .slice A ss.length k, .slice B cs.length l, .slice V vs.length q] 27)
    (h2 : Own w w0.heap.size 2 (.slice A ss.length k) (ints ss)) (y : Int) (h3 : Own w w0.heap.size 2 (.slice X (cs.length + 1) c) (ints cs ++ [.int .i64 y])) (z : Nat) (h4 : Own w w0.heap.size 43 (.slice Y (vs.length + 1) d) (flts vs ++ [.float .f32 z]))
    (h5 : NeV (.slice A ss.length k) (.slice X (cs.length + 1) c)) (h6 : Ext w0 w) :
    CL w0 b n ss (cs ++ [y]) (cfs vs ++ [c32 z]) ((w.setCell ⟨b, 2, none⟩ (.slice X (cs.length + 1) c)).setCell ⟨b, 3, none⟩ (.slice Y (vs.length + 1) d)) := by
  have hl : (cs ++ [y]).length = cs.length + 1 := by simp
  have hl2 : (vs ++ [z]).length = vs.length + 1 := by simp
  have g2 := h1.set 2 (.slice X (cs.length + 1) c)
  refine ⟨A, k, X, c, Y, d, vs ++ [z], by rw [cfs_append]; rfl, ?_, ?_, ?_, ?_, ?_, ?_⟩
  · rw [hl, hl2]; exact g2.set 3 _
  · exact (h2.setBlk h1 (by decide) 2 _).setBlk g2 (by decide) 3 _
  · rw [hl, ints_append]; exact (h3.setBlk h1 (by decide) 2 _).setBlk g2 (by decide) 3 _
  · rw [hl2, flts_append]; exact (h4.setBlk h1 (by decide) 2 _).setBlk g2 (by decide) 3 _
  · rw [hl]; exact h5
  · exact (h6.set hb _).set hb _
theorem CL.appS2 (hb : w0.heap.size ≤ b) (h1 : Blk w b #[.int .i64 n, .slice A ss.length k, .slice B cs.length l, .slice V vs.length q] 27)
    (y : Int) (h2 : Own w w0.heap.size 2 (.slice X (ss.length + 1) c) (ints ss ++ [.int .i64 y])) (h3 : Own w w0.heap.size 2 (.slice B cs.length l) (ints cs)) (h4 : Own w w0.heap.size 43 (.slice V vs.length q) (flts vs))
    (h5 : NeV (.slice X (ss.length + 1) c) (.slice B cs.length l)) (h6 : Ext w0 w) :
    CL w0 b n (ss ++ [y]) cs (cfs vs) (w.setCell ⟨b, 1, none⟩ (.slice X (ss.length + 1) c)) := by
  have hl : (ss ++ [y]).length = ss.length + 1 := by simp
  refine ⟨X, c, B, l, V, q, vs, rfl, ?_, ?_, ?_, ?_, ?_, ?_⟩
  · rw [hl]; exact h1.set 1 _
  · rw [hl, ints_append]; exact h2.setBlk h1 (by decide) 1 _
  · exact h3.setBlk h1 (by decide) 1 _
  · exact h4.setBlk h1 (by decide) 1 _
  · rw [hl]; exact h5
  · exact h6.set hb _
end

theorem One.wr {w w' : World} {x y : Value} {T e : TypeId} {base : Nat} {v : Value} {vs : List Value} (h : One w x y T) (hw : Wr w w' v) (ho : Own w base e v vs) (hT : T ≠ e) : One w' x y T := fun g hg => (h g hg).wr hw ho hT
theorem allOf_nil {τ : Nat → Value → World → Prop} {w : World} : allOf τ w [] := trivial
theorem allOf_cons {τ : Nat → Value → World → Prop} {w : World} {k : Nat} {l : List Nat} (h : τ k undef w) (h' : allOf τ w l) : allOf τ w (k :: l) := ⟨h, h'⟩


set_option maxRecDepth 20000 in
set_option maxHeartbeats 8000000 in
theorem told_any (b cnt n : Nat) (M : Sqr) (hn1 : 1 ≤ n) (hn32 : n ≤ 32) (w : World) (hM : MapV w b cnt n M) :
    Calls Try.prog 90 #[.int .i64 n, .map (some b)] w (RetSqB w (giveSp n M)) := by
  have HM := Lib.hid hM
  clear hM
  go_enter Try.func90, Try.ntmps90
  go_upto_region 1 with (fail)
  go_upto_region 1 with (fail)
  have hx0 : Ext w (w.alloc (.cells #[.int .i64 0, .slice none 0 0, .slice none 0 0, .slice none 0 0] 27)) := (Ext.refl _).alloc _
  have b0 := Blk.new w #[.int .i64 0, .slice none 0 0, .slice none 0 0, .slice none 0 0] 27
  obtain ⟨w0, hw0⟩ : ∃ w0 : World, w0 = w.alloc (.cells #[.int .i64 0, .slice none 0 0, .slice none 0 0, .slice none 0 0] 27) := ⟨_, rfl⟩
  rw [← hw0] at hx0 b0 ⊢
  clear hw0
  go_upto_region 2 with (fail)
  have hst : CL w0 (w0.heap.size + 1) n (clS n M 0) (clC n M (0 * n)) (clV n M (0 * n)) ((w0.alloc (.cells #[.int .i64 0] 2)).alloc (.cells #[.int .i64 n, .slice (some ⟨w0.heap.size, 0, none⟩) 1 1, .slice none 0 0, .slice none 0 0] 27)) := by
    have e1 : clS n M 0 = [0] := by simp [clS, clQ]
    have e2 : clC n M (0 * n) = [] := by simp [clC, clQ]
    have e3 : clV n M (0 * n) = [] := by simp [clV, clQ]
    rw [e1, e2, e3]
    refine ⟨some ⟨w0.heap.size, 0, none⟩, 1, none, 0, none, 0, [], rfl, ?_, ?_, Own.nil _ _ _, Own.nil _ _ _, (NeV.nil _ _ _).symm, ((Ext.refl _).alloc _).alloc _⟩
    · simpa using Blk.new (w0.alloc (.cells #[.int .i64 0] 2)) #[.int .i64 n, .slice (some ⟨w0.heap.size, 0, none⟩) 1 1, .slice none 0 0, .slice none 0 0] 27
    · exact (Own.single w0 2 (.int .i64 0)).ext ((Ext.refl _).alloc _)
  obtain ⟨w2, hw2⟩ : ∃ v : World, v = (w0.alloc (.cells #[.int .i64 0] 2)).alloc (.cells #[.int .i64 n, .slice (some ⟨w0.heap.size, 0, none⟩) 1 1, .slice none 0 0, .slice none 0 0] 27) := ⟨_, rfl⟩
  obtain ⟨bs, hbs⟩ : ∃ bs, bs = w0.heap.size + 1 := ⟨_, rfl⟩
  have hle : w0.heap.size ≤ bs := by omega
  rw [← hw2, ← hbs] at hst
  rw [← hw2, ← hbs]
  clear hw2 hbs
  go_wp2_with fail
  go_loopw [15] (fun u wr => ∃ i : Nat, i ≤ n ∧ u = .int .i64 i ∧ CL w0 bs n (clS n M i) (clC n M (i * n)) (clV n M (i * n)) wr) (fun u _ => n - (intOf u).toNat)
  case atStart => exact ⟨0, Nat.zero_le _, rfl, hst⟩
  case round =>
    rename World => wA
    clear hst
    obtain ⟨i, hi, rfl, hst⟩ := hrel
    have xA : Ext w wA := by obtain ⟨_, _, _, _, _, _, _, _, _, _, _, _, _, h6⟩ := hst; exact hx0.trans h6
    by_cases hlt : i < n
    · have g1 : IntKind.i64.wrap ((i : Int) + 1) = (i : Int) + 1 := IntWalk.i64_in _ (by omega)
      go_wp2_with fail
      go_loopw [19] (fun u wr => ∃ k : Nat, k ≤ n ∧ u = .int .i64 k ∧ CL w0 bs n (clS n M i) (clC n M (i * n + k)) (clV n M (i * n + k)) wr) (fun u _ => n - (intOf u).toNat)
      case atStart => exact ⟨0, Nat.zero_le _, rfl, by rw [Nat.add_zero]; exact hst⟩
      case round =>
        rename World => wB
        clear hst xA
        obtain ⟨k, hk, rfl, hst⟩ := hrel
        have xB : Ext w wB := by obtain ⟨_, _, _, _, _, _, _, _, _, _, _, _, _, h6⟩ := hst; exact hx0.trans h6
        by_cases hlk : k < n
        · have g4 : IntKind.i64.wrap ((k : Int) + 1) = (k : Int) + 1 := IntWalk.i64_in _ (by omega)
          obtain ⟨x, hrun, hxc⟩ := (HM.out.ext xB).look hn32 hlt hlk
          simp only [placeV] at hrun
          cases hm : M i k with
          | none =>
            rw [hm] at hrun
            simp only [Option.isSome_none] at hrun
            clear hxc
            go_wp2_with fail
            go_roundw
            case rel => exact ⟨k + 1, by omega, by go_num, by rw [clC_no hlk hm, clV_no hlk hm]; exact hst⟩
            case measure => simp [intOf]; omega
          | some v =>
            rw [hm] at hrun hxc
            simp only [Option.isSome_some] at hrun
            simp only [Option.getD_some] at hxc
            have HX := Lib.hid hxc
            clear hxc
            obtain ⟨ss, hss⟩ : ∃ ss, ss = clS n M i := ⟨_, rfl⟩
            obtain ⟨cs, hcs⟩ : ∃ cs, cs = clC n M (i * n + k) := ⟨_, rfl⟩
            obtain ⟨L, hL⟩ : ∃ L, L = clV n M (i * n + k) := ⟨_, rfl⟩
            have lN : i * n + k ≤ 1024 := by have := ix_lt hlt hlk; have : n * n ≤ 32 * 32 := Nat.mul_le_mul hn32 hn32; omega
            have lc : cs.length ≤ 1024 := by rw [hcs, clC_length]; have := clQ_le n M (i * n + k); omega
            have lv : L.length ≤ 1024 := by rw [hL, clV_length]; have := clQ_le n M (i * n + k); omega
            have HC := Lib.hid hcs
            have HS := Lib.hid hss
            have HL := Lib.hid hL
            rw [← hss, ← hcs, ← hL] at hst
            clear hss hcs hL lN
            obtain ⟨A1, k1, B1, l1, V1, q1, vs, h0, h1, h2, h3, h4, h5, h6⟩ := hst
            have hlv : vs.length ≤ 1024 := by rw [← cfs_length, h0]; exact lv
            have H5 := Lib.hid h5
            clear lv h5
            go_wp2_with fail
            clear hrun xB
            refine wp_region_TW (cs := [(4, [21, 3]), (9, [23, 8])]) [0, 1, 2, 3, 4, 5, 6, 7, 8, 9, 10] [11, 12, 13] [1, 3, 4, 6, 8, 9] [(1, [20]), (6, [20]), (4, [21, 22, 3]), (9, [23, 8])] (fun i__ v => match i__ with | 1 => v = (.slice B1 cs.length l1) | 3 => ∃ g, v = .slice (some ⟨g, 0, none⟩) 1 1 | 4 => ∃ X c, v = .slice X (cs.length + 1) c | 6 => v = (.slice V1 vs.length q1) | 8 => ∃ g, v = .slice (some ⟨g, 0, none⟩) 1 1 | 9 => ∃ X c, v = .slice X (vs.length + 1) c | _ => False) (fun i__ v w' => match i__ with | 3 => One w' v (.int .i64 k) 2 | 4 => ∀ X c, v = .slice X (cs.length + 1) c → Own w' w0.heap.size 2 (.slice X (cs.length + 1) c) (ints cs ++ [.int .i64 k]) ∧ NeV (.slice A1 ss.length k1) (.slice X (cs.length + 1) c) | 8 => One w' v (.float .f32 x) 43 | 9 => ∀ X c, v = .slice X (vs.length + 1) c → Own w' w0.heap.size 43 (.slice X (vs.length + 1) c) (flts vs ++ [.float .f32 x]) | 20 => Blk w' bs #[.int .i64 n, .slice A1 ss.length k1, .slice B1 cs.length l1, .slice V1 vs.length q1] 27 | 21 => Own w' w0.heap.size 2 (.slice B1 cs.length l1) (ints cs) | 22 => Own w' w0.heap.size 2 (.slice A1 ss.length k1) (ints ss) | 23 => Own w' w0.heap.size 43 (.slice V1 vs.length q1) (flts vs) | _ => True) w0 (Ext.drew h6) (phi [20, 21, 22, 23]) (phi_all (τ := (fun i__ v w' => match i__ with | 3 => One w' v (.int .i64 k) 2 | 4 => ∀ X c, v = .slice X (cs.length + 1) c → Own w' w0.heap.size 2 (.slice X (cs.length + 1) c) (ints cs ++ [.int .i64 k]) ∧ NeV (.slice A1 ss.length k1) (.slice X (cs.length + 1) c) | 8 => One w' v (.float .f32 x) 43 | 9 => ∀ X c, v = .slice X (vs.length + 1) c → Own w' w0.heap.size 43 (.slice X (vs.length + 1) c) (flts vs ++ [.float .f32 x]) | 20 => Blk w' bs #[.int .i64 n, .slice A1 ss.length k1, .slice B1 cs.length l1, .slice V1 vs.length q1] 27 | 21 => Own w' w0.heap.size 2 (.slice B1 cs.length l1) (ints cs) | 22 => Own w' w0.heap.size 2 (.slice A1 ss.length k1) (ints ss) | 23 => Own w' w0.heap.size 43 (.slice V1 vs.length q1) (flts vs) | _ => True)) (allOf_cons (h1.ext (Ext.drew (Ext.refl _))) (allOf_cons (h3.ext (Ext.drew (Ext.refl _))) (allOf_cons (h2.ext (Ext.drew (Ext.refl _))) (allOf_cons (h4.ext (Ext.drew (Ext.refl _))) allOf_nil))))) (by kernel_rfl) (by kernel_rfl) (by intro i v w' w2 h hx; revert h; (try dsimp only); split <;> intro h <;> first | trivial | exact (by first | exact Blk.ext h hx | exact One.ext h hx | exact Own.ext h hx | exact (fun X c e => Own.ext (h X c e) hx) | exact (fun X c e => ⟨Own.ext (h X c e).1 hx, (h X c e).2⟩))) ?_
            refine' wpT_det (o := ⟨some 31, Op.fieldAddr 27 (Operand.tmp 6) 2, 0, "l05_sparse.go:55", #[], none⟩) rfl (by rfl) (by rfl) (fun w' hw' => ?_) ?_; rotate_left
            · go_simp <;> first | rfl | exact ⟨rfl, rfl⟩
            simp only [Act.put, List.setIfInBounds_toArray, List.set_cons_zero, List.set_cons_succ]
            refine wpT_nd (o := ⟨some 32, Op.load 22 (Operand.tmp 31), 22, "l05_sparse.go:55", #[{ on := 0, ground := Ground.data }], none⟩) rfl (by rfl) (by rfl) (fun w' hw' hF R__ hGo => ?_) ⟨_, rfl⟩ ?_
            · have z_ := Blk.cell (hF 20 (by simp [uses]) undef rfl) 2 rfl; go_simp; exact gives_value rfl (hGo _ _ (Ext.refl _) rfl trivial)
            intro v hv
            obtain rfl : v = (.slice B1 cs.length l1) := hv
            simp only [Act.put, List.setIfInBounds_toArray, List.set_cons_zero, List.set_cons_succ]
            refine' wpT_det (o := ⟨some 33, Op.move (Operand.tmp 8), 2, "l05_sparse.go:55", #[], none⟩) rfl (by rfl) (by rfl) (fun w' hw' => ?_) ?_; rotate_left
            · go_simp <;> first | rfl | exact ⟨rfl, rfl⟩
            simp only [Act.put, List.setIfInBounds_toArray, List.set_cons_zero, List.set_cons_succ]
            refine wpT_nd (o := ⟨some 34, Op.buildSlice 22 1 #[(0, Operand.tmp 33)], 22, "l05_sparse.go:55", #[{ on := 2, ground := Ground.data }], none⟩) rfl (by rfl) (by rfl) (fun w' hw' hF R__ hGo => ?_) ⟨_, 0, rfl⟩ ?_
            · go_simp; exact gives_value rfl (hGo _ _ ((Ext.refl _).alloc _) ⟨_, rfl⟩ (One.new _ _ _))
            rintro _ ⟨g3, rfl⟩
            simp only [Act.put, List.setIfInBounds_toArray, List.set_cons_zero, List.set_cons_succ]
            refine wpT_mv (o := ⟨some 35, Op.call { callee := Callee.builtin Builtin.append, args := #[Operand.tmp 32, Operand.tmp 34], argTypes := #[22, 22] }, 22, "l05_sparse.go:55", #[{ on := 1, ground := Ground.data }, { on := 3, ground := Ground.data }], none⟩) rfl (by rfl) (by rfl) (fun w' hw' hF R__ hGo => ?_) ⟨_, none, 0, rfl⟩ ?_
            · have oB : Own w' w0.heap.size 2 (.slice B1 cs.length l1) (ints cs) := hF 21 (by simp [uses]) undef rfl; have oA : Own w' w0.heap.size 2 (.slice A1 ss.length k1) (ints ss) := hF 22 (by simp [uses]) undef rfl; have hg : One w' (.slice (some ⟨g3, 0, none⟩) 1 1) (.int .i64 k) 2 := hF 3 (by simp [uses]) _ rfl; have nAB := H5.out.1; refine gives_app1 _ _ _ rfl w' w0.heap.size 2 (.int .i64 0) 8 Try.underlying22 info_i64 rfl (by decide) (.slice B1 cs.length l1) (ints cs) rfl g3 (.int .i64 k) rfl hg oB rfl (by rw [ints_length]; omega) hw'.size ?_; rw [ints_length]; intro X9 c9 w9 p1 p2 p3; exact hGo _ _ (p2.ext hw' oB) (fun kk u hk hk2 h => by (revert hk hk2 h; (try dsimp only); split <;> intro hk hk2 h <;> first | trivial | (exfalso; apply hk; simp [uses]; done) | exact Blk.wr h p2 oB (by decide) | exact One.wr h p2 oB (by decide) | exact Own.other h p2 (Own.apart h oB (by decide)).1 | exact Own.other h p2 nAB | exact (fun X c e => Own.other (h X c e) p2 (Own.apart (h X c e) oB (by decide)).1) | exact (fun X c e => ⟨Own.other (h X c e).1 p2 (Own.apart (h X c e).1 oB (by decide)).1, (h X c e).2⟩))) ⟨_, _, rfl⟩ (fun X' c' e' => by (simp only [Value.slice.injEq] at e'; obtain ⟨rfl, -, rfl⟩ := e'; exact ⟨p1, H5.out.app oA p3⟩))
            rintro _ ⟨X, cX, rfl⟩
            simp only [Act.put, List.setIfInBounds_toArray, List.set_cons_zero, List.set_cons_succ]
            refine' wpT_det (o := ⟨some 36, Op.fieldAddr 27 (Operand.tmp 6) 3, 0, "l05_sparse.go:55", #[], none⟩) rfl (by rfl) (by rfl) (fun w' hw' => ?_) ?_; rotate_left
            · go_simp <;> first | rfl | exact ⟨rfl, rfl⟩
            simp only [Act.put, List.setIfInBounds_toArray, List.set_cons_zero, List.set_cons_succ]
            refine wpT_nd (o := ⟨some 37, Op.load 23 (Operand.tmp 36), 23, "l05_sparse.go:55", #[{ on := 5, ground := Ground.data }], none⟩) rfl (by rfl) (by rfl) (fun w' hw' hF R__ hGo => ?_) ⟨_, rfl⟩ ?_
            · have z_ := Blk.cell (hF 20 (by simp [uses]) undef rfl) 3 rfl; go_simp; exact gives_value rfl (hGo _ _ (Ext.refl _) rfl trivial)
            intro v hv
            obtain rfl : v = (.slice V1 vs.length q1) := hv
            simp only [Act.put, List.setIfInBounds_toArray, List.set_cons_zero, List.set_cons_succ]
            refine' wpT_det (o := ⟨some 38, Op.move (Operand.tmp 9), 43, "l05_sparse.go:55", #[], none⟩) rfl (by rfl) (by rfl) (fun w' hw' => ?_) ?_; rotate_left
            · go_simp <;> first | rfl | exact ⟨rfl, rfl⟩
            simp only [Act.put, List.setIfInBounds_toArray, List.set_cons_zero, List.set_cons_succ]
            refine wpT_nd (o := ⟨some 39, Op.buildSlice 23 1 #[(0, Operand.tmp 38)], 23, "l05_sparse.go:55", #[{ on := 7, ground := Ground.data }], none⟩) rfl (by rfl) (by rfl) (fun w' hw' hF R__ hGo => ?_) ⟨_, 0, rfl⟩ ?_
            · go_simp; exact gives_value rfl (hGo _ _ ((Ext.refl _).alloc _) ⟨_, rfl⟩ (One.new _ _ _))
            rintro _ ⟨g8, rfl⟩
            simp only [Act.put, List.setIfInBounds_toArray, List.set_cons_zero, List.set_cons_succ]
            refine wpT_mv (o := ⟨some 40, Op.call { callee := Callee.builtin Builtin.append, args := #[Operand.tmp 37, Operand.tmp 39], argTypes := #[23, 23] }, 23, "l05_sparse.go:55", #[{ on := 6, ground := Ground.data }, { on := 8, ground := Ground.data }, { on := 4, ground := Ground.chain }], none⟩) rfl (by rfl) (by rfl) (fun w' hw' hF R__ hGo => ?_) ⟨_, none, 0, rfl⟩ ?_
            · have oB : Own w' w0.heap.size 43 (.slice V1 vs.length q1) (flts vs) := hF 23 (by simp [uses]) undef rfl; have hg : One w' (.slice (some ⟨g8, 0, none⟩) 1 1) (.float .f32 x) 43 := hF 8 (by simp [uses]) _ rfl; have nAB : True := trivial; refine gives_app1 _ _ _ rfl w' w0.heap.size 43 (.float .f32 0) 4 Try.underlying23 info_f32 rfl (by decide) (.slice V1 vs.length q1) (flts vs) rfl g8 (.float .f32 x) rfl hg oB rfl (by rw [flts_length]; omega) hw'.size ?_; rw [flts_length]; intro X9 c9 w9 p1 p2 p3; exact hGo _ _ (p2.ext hw' oB) (fun kk u hk hk2 h => by (revert hk hk2 h; (try dsimp only); split <;> intro hk hk2 h <;> first | trivial | (exfalso; apply hk; simp [uses]; done) | exact Blk.wr h p2 oB (by decide) | exact One.wr h p2 oB (by decide) | exact Own.other h p2 (Own.apart h oB (by decide)).1 | exact Own.other h p2 nAB | exact (fun X c e => Own.other (h X c e) p2 (Own.apart (h X c e) oB (by decide)).1) | exact (fun X c e => ⟨Own.other (h X c e).1 p2 (Own.apart (h X c e).1 oB (by decide)).1, (h X c e).2⟩))) ⟨_, _, rfl⟩ (fun X' c' e' => by (simp only [Value.slice.injEq] at e'; obtain ⟨rfl, -, rfl⟩ := e'; exact p1))
            rintro _ ⟨Y, cY, rfl⟩
            simp only [Act.put, List.setIfInBounds_toArray, List.set_cons_zero, List.set_cons_succ]
            refine' wpT_det (o := ⟨some 41, Op.fieldAddr 27 (Operand.tmp 6) 2, 0, "l05_sparse.go:55", #[{ on := 0, ground := Ground.phase }, { on := 1, ground := Ground.phase }, { on := 2, ground := Ground.phase }, { on := 3, ground := Ground.phase }, { on := 4, ground := Ground.phase }, { on := 5, ground := Ground.phase }, { on := 6, ground := Ground.phase }, { on := 7, ground := Ground.textOnly Departure.lateStores }, { on := 8, ground := Ground.textOnly Departure.lateStores }, { on := 9, ground := Ground.textOnly Departure.lateStoresUnsure }], none⟩) rfl (by rfl) (by rfl) (fun w' hw' => ?_) ?_; rotate_left
            · go_simp <;> first | rfl | exact ⟨rfl, rfl⟩
            simp only [Act.put, List.setIfInBounds_toArray, List.set_cons_zero, List.set_cons_succ]
            refine wpT_nil (fun w4 hw' hF => ?_)
            show wpList _ _ _ [(⟨none, Op.store 22 (Operand.tmp 41) (Operand.tmp 35), 0, "l05_sparse.go:55", #[{ on := 10, ground := Ground.data }, { on := 4, ground := Ground.data }, { on := 9, ground := Ground.chain }, { on := 0, ground := Ground.phase }, { on := 1, ground := Ground.phase }, { on := 2, ground := Ground.phase }, { on := 3, ground := Ground.phase }, { on := 4, ground := Ground.phase }, { on := 5, ground := Ground.phase }, { on := 6, ground := Ground.phase }, { on := 7, ground := Ground.textOnly Departure.lateStores }, { on := 8, ground := Ground.textOnly Departure.lateStores }, { on := 9, ground := Ground.textOnly Departure.lateStoresUnsure }], none⟩ : Oper), (⟨some 42, Op.fieldAddr 27 (Operand.tmp 6) 3, 0, "l05_sparse.go:55", #[{ on := 0, ground := Ground.phase }, { on := 1, ground := Ground.phase }, { on := 2, ground := Ground.phase }, { on := 3, ground := Ground.phase }, { on := 4, ground := Ground.phase }, { on := 5, ground := Ground.phase }, { on := 6, ground := Ground.phase }, { on := 7, ground := Ground.phase }, { on := 8, ground := Ground.phase }, { on := 9, ground := Ground.phase }, { on := 10, ground := Ground.phase }, { on := 11, ground := Ground.phase }], none⟩ : Oper), (⟨none, Op.store 23 (Operand.tmp 42) (Operand.tmp 40), 0, "l05_sparse.go:55", #[{ on := 12, ground := Ground.data }, { on := 9, ground := Ground.data }, { on := 11, ground := Ground.chain }, { on := 0, ground := Ground.phase }, { on := 1, ground := Ground.phase }, { on := 2, ground := Ground.phase }, { on := 3, ground := Ground.phase }, { on := 4, ground := Ground.phase }, { on := 5, ground := Ground.phase }, { on := 6, ground := Ground.phase }, { on := 7, ground := Ground.phase }, { on := 8, ground := Ground.phase }, { on := 9, ground := Ground.phase }, { on := 10, ground := Ground.phase }, { on := 11, ground := Ground.phase }], none⟩ : Oper)] _ _
            have b1 : Blk w4 bs #[.int .i64 n, .slice A1 ss.length k1, .slice B1 cs.length l1, .slice V1 vs.length q1] 27 := hF 20 undef rfl
            have o2 : Own w4 w0.heap.size 2 (.slice A1 ss.length k1) (ints ss) := hF 22 undef rfl
            have o34 := hF 4 _ rfl X cX rfl
            have o4 := hF 9 _ rfl Y cY rfl
            have hst := CL.app2 hle b1 o2 k o34.1 x o4 o34.2 hw'
            have z2 := b1.cell 2 rfl
            have z3 := b1.cell 3 rfl
            have f2 := b1.free 2
            have f3 := b1.free 3
            have hq := b1.lt
            obtain ⟨R, hR⟩ : ∃ R : World, R = (w4.setCell ⟨bs, 2, none⟩ (.slice X (cs.length + 1) cX)).setCell ⟨bs, 3, none⟩ (.slice Y (vs.length + 1) cY) := ⟨_, rfl⟩
            rw [← hR, h0, HX.out, HL.out, HC.out, HS.out, ← clC_yes hlk hm, ← clV_yes hlk hm, hR] at hst
            clear hR hF hw' o34 o4 o2 h0 h1 h2 h3 h4 h6
            go_wp2_with fail
            go_roundw
            case rel => exact ⟨k + 1, by omega, by go_num, hst⟩
            case measure => simp [intOf]; omega
        · obtain rfl : k = n := by omega
          obtain ⟨ss, hss⟩ : ∃ ss, ss = clS k M i := ⟨_, rfl⟩
          obtain ⟨cs, hcs⟩ : ∃ cs, cs = clC k M (i * k + k) := ⟨_, rfl⟩
          obtain ⟨L, hL⟩ : ∃ L, L = clV k M (i * k + k) := ⟨_, rfl⟩
          have hNi : i * k + k ≤ 1024 := by rw [← Nat.succ_mul]; exact Nat.le_trans (Nat.mul_le_mul_right _ hlt) (Nat.mul_le_mul hn32 hn32)
          have lc : cs.length ≤ 1024 := by rw [hcs, clC_length]; have := clQ_le k M (i * k + k); omega
          have ls : ss.length ≤ 1024 := by rw [hss, clS_length]; omega
          have HC := Lib.hid hcs
          have HS := Lib.hid hss
          have HL := Lib.hid hL
          rw [← hss, ← hcs, ← hL] at hst
          clear hss hcs hL hNi
          obtain ⟨A1, k1, B1, l1, V1, q1, vs, h0, h1, h2, h3, h4, h5, h6⟩ := hst
          have z1 : wB.cell? ⟨bs, 1, none⟩ = some (.slice A1 ss.length k1) := h1.cell 1 rfl
          have z2 : wB.cell? ⟨bs, 2, none⟩ = some (.slice B1 cs.length l1) := h1.cell 2 rfl
          go_wp2_with fail
          refine wp_region_T (cs := []) [0, 1, 2, 3, 4, 5] [6, 7, 8] [4, 5] [] (fun i__ v => match i__ with | 4 => v = (.int .i64 cs.length) | 5 => ∃ g, v = .slice (some ⟨g, 0, none⟩) 1 1 | _ => False) (fun i__ v w' => match i__ with | 5 => One w' v (.int .i64 cs.length) 2 | _ => True) (by kernel_rfl) (by kernel_rfl) (by intro i v w' w2 h hx; revert h; (try dsimp only); split <;> intro h <;> first | trivial | exact One.ext h hx) ?_
          refine' wpT_det (o := ⟨some 44, Op.fieldAddr 27 (Operand.tmp 6) 1, 0, "l05_sparse.go:58", #[], none⟩) rfl (by rfl) (by rfl) (fun w' hw' => ?_) ?_; rotate_left
          · go_simp <;> first | rfl | exact ⟨rfl, rfl⟩
          simp only [Act.put, List.setIfInBounds_toArray, List.set_cons_zero, List.set_cons_succ]
          refine' wpT_det (o := ⟨some 45, Op.load 22 (Operand.tmp 44), 22, "l05_sparse.go:58", #[{ on := 0, ground := Ground.data }], none⟩) rfl (by rfl) (by rfl) (fun w' hw' => ?_) ?_; rotate_left
          · have z1_ := Ext.cell hw' z1; have z2_ := Ext.cell hw' z2; go_simp <;> first | rfl | exact ⟨rfl, rfl⟩
          simp only [Act.put, List.setIfInBounds_toArray, List.set_cons_zero, List.set_cons_succ]
          refine' wpT_det (o := ⟨some 46, Op.fieldAddr 27 (Operand.tmp 6) 2, 0, "l05_sparse.go:58", #[], none⟩) rfl (by rfl) (by rfl) (fun w' hw' => ?_) ?_; rotate_left
          · go_simp <;> first | rfl | exact ⟨rfl, rfl⟩
          simp only [Act.put, List.setIfInBounds_toArray, List.set_cons_zero, List.set_cons_succ]
          refine' wpT_det (o := ⟨some 47, Op.load 22 (Operand.tmp 46), 22, "l05_sparse.go:58", #[{ on := 2, ground := Ground.data }], none⟩) rfl (by rfl) (by rfl) (fun w' hw' => ?_) ?_; rotate_left
          · have z1_ := Ext.cell hw' z1; have z2_ := Ext.cell hw' z2; go_simp <;> first | rfl | exact ⟨rfl, rfl⟩
          simp only [Act.put, List.setIfInBounds_toArray, List.set_cons_zero, List.set_cons_succ]
          refine wpT_nd (o := ⟨some 48, Op.call { callee := Callee.value (Operand.func 87), args := #[Operand.tmp 47], argTypes := #[22] }, 2, "l05_sparse.go:58", #[{ on := 3, ground := Ground.data }], none⟩) rfl (by rfl) (by rfl) (fun w' hw' hF R__ hGo => ?_) ⟨_, rfl⟩ ?_
          · go_simp
            refine gives_enter rfl ?_
            refine (length_any _ _ _ (by omega) _).mono ?_
            rintro e w2 ⟨rfl, rfl⟩
            exact ⟨_, rfl, hGo _ _ (Ext.refl _) rfl trivial⟩
          intro v hv
          obtain rfl : v = (.int .i64 cs.length) := hv
          simp only [Act.put, List.setIfInBounds_toArray, List.set_cons_zero, List.set_cons_succ]
          refine wpT_nd (o := ⟨some 49, Op.buildSlice 22 1 #[(0, Operand.tmp 48)], 22, "l05_sparse.go:58", #[{ on := 4, ground := Ground.data }], none⟩) rfl (by rfl) (by rfl) (fun w' hw' hF R__ hGo => ?_) ⟨_, 0, rfl⟩ ?_
          · go_simp; exact gives_value rfl (hGo _ _ ((Ext.refl _).alloc _) ⟨_, rfl⟩ (One.new _ _ _))
          rintro _ ⟨g9, rfl⟩
          simp only [Act.put, List.setIfInBounds_toArray, List.set_cons_zero, List.set_cons_succ]
          refine wpT_nil (fun w4 hw' hF => ?_)
          show wpList _ _ _ [(⟨some 50, Op.call { callee := Callee.builtin Builtin.append, args := #[Operand.tmp 45, Operand.tmp 49], argTypes := #[22, 22] }, 22, "l05_sparse.go:58", #[{ on := 1, ground := Ground.data }, { on := 5, ground := Ground.data }, { on := 4, ground := Ground.chain }], none⟩ : Oper), (⟨some 51, Op.fieldAddr 27 (Operand.tmp 6) 1, 0, "l05_sparse.go:58", #[{ on := 0, ground := Ground.phase }, { on := 1, ground := Ground.phase }, { on := 2, ground := Ground.phase }, { on := 3, ground := Ground.phase }, { on := 4, ground := Ground.phase }, { on := 5, ground := Ground.phase }, { on := 6, ground := Ground.phase }], none⟩ : Oper), (⟨none, Op.store 22 (Operand.tmp 51) (Operand.tmp 50), 0, "l05_sparse.go:58", #[{ on := 7, ground := Ground.data }, { on := 6, ground := Ground.data }, { on := 6, ground := Ground.chain }, { on := 0, ground := Ground.phase }, { on := 1, ground := Ground.phase }, { on := 2, ground := Ground.phase }, { on := 3, ground := Ground.phase }, { on := 4, ground := Ground.phase }, { on := 5, ground := Ground.phase }, { on := 6, ground := Ground.phase }], none⟩ : Oper)] _ _
          have hg : One w4 (.slice (some ⟨g9, 0, none⟩) 1 1) (.int .i64 cs.length) 2 := hF 5 _ rfl
          have hx := hw'.undrew
          clear hF hw' z1 z2
          replace h1 := h1.ext hx
          replace h2 := h2.ext hx
          replace h3 := h3.ext hx
          replace h4 := h4.ext hx
          replace h6 := h6.trans hx
          clear hx
          have hsz := h6.size
          have hf := h1.free 1
          have hc := h1.cell 1 rfl
          go_wp2_with (at_builtin; go_loud (refine wpList_app1 rfl _ _ _ rfl w4 w0.heap.size 2 (.int .i64 0) 8 Try.underlying22 info_i64 rfl (by decide) (.slice A1 ss.length k1) (ints ss) rfl g9 (.int .i64 cs.length) rfl hg h2 rfl (by rw [ints_length]; omega) hsz ?_); rw [ints_length]; intro X c w9 h7 h8 h9; clear hf hc; have b1 := h1.wr h8 h2 (by decide); have hf := b1.free 1; have hq := b1.lt; have hc := b1.cell 1 rfl)
          have hst := CL.appS hle h1 h2 h3 h4 h5 h6 cs.length h7 h8 h9
          have hcl : ((cs.length : Nat) : Int) = ((clQ k M (i * k + k)).length : Int) := by rw [HC.out, clC_length]
          obtain ⟨R, hR⟩ : ∃ R : World, R = w9.setCell ⟨bs, 1, none⟩ (.slice X (ss.length + 1) c) := ⟨_, rfl⟩
          rw [← hR] at hst
          rw [h0, HL.out, hcl, HC.out, HS.out, ← clS_next, ← Nat.succ_mul] at hst
          rw [hR] at hst
          clear hR
          go_roundw
          case rel => exact ⟨i + 1, by omega, by go_num, hst⟩
          case measure => simp [intOf]; omega
    · obtain rfl : i = n := by omega
      obtain ⟨A1, k1, B1, l1, V1, q1, vs, h0, h1, h2, h3, h4, h5, h6⟩ := hst
      have c0 := h1.cell 0 rfl
      have c1 := h1.cell 1 rfl
      have c2 := h1.cell 2 rfl
      have c3 := h1.cell 3 rfl
      go_wp2_with fail
      refine (implValidSparse_any i A1 (clS i M i).length k1 B1 (clC i M (i * i)).length l1 V1 vs.length q1 (clS i M i) (clC i M (i * i)) vs _ h2.reads h3.reads h4.reads).mono ?_
      rintro e w3 ⟨rfl, hx⟩
      replace h1 := h1.ext hx
      replace h2 := h2.ext hx
      replace h3 := h3.ext hx
      replace h4 := h4.ext hx
      replace h6 := h6.trans hx
      clear hx c0 c1 c2 c3 xA
      replace b0 := b0.ext h6
      have hle0 : w.heap.size ≤ w0.heap.size := hx0.size
      replace hx0 := hx0.trans h6
      have y0 := b0.cell 0 rfl
      have y1 := b0.cell 1 rfl
      have y2 := b0.cell 2 rfl
      have y3 := b0.cell 3 rfl
      have f0 := b0.free 0
      have f1 := b0.free 1
      have f2 := b0.free 2
      have f3 := b0.free 3
      have hq0 := b0.lt
      cases hs : isSp i (clS i M i) (clC i M (i * i)) vs with
      | false =>
        have hd := giveSp_bad h0 hs
        clear h0 h1 h2 h3 h4 h5
        go_wp2_with fail
        have d0 := b0.set 0 (.int .i64 0)
        have d1 := d0.set 1 (.slice none 0 0)
        have d2 := d1.set 2 (.slice none 0 0)
        have d3 := d2.set 3 (.slice none 0 0)
        have x2 := ((((hx0.set (p := ⟨w.heap.size, 0, none⟩) (Nat.le_refl _) (.int .i64 0)).set (p := ⟨w.heap.size, 1, none⟩) (Nat.le_refl _) (.slice none 0 0)).set (p := ⟨w.heap.size, 2, none⟩) (Nat.le_refl _) (.slice none 0 0)).set (p := ⟨w.heap.size, 3, none⟩) (Nat.le_refl _) (.slice none 0 0))
        have r0 := d3.cell 0 rfl
        have r1 := d3.cell 1 rfl
        have r2 := d3.cell 2 rfl
        have r3 := d3.cell 3 rfl
        refine bodyPost_ret (v := .tuple #[.agg #[.int .i64 0, .slice none 0 0, .slice none 0 0, .slice none 0 0], .bool false]) (by simp only [results, Try.results90]; simp [go_sem, r0, r1, r2, r3]) rfl (RetSqB.bad hd rfl x2)
      | true =>
        have hd := giveSp_good h0 hs
        have s0 := h1.cell 0 rfl
        have s1 := h1.cell 1 rfl
        have s2 := h1.cell 2 rfl
        have s3 := h1.cell 3 rfl
        have Hd := Lib.hid hd
        clear hd h0
        go_wp2_with fail
        have d0 := b0.set 0 (.int .i64 i)
        have d1 := d0.set 1 (.slice A1 (clS i M i).length k1)
        have d2 := d1.set 2 (.slice B1 (clC i M (i * i)).length l1)
        have d3 := d2.set 3 (.slice V1 vs.length q1)
        have p1 := ((((h2.setBlk b0 (by decide) 0 (.int .i64 i)).setBlk d0 (by decide) 1 (.slice A1 (clS i M i).length k1)).setBlk d1 (by decide) 2 (.slice B1 (clC i M (i * i)).length l1)).setBlk d2 (by decide) 3 (.slice V1 vs.length q1))
        have p2 := ((((h3.setBlk b0 (by decide) 0 (.int .i64 i)).setBlk d0 (by decide) 1 (.slice A1 (clS i M i).length k1)).setBlk d1 (by decide) 2 (.slice B1 (clC i M (i * i)).length l1)).setBlk d2 (by decide) 3 (.slice V1 vs.length q1))
        have p3 := ((((h4.setBlk b0 (by decide) 0 (.int .i64 i)).setBlk d0 (by decide) 1 (.slice A1 (clS i M i).length k1)).setBlk d1 (by decide) 2 (.slice B1 (clC i M (i * i)).length l1)).setBlk d2 (by decide) 3 (.slice V1 vs.length q1))
        have x2 := ((((hx0.set (p := ⟨w.heap.size, 0, none⟩) (Nat.le_refl _) (.int .i64 i)).set (p := ⟨w.heap.size, 1, none⟩) (Nat.le_refl _) (.slice A1 (clS i M i).length k1)).set (p := ⟨w.heap.size, 2, none⟩) (Nat.le_refl _) (.slice B1 (clC i M (i * i)).length l1)).set (p := ⟨w.heap.size, 3, none⟩) (Nat.le_refl _) (.slice V1 vs.length q1))
        have r0 := d3.cell 0 rfl
        have r1 := d3.cell 1 rfl
        have r2 := d3.cell 2 rfl
        have r3 := d3.cell 3 rfl
        refine bodyPost_ret (v := .tuple #[.agg #[.int .i64 i, .slice A1 (clS i M i).length k1, .slice B1 (clC i M (i * i)).length l1, .slice V1 vs.length q1], .bool true]) (by simp only [results, Try.results90]; simp [go_sem, r0, r1, r2, r3]) rfl ?_
        rw [Hd.out]
        exact ⟨A1, k1, B1, l1, V1, q1, rfl, p1.base hle0, p2.base hle0, p3.base hle0, h5, p1.apart p3 (by decide), p2.apart p3 (by decide), x2⟩

end Go.Proofs.Ytkifpligpobiaaa
