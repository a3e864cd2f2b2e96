
/- EntriesOf, the program. -/

import Derived.Test.YtkifpligpobiaaaEN3

import Derived.Test.YtkifpligpobiaaaV2
set_option linter.unusedVariables false
set_option linter.unusedSimpArgs false

namespace Go.Proofs.Ytkifpligpobiaaa

open Go.RowKit


theorem OwnE.lt_size {w : World} {base : Nat} {v : Value} {es : List Ent} (h : OwnE w base v es) : ∀ g, v.ownBlock = some g → g < w.heap.size := fun g e => (h.row.lt g e).2

set_option maxRecDepth 20000 in
set_option maxHeartbeats 8000000 in
theorem implEntriesOf_any (sd : Int) (A : Option Addr) (n ca : Nat) (B : Option Addr) (m cb : Nat) (V : Option Addr) (p cv : Nat) (st co : List Int) (va : List Nat) (w : World) (hr : Rds w A n (ints st)) (hq : Rds w B m (ints co)) (hv : Rds w V p (flts va)) :
    Calls Try.prog 45 #[.agg #[.int .i64 sd, .slice A n ca, .slice B m cb, .slice V p cv]] w (RetEB w (entD sd st co va)) := by
  have HM := Lib.hid hq.ilen
  cases hs : isSp sd st co va with
  | false =>
    have hd : entD sd st co va = ([], false) := by unfold entD; rw [hs]; rfl
    rw [hd]
    clear hd
    go_enter Try.func45, Try.ntmps45
    go_upto_region 1 with (fail)
    obtain ⟨w0, hw0⟩ : ∃ w0, w0 = (w.alloc (.cells #[.int .i64 sd, .slice A n ca, .slice B m cb, .slice V p cv] 27)) := ⟨_, rfl⟩
    have hx0 : Ext w w0 := by subst hw0; exact (Ext.refl _).alloc _
    have ba : Blk w0 (w.heap.size) #[.int .i64 sd, .slice A n ca, .slice B m cb, .slice V p cv] 27 := by subst hw0; exact (Blk.new w _ _)
    rw [← hw0]
    clear hw0
    have c0 := ba.cell 0 rfl
    have c1 := ba.cell 1 rfl
    have c2 := ba.cell 2 rfl
    have c3 := ba.cell 3 rfl
    go_wp2_with fail
    refine (implValidSparse_any sd A n ca B m cb V p cv st co va _ (hr.below hx0) (hq.below hx0) (hv.below hx0)).mono ?_
    rintro e w1 ⟨rfl, hx⟩
    rw [hs]
    replace ba := ba.ext hx
    replace hx0 := hx0.trans hx
    clear hx c0 c1 c2 c3
    go_wp2_with fail
    refine bodyPost_ret (v := .tuple #[.slice none 0 0, .bool false]) (by simp only [results, Try.results45]; simp [go_sem]) rfl ⟨none, 0, rfl, ownE_nil _ _, hx0⟩
  | true =>
    have hsp := isSp_iff.1 hs
    obtain ⟨N, rfl⟩ : ∃ N : Nat, sd = N := ⟨sd.toNat, by have := hsp.s1; omega⟩
    have hn32 : N ≤ 32 := by have := hsp.s1; omega
    have hN1 : 1 ≤ N := by have := hsp.s1; omega
    have hd : entD N st co va = (enA st co va N, true) := by unfold entD; rw [hs]; rfl
    rw [hd]
    clear hd
    have hn : N + 1 ≤ n := by have := hsp.s2; rw [hr.ilen] at this; omega
    have hn' : n ≤ N + 1 := by have := hsp.s2; rw [hr.ilen] at this; omega
    have hpm : p = m := by have := hsp.s4; rw [hv.flen, hq.ilen] at this; exact this
    have hm512 : m ≤ 512 := by have := hsp.s3; rw [hq.ilen] at this; exact this
    have HSP := Lib.hid hsp
    have HPM := Lib.hid hpm
    clear hsp hpm
    go_enter Try.func45, Try.ntmps45
    go_upto_region 1 with (fail)
    obtain ⟨w0, hw0⟩ : ∃ w0, w0 = (w.alloc (.cells #[.int .i64 N, .slice A n ca, .slice B m cb, .slice V p cv] 27)) := ⟨_, rfl⟩
    have hx0 : Ext w w0 := by subst hw0; exact (Ext.refl _).alloc _
    have ba : Blk w0 (w.heap.size) #[.int .i64 N, .slice A n ca, .slice B m cb, .slice V p cv] 27 := by subst hw0; exact (Blk.new w _ _)
    rw [← hw0]
    clear hw0
    have c0 := ba.cell 0 rfl
    have c1 := ba.cell 1 rfl
    have c2 := ba.cell 2 rfl
    have c3 := ba.cell 3 rfl
    go_wp2_with fail
    refine (implValidSparse_any N A n ca B m cb V p cv st co va _ (hr.below hx0) (hq.below hx0) (hv.below hx0)).mono ?_
    rintro e w1 ⟨rfl, hx⟩
    rw [hs]
    replace ba := ba.ext hx
    replace hx0 := hx0.trans hx
    clear hx c0 c1 c2 c3
    go_upto_region 4 with (fail)
    obtain ⟨w2, hw2⟩ : ∃ w2 : World, w2 = (w1.alloc (.cells #[] 113)).alloc (.cells #[.slice (some ⟨w1.heap.size, 0, none⟩) 0 0] 51) := ⟨_, rfl⟩
    obtain ⟨ob, hob⟩ : ∃ ob, ob = w1.heap.size + 1 := ⟨_, rfl⟩
    have hxx : Ext w1 w2 := by rw [hw2]; exact ((Ext.refl _).alloc _).alloc _
    have hso := hx0.size
    have bo : Blk w2 ob #[.slice (some ⟨w1.heap.size, 0, none⟩) 0 0] 51 := by rw [hw2, hob]; simpa using Blk.new (w1.alloc (.cells #[] 113)) #[.slice (some ⟨w1.heap.size, 0, none⟩) 0 0] 51
    have oo : OwnE w2 w.heap.size (.slice (some ⟨w1.heap.size, 0, none⟩) 0 0) [] := by
      rw [hw2]
      have h : OwnE (w1.alloc (.cells #[] 113)) w.heap.size (.slice (some ⟨w1.heap.size, 0, none⟩) 0 0) [] := ⟨World.ownsRow_made w1 #[] 0 hso (by unfold maxLen; omega) rfl, by simp⟩
      exact h.ext ((Ext.refl _).alloc _)
    have hob1 : w.heap.size + 1 ≤ ob := by have := ba.lt; omega
    replace ba := ba.ext hxx
    replace hx0 := hx0.trans hxx
    rw [← hob, ← hw2]
    clear hw2 hob hxx
    have c0 := ba.cell 0 rfl
    have hst : ∃ A1 c1, Blk w2 ob #[.slice A1 (enA st co va 0).length c1] 51 ∧ OwnE w2 w.heap.size (.slice A1 (enA st co va 0).length c1) (enA st co va 0) := ⟨_, _, bo, oo⟩
    clear bo oo hso
    go_wp2_with fail
    clear c0
    go_loopw [12] (fun u wr => ∃ i : Nat, i ≤ N ∧ u = .int .i64 i ∧ Ext w wr ∧ Blk wr w.heap.size #[.int .i64 N, .slice A n ca, .slice B m cb, .slice V p cv] 27 ∧ ∃ A1 c1, Blk wr ob #[.slice A1 (enA st co va i).length c1] 51 ∧ OwnE wr w.heap.size (.slice A1 (enA st co va i).length c1) (enA st co va i)) (fun u _ => N - (intOf u).toNat)
    case atStart => exact ⟨0, Nat.zero_le _, rfl, hx0, ba, hst⟩
    case round =>
      rename World => wA
      clear hst hx0 ba
      obtain ⟨i, hi, rfl, hx0, ba, A1, c1, bo, oo⟩ := hrel
      by_cases hlt : i < N
      · have g1 : IntKind.i64.wrap ((i : Int) + 1) = (i : Int) + 1 := IntWalk.i64_in _ (by omega)
        have r0 := HSP.out.range (i := i) (by omega)
        have r1 := HSP.out.range (i := i + 1) (by omega)
        have e1 : ((i + 1 : Nat) : Int) = (i : Int) + 1 := by omega
        rw [HM.out] at r0 r1
        rw [e1] at r1
        have hup : rd st i ≤ rd st ((i : Int) + 1) := HSP.out.s8 i (by omega)
        have hln := enA_length HSP.out i (by omega)
        obtain ⟨s0, hs0⟩ : ∃ s0 : Nat, rd st i = s0 := ⟨(rd st i).toNat, by omega⟩
        obtain ⟨s1, hs1⟩ : ∃ s1 : Nat, rd st ((i : Int) + 1) = s1 := ⟨(rd st ((i : Int) + 1)).toNat, by omega⟩
        have HEA : Hid (enA st co va (i + 1) = enA st co va i ++ enR co va i s0 s1) := by
          show _ = _
          show enA st co va i ++ enR co va i (rd st i).toNat (rd st ((i : Int) + 1)).toNat = _
          rw [hs0, hs1, Int.toNat_natCast, Int.toNat_natCast]
        rw [hs0] at r0 hup hln
        rw [hs1] at r1 hup
        have HLN : Hid (∀ k, s0 ≤ k → (enA st co va i ++ enR co va i s0 k).length = k) := fun k hk => by rw [List.length_append, enR_length]; omega
        have HS0 := Lib.hid hs0
        have HS1 := Lib.hid hs1
        clear hs0 hs1 e1

        have c0 := ba.cell 0 rfl
        have c1_ := ba.cell 1 rfl
        have c2 := ba.cell 2 rfl
        have c3 := ba.cell 3 rfl
        have lA := bo.lt
        have lB := ba.lt
        go_wp2_with fail
        clear c0 c1_ c2 c3
        refine (each_any 114 _ (enters_of Try.func114 (by kernel_rfl) rfl) N A n ca B m cb V p cv st co va i s0 s1 _
          (fun k W => Ext w W ∧ (∃ A1 c1, Blk W ob #[.slice A1 (enA st co va i ++ enR co va i s0 k).length c1] 51 ∧ OwnE W w.heap.size (.slice A1 (enA st co va i ++ enR co va i s0 k).length c1) (enA st co va i ++ enR co va i s0 k) ∧ (Value.slice A1 (enA st co va i ++ enR co va i s0 k).length c1).ownBlock ≠ some (wA.heap.size + 1)) ∧ Blk W wA.heap.size #[.int .i64 i] 2 ∧ Blk W w.heap.size #[.int .i64 N, .slice A n ca, .slice B m cb, .slice V p cv] 27 ∧ s0 ≤ k)
          (by omega) (by omega) HPM.out HS0.out HS1.out (by omega) (by omega) hm512 ?_ ?_ ?_ ?_).mono ?_
        · intro k W W' ⟨h1, ⟨A2, c2, h2, h3, h4⟩, h5, h6, h7⟩ hx
          exact ⟨h1.trans hx, ⟨A2, c2, h2.ext hx, h3.ext hx, h4⟩, h5.ext hx, h6.ext hx, h7⟩
        · intro k W ⟨h1, _⟩
          exact ⟨hr.below h1, hq.below h1, hv.below h1⟩
        · intro k W hk0 hk1 hsz ⟨h1, ⟨A2, c2, h2, h3, h4⟩, h5, h6, h7⟩
          have hlk := HLN.out k hk0
          refine (entries1_any ob wA.heap.size w.heap.size i (rd co k) (rdf va k) A2 c2 (enA st co va i ++ enR co va i s0 k) (by omega) W h1.size h2 h5 h3).mono ?_
          rintro e W' ⟨rfl, A3, c3, W1, k1, k2, k3, k4, rfl⟩
          have hxa : Ext W (W.alloc (.cells #[.int .i64 i, .int .i64 (rd co k), .float .f32 (rdf va k)] 113)) := (Ext.refl _).alloc _
          have hxw : Ext w W1 := k3.extE (h1.trans hxa) (h3.ext hxa)
          have hs1_ := k3.size
          simp only [World.size_alloc] at hs1_
          have e_ : enA st co va i ++ enR co va i s0 (k + 1) = (enA st co va i ++ enR co va i s0 k) ++ [((i : Int), rd co k, rdf va k)] := by rw [enR_next hk0, List.append_assoc]
          have hlk1 : ((enA st co va i ++ enR co va i s0 k) ++ [((i : Int), rd co k, rdf va k)]).length = (enA st co va i ++ enR co va i s0 k).length + 1 := by simp; omega
          refine ⟨rfl, ⟨hxw.set (by simp; omega) _, ?_, ?_, ?_, by omega⟩, by simp [World.setCell]; omega, ?_⟩
          · rw [e_, hlk1]
            refine ⟨A3, c3, k1, k2, ?_⟩
            rcases k4 with k4 | k4
            · rw [k4]; exact h4
            · rw [k4]; simp only [ne_eq, Option.some.injEq]; simp at hsz; omega
          · exact ((h5.ext hxa).wrE k3 (h3.ext hxa) (by decide)).other (by omega) _ _
          · exact ((h6.ext hxa).wrE k3 (h3.ext hxa) (by decide)).other (by omega) _ _
          · rw [Below.heap_setCell _ _ _ _ (by simp; omega)]
            refine (k3.block _ (by simp at hsz ⊢; omega) ?_).trans (hxa.block _ (by simp at hsz ⊢; omega))
            simpa using h4.symm
        · have hlt_ := oo.lt_size
          refine ⟨hx0.alloc _, ⟨A1, c1, ?_⟩, Blk.new _ _ _, ba.ext ((Ext.refl _).alloc _), Nat.le_refl _⟩
          rw [enR_self, List.append_nil]
          refine ⟨bo.ext ((Ext.refl _).alloc _), oo.ext ((Ext.refl _).alloc _), ?_⟩
          intro e
          have := hlt_ _ e
          omega
        · rintro e W' ⟨rfl, h1, ⟨A2, c2, h2, h3, h4⟩, h5, h6, h7⟩
          rw [← HEA.out] at h2 h3
          go_wp2_with fail
          go_roundw
          case rel => exact ⟨i + 1, by omega, by go_num, h1, h6, A2, c2, h2, h3⟩
          case measure => simp [intOf]; omega
      · obtain rfl : i = N := by omega
        have o0 := bo.cell 0 rfl
        go_wp2_with fail
        refine bodyPost_ret (v := .tuple #[.slice A1 (enA st co va i).length c1, .bool true]) (by simp only [results, Try.results45]; simp [go_sem]) rfl ⟨A1, c1, rfl, oo, hx0⟩

end Go.Proofs.Ytkifpligpobiaaa
