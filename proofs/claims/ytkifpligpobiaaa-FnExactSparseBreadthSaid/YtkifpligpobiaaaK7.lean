
/- The numbers of a sparse square as a map. -/

import Derived.Test.YtkifpligpobiaaaK5
set_option linter.unusedVariables false
set_option linter.unusedSimpArgs false

namespace Go.Proofs.Ytkifpligpobiaaa

open Go.RowKit


/-- A map of the call's own that says what M says. -/
def RetMap (w : World) (N : Nat) (M : Sqr) (e : Ending) (w' : World) : Prop := ∃ b, e = .returned (.map (some b)) ∧ MapV w' b (N * N) N M ∧ w.heap.size ≤ b ∧ Ext w w'
theorem MapV.ge {w w' : World} {b : Nat} (hg : w.grownBy w' (some b)) {w0 : World} (hx : Ext w0 w) (hb : w0.heap.size ≤ b) : Ext w0 w' :=
  ⟨hg.os.trans hx.os, hg.tape.trans hx.tape, hg.output.trans hx.output, Nat.le_trans hx.size hg.size, fun i hi => (hg.block i (Nat.lt_of_lt_of_le hi hx.size) (by simp; omega)).trans (hx.block i hi)⟩
theorem Blk.grown {w w' : World} {b b' : Nat} {cs : Array Value} {T : TypeId} (h : Blk w b cs T) (hg : w.grownBy w' (some b')) (hne : b ≠ b') : Blk w' b cs T := (hg.block b h.lt (by simpa using hne)).trans h
theorem MapV.notCells {w : World} {b b' cnt n : Nat} {M : Sqr} {cs : Array Value} {T : TypeId} (h : MapV w b cnt n M) (hb : Blk w b' cs T) : b' ≠ b := by
  intro e
  subst e
  obtain ⟨D, ⟨es, clock, hm, _⟩, _⟩ := h
  unfold Blk at hb
  rw [hb] at hm
  cases hm

set_option maxRecDepth 20000 in
set_option maxHeartbeats 4000000 in
theorem numbers_any (N : Nat) (A : Option Addr) (n ca : Nat) (B : Option Addr) (m cb : Nat) (V : Option Addr) (p cv : Nat) (st co : List Int) (va : List Nat) (hsp : IsSp N st co va) (w : World) (hr : Rds w A n (ints st)) (hq : Rds w B m (ints co)) (hv : Rds w V p (flts va)) :
    Calls Try.prog 89 #[.agg #[.int .i64 N, .slice A n ca, .slice B m cb, .slice V p cv]] w (RetMap w N (vw st co va m)) := by
  have HSP := Lib.hid hsp
  have hn32 : N ≤ 32 := by have := hsp.s1; omega
  have hn : N + 1 ≤ n := by have := hsp.s2; rw [hr.ilen] at this; omega
  have hn' : n ≤ N + 1 := by have := hsp.s2; rw [hr.ilen] at this; omega
  have hpm : p = m := by have := hsp.s4; rw [hv.flen, hq.ilen] at this; exact this
  have HMm := Lib.hid hq.ilen
  have hm512 : m ≤ 512 := by have := hsp.s3; rw [hq.ilen] at this; exact this
  have hN1 : 1 ≤ N := by have := hsp.s1; omega
  have HPM := Lib.hid hpm
  clear hsp hpm
  have hmk := make_map_run
  go_enter Try.func89, Try.ntmps89
  go_upto_region 1 with (fail)
  go_upto_region 2 with (fail)
  obtain ⟨w0, hw0⟩ : ∃ w0 : World, w0 = ((w.alloc (.cells #[.int .i64 N, .slice A n ca, .slice B m cb, .slice V p cv] 27)).alloc (.map #[] 0)).alloc (.cells #[.map (some (w.heap.size + 1))] 92) := ⟨_, rfl⟩
  have hx0 : Ext w w0 := by subst hw0; exact (((Ext.refl _).alloc _).alloc _).alloc _
  have ba : Blk w0 w.heap.size #[.int .i64 N, .slice A n ca, .slice B m cb, .slice V p cv] 27 := by subst hw0; exact (Blk.new w _ _).ext (((Ext.refl _).alloc _).alloc _)
  have hm : MapV w0 (w.heap.size + 1) 0 N (vw st co va 0) := by
    subst hw0
    have h := (MapV.empty (w.alloc (.cells #[.int .i64 N, .slice A n ca, .slice B m cb, .slice V p cv] 27)) N).ext ((Ext.refl _).alloc (.cells #[.map (some (w.heap.size + 1))] 92))
    simp only [World.size_alloc] at h
    exact h
  have bv : Blk w0 (w.heap.size + 1 + 1) #[.map (some (w.heap.size + 1))] 92 := by subst hw0; simpa using Blk.new ((w.alloc (.cells #[.int .i64 N, .slice A n ca, .slice B m cb, .slice V p cv] 27)).alloc (.map #[] 0)) #[.map (some (w.heap.size + 1))] 92
  rw [← hw0]
  clear hw0 hmk
  have e0 : rd st ((0 : Nat) : Int) = 0 := HSP.out.s6
  have hst : MapV w0 (w.heap.size + 1) (rd st ((0 : Nat) : Int)).toNat N (vw st co va (rd st ((0 : Nat) : Int)).toNat) := by rw [e0]; exact hm
  clear hm e0
  have a0 := ba.cell 0 rfl
  go_wp2_with fail
  go_loopw [8] (fun u wr => ∃ i : Nat, i ≤ N ∧ u = .int .i64 i ∧ Ext w wr ∧ Blk wr w.heap.size #[.int .i64 N, .slice A n ca, .slice B m cb, .slice V p cv] 27 ∧ Blk wr (w.heap.size + 1 + 1) #[.map (some (w.heap.size + 1))] 92 ∧ MapV wr (w.heap.size + 1) (rd st i).toNat N (vw st co va (rd st i).toNat)) (fun u _ => N - (intOf u).toNat)
  case atStart => exact ⟨0, Nat.zero_le _, rfl, hx0, ba, bv, hst⟩
  case round =>
    rename World => wA
    clear hst hx0 ba bv a0
    obtain ⟨i, hi, rfl, hx0, ba, bv, hst⟩ := hrel
    by_cases hlt : i < N
    · have g1 : IntKind.i64.wrap ((i : Int) + 1) = (i : Int) + 1 := IntWalk.i64_in _ (by omega)
      have r0 := HSP.out.range (i := i) (by omega)
      have r1 := HSP.out.range (i := i + 1) (by omega)
      have e1 : ((i + 1 : Nat) : Int) = (i : Int) + 1 := by omega
      rw [HMm.out] at r0 r1
      rw [e1] at r1
      have hup : rd st i ≤ rd st ((i : Int) + 1) := HSP.out.s8 i (by omega)
      obtain ⟨s0, hs0⟩ : ∃ s0 : Nat, rd st i = s0 := ⟨(rd st i).toNat, by omega⟩
      obtain ⟨s1, hs1⟩ : ∃ s1 : Nat, rd st ((i : Int) + 1) = s1 := ⟨(rd st ((i : Int) + 1)).toNat, by omega⟩
      rw [hs0] at r0 hup
      rw [hs1] at r1 hup
      rw [hs0, Int.toNat_natCast] at hst
      have HS0 := Lib.hid hs0
      have HS1 := Lib.hid hs1
      clear hs0 hs1 e1
      have c0 := ba.cell 0 rfl
      have c1 := ba.cell 1 rfl
      have c2 := ba.cell 2 rfl
      have c3 := ba.cell 3 rfl
      have lA := ba.lt
      go_wp2_with fail
      clear c0 c1 c2 c3
      refine (each_any 133 _ (enters_of Try.func133 (by kernel_rfl) rfl) N A n ca B m cb V p cv st co va i s0 s1 _
        (fun k W => Ext w W ∧ MapV W (w.heap.size + 1) k N (vw st co va k) ∧ Blk W (w.heap.size + 1 + 1) #[.map (some (w.heap.size + 1))] 92 ∧ Blk W wA.heap.size #[.int .i64 i] 2 ∧ Blk W w.heap.size #[.int .i64 N, .slice A n ca, .slice B m cb, .slice V p cv] 27)
        (by omega) (by omega) HPM.out HS0.out HS1.out (by omega) (by omega) hm512 ?_ ?_ ?_ ?_).mono ?_
      · intro k W W' ⟨h1, h2, h3, h4, h5⟩ hx
        exact ⟨h1.trans hx, h2.ext hx, h3.ext hx, h4.ext hx, h5.ext hx⟩
      · intro k W ⟨h1, _⟩
        exact ⟨hr.below h1, hq.below h1, hv.below h1⟩
      · intro k W hk0 hk1 hsz ⟨h1, h2, h3, h4, h5⟩
        have hcr := HSP.out.s9 k (by rw [HMm.out]; omega)
        obtain ⟨j, hj⟩ : ∃ j : Nat, rd co k = j := ⟨(rd co k).toNat, by omega⟩
        rw [hj] at hcr
        have hb := h2.lt
        rw [hj]
        refine (numbers1_any (w.heap.size + 1) k N i j (rdf va k) (w.heap.size + 1 + 1) wA.heap.size (vw st co va k) hn32 hlt (by omega) (by omega) W h2 (h3.cell 0 rfl) (h4.cell 0 rfl)).mono ?_
        rintro e W' ⟨rfl, hm', hg⟩
        refine ⟨rfl, ⟨MapV.ge hg h1 (by omega), ?_, h3.grown hg (by omega), h4.grown hg (h2.notCells h4), h5.grown hg (by omega)⟩, hg.size, hg.block _ hsz (by have := h2.notCells h4; have := bv.lt; simp; omega)⟩
        refine hm'.congr fun a c ha hc => ?_
        rw [vw_next HSP.out hlt (by rw [HS0.out]; omega) (by rw [HS1.out]; omega) hj ha]
      · exact ⟨hx0.alloc _, hst.ext ((Ext.refl _).alloc _), bv.ext ((Ext.refl _).alloc _), Blk.new _ _ _, ba.ext ((Ext.refl _).alloc _)⟩
      · rintro e W' ⟨rfl, h1, h2, h3, h4, h5⟩
        go_wp2_with fail
        go_roundw
        case rel =>
          refine ⟨i + 1, by omega, by go_num, h1, h5, h3, ?_⟩
          have e1 : ((i + 1 : Nat) : Int) = (i : Int) + 1 := by omega
          rw [e1, HS1.out, Int.toNat_natCast]
          exact h2
        case measure => simp [intOf]; omega
    · obtain rfl : i = N := by omega
      have em : (rd st i).toNat = m := by rw [HSP.out.s7, HMm.out]; omega
      rw [em] at hst
      clear em
      have c0 := bv.cell 0 rfl
      go_wp2_with fail
      go_ret
      exact ⟨_, rfl, hst.tight, by omega, hx0⟩

end Go.Proofs.Ytkifpligpobiaaa
