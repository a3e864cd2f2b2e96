
import Derived.Test.YtkifpligpobiaaaQ5
set_option linter.unusedVariables false
set_option linter.unusedSimpArgs false

namespace Go.Proofs.Ytkifpligpobiaaa

open Go.RowKit


/-- What SparseFlip answers. -/
noncomputable def flipD (sd : Int) (st co : List Int) (va : List Nat) : SD := if isSp sd st co va then giveSp sd.toNat (flipM (vw st co va co.length)) else SD.bad

set_option maxRecDepth 20000 in
set_option maxHeartbeats 4000000 in
theorem specSparseFlip_any (sd : Int) (A : Option Addr) (n ca : Nat) (B : Option Addr) (m cb : Nat) (V : Option Addr) (p cv : Nat) (st co : List Int) (va : List Nat) (w : World) (hr : Rds w A n (ints st)) (hq : Rds w B m (ints co)) (hv : Rds w V p (flts va)) :
    Calls Try.prog 57 #[.agg #[.int .i64 sd, .slice A n ca, .slice B m cb, .slice V p cv]] w (RetSqB w (flipD sd st co va)) := by
  have HM := Lib.hid hq.ilen
  cases hs : isSp sd st co va with
  | false =>
    have hd : flipD sd st co va = SD.bad := by unfold flipD; rw [hs]; rfl
    go_enter Try.func57, Try.ntmps57
    go_upto_region 1 with (fail)
    obtain ⟨w0, hw0⟩ : ∃ w0, w0 = ((w.alloc (.cells #[.int .i64 sd, .slice A n ca, .slice B m cb, .slice V p cv] 27)).alloc (.cells #[.int .i64 0, .slice none 0 0, .slice none 0 0, .slice none 0 0] 27)) := ⟨_, rfl⟩
    have hx0 : Ext w w0 := by subst hw0; exact ((Ext.refl _).alloc _).alloc _
    have ba : Blk w0 (w.heap.size) #[.int .i64 sd, .slice A n ca, .slice B m cb, .slice V p cv] 27 := by subst hw0; exact (Blk.new w _ _).ext ((Ext.refl _).alloc _)
    have b1 : Blk w0 (w.heap.size + 1) #[.int .i64 0, .slice none 0 0, .slice none 0 0, .slice none 0 0] 27 := by subst hw0; simpa using (Blk.new (w.alloc (.cells #[.int .i64 sd, .slice A n ca, .slice B m cb, .slice V p cv] 27)) _ _)
    rw [← hw0]
    clear hw0
    go_wp2_with fail
    refine (l05Is_any _ sd A n ca B m cb V p cv st co va _ (SAt.of ba (hr.below hx0) (hq.below hx0) (hv.below hx0))).mono ?_
    rintro e w1 ⟨rfl, hx⟩
    rw [hs]
    replace b1 := b1.ext hx
    replace hx0 := hx0.trans hx
    clear hx ba
    have y0 := b1.cell 0 rfl
    have y1 := b1.cell 1 rfl
    have y2 := b1.cell 2 rfl
    have y3 := b1.cell 3 rfl
    have f0 := b1.free 0
    have f1 := b1.free 1
    have f2 := b1.free 2
    have f3 := b1.free 3
    have hq0 := b1.lt
    go_wp2_with fail
    have d0 := b1.set 0 (.int .i64 0)
    have d1 := d0.set 1 (.slice none 0 0)
    have d2 := d1.set 2 (.slice none 0 0)
    have d3 := d2.set 3 (.slice none 0 0)
    have x2 := ((((hx0.set (p := ⟨w.heap.size + 1, 0, none⟩) (by simp) (.int .i64 0)).set (p := ⟨w.heap.size + 1, 1, none⟩) (by simp) (.slice none 0 0)).set (p := ⟨w.heap.size + 1, 2, none⟩) (by simp) (.slice none 0 0)).set (p := ⟨w.heap.size + 1, 3, none⟩) (by simp) (.slice none 0 0))
    have r0 := d3.cell 0 rfl
    have r1 := d3.cell 1 rfl
    have r2 := d3.cell 2 rfl
    have r3 := d3.cell 3 rfl
    refine bodyPost_ret (v := .tuple #[.agg #[.int .i64 0, .slice none 0 0, .slice none 0 0, .slice none 0 0], .bool false]) (by simp only [results, Try.results57]; simp [go_sem, r0, r1, r2, r3]) rfl (RetSqB.bad hd rfl x2)
  | true =>
    have hsp := isSp_iff.1 hs
    obtain ⟨N, rfl⟩ : ∃ N : Nat, sd = N := ⟨sd.toNat, by have := hsp.s1; omega⟩
    have hn1 : 1 ≤ N := by have := hsp.s1; omega
    have hn32 : N ≤ 32 := by have := hsp.s1; omega
    have hd : flipD N st co va = giveSp N (flipM (vw st co va m)) := by unfold flipD; rw [hs, HM.out]; rfl
    obtain ⟨D, hD⟩ : ∃ D, D = flipD N st co va := ⟨_, rfl⟩
    rw [← hD]
    rw [← hD] at hd
    have HD := Lib.hid hd
    have HSP := Lib.hid hsp
    clear hd hD hsp
    go_enter Try.func57, Try.ntmps57
    go_upto_region 1 with (fail)
    obtain ⟨w0, hw0⟩ : ∃ w0, w0 = ((w.alloc (.cells #[.int .i64 N, .slice A n ca, .slice B m cb, .slice V p cv] 27)).alloc (.cells #[.int .i64 0, .slice none 0 0, .slice none 0 0, .slice none 0 0] 27)) := ⟨_, rfl⟩
    have hx0 : Ext w w0 := by subst hw0; exact ((Ext.refl _).alloc _).alloc _
    have ba : Blk w0 (w.heap.size) #[.int .i64 N, .slice A n ca, .slice B m cb, .slice V p cv] 27 := by subst hw0; exact (Blk.new w _ _).ext ((Ext.refl _).alloc _)
    have b1 : Blk w0 (w.heap.size + 1) #[.int .i64 0, .slice none 0 0, .slice none 0 0, .slice none 0 0] 27 := by subst hw0; simpa using (Blk.new (w.alloc (.cells #[.int .i64 N, .slice A n ca, .slice B m cb, .slice V p cv] 27)) _ _)
    rw [← hw0]
    clear hw0
    go_wp2_with fail
    refine (l05Is_any _ N A n ca B m cb V p cv st co va _ (SAt.of ba (hr.below hx0) (hq.below hx0) (hv.below hx0))).mono ?_
    rintro e w1 ⟨rfl, hx⟩
    rw [hs]
    replace ba := ba.ext hx
    replace b1 := b1.ext hx
    replace hx0 := hx0.trans hx
    clear hx
    go_wp2_with fail
    refine (l05Open_any _ N A n ca B m cb V p cv st co va HSP.out _ (SAt.of ba (hr.below hx0) (hq.below hx0) (hv.below hx0))).mono ?_
    rintro e w2 ⟨T, k2, U, q2, zs, rfl, hy, o1, o2, hx⟩
    replace b1 := b1.ext hx
    replace hx0 := hx0.trans hx
    clear hx ba
    go_upto_region 4 with (fail)
    have bf := Blk.new w2 #[.int .i64 N, .slice T (N * N) k2, .slice U (N * N) q2] 71
    have xg : Ext w2 (w2.alloc (.cells #[.int .i64 N, .slice T (N * N) k2, .slice U (N * N) q2] 71)) := (Ext.refl _).alloc _
    replace b1 := b1.ext xg
    replace hx0 := hx0.trans xg
    replace o1 := o1.ext xg
    replace o2 := o2.ext xg
    clear xg
    go_wp2_with fail
    refine (l05Flip_any _ N (N * N) T k2 U q2 (vw st co va m) zs hn1 hn32 rfl _ (FAt.of bf o1.reads o2.reads hy)).mono ?_
    rintro e w3 ⟨T, k2, U, q2, zs, rfl, hy, o1, o2, hx⟩
    replace b1 := b1.ext hx
    replace hx0 := hx0.trans hx
    clear hx bf
    go_upto_region 5 with (fail)
    have bf := Blk.new w3 #[.int .i64 N, .slice T (N * N) k2, .slice U (N * N) q2] 71
    have xg : Ext w3 (w3.alloc (.cells #[.int .i64 N, .slice T (N * N) k2, .slice U (N * N) q2] 71)) := (Ext.refl _).alloc _
    replace b1 := b1.ext xg
    replace hx0 := hx0.trans xg
    replace o1 := o1.ext xg
    replace o2 := o2.ext xg
    clear xg
    go_wp2_with fail
    refine (l05Close_any _ N (N * N) T k2 U q2 (flipM (vw st co va m)) zs hn1 hn32 rfl _ (FAt.of bf o1.reads o2.reads hy)).mono ?_
    rw [← HD.out]
    rintro e w4 ⟨A', kA, B', kB, V', kV, rfl, p1, p2, p3, n12, n13, n23, hx⟩
    replace p1 := p1.base hx0.size
    replace p2 := p2.base hx0.size
    replace p3 := p3.base hx0.size
    replace b1 := b1.ext hx
    replace hx0 := hx0.trans hx
    clear hx bf o1 o2
    have y0 := b1.cell 0 rfl
    have y1 := b1.cell 1 rfl
    have y2 := b1.cell 2 rfl
    have y3 := b1.cell 3 rfl
    have f0 := b1.free 0
    have f1 := b1.free 1
    have f2 := b1.free 2
    have f3 := b1.free 3
    have hq0 := b1.lt
    go_wp2_with fail
    have d0 := b1.set 0 (.int .i64 D.sd)
    have d1 := d0.set 1 (.slice A' D.st.length kA)
    have d2 := d1.set 2 (.slice B' D.co.length kB)
    have d3 := d2.set 3 (.slice V' D.va.length kV)
    have s1 := ((((p1.setBlk b1 (by decide) 0 (.int .i64 D.sd)).setBlk d0 (by decide) 1 (.slice A' D.st.length kA)).setBlk d1 (by decide) 2 (.slice B' D.co.length kB)).setBlk d2 (by decide) 3 (.slice V' D.va.length kV))
    have s2 := ((((p2.setBlk b1 (by decide) 0 (.int .i64 D.sd)).setBlk d0 (by decide) 1 (.slice A' D.st.length kA)).setBlk d1 (by decide) 2 (.slice B' D.co.length kB)).setBlk d2 (by decide) 3 (.slice V' D.va.length kV))
    have s3 := ((((p3.setBlk b1 (by decide) 0 (.int .i64 D.sd)).setBlk d0 (by decide) 1 (.slice A' D.st.length kA)).setBlk d1 (by decide) 2 (.slice B' D.co.length kB)).setBlk d2 (by decide) 3 (.slice V' D.va.length kV))
    have x2 := ((((hx0.set (p := ⟨w.heap.size + 1, 0, none⟩) (by simp) (.int .i64 D.sd)).set (p := ⟨w.heap.size + 1, 1, none⟩) (by simp) (.slice A' D.st.length kA)).set (p := ⟨w.heap.size + 1, 2, none⟩) (by simp) (.slice B' D.co.length kB)).set (p := ⟨w.heap.size + 1, 3, none⟩) (by simp) (.slice V' D.va.length kV))
    have r0 := d3.cell 0 rfl
    have r1 := d3.cell 1 rfl
    have r2 := d3.cell 2 rfl
    have r3 := d3.cell 3 rfl
    exact bodyPost_ret (v := .tuple #[.agg #[.int .i64 D.sd, .slice A' D.st.length kA, .slice B' D.co.length kB, .slice V' D.va.length kV], .bool D.ok]) (by simp only [results, Try.results57]; simp [go_sem, r0, r1, r2, r3]) rfl ⟨A', kA, B', kB, V', kV, rfl, s1, s2, s3, n12, n13, n23, x2⟩

end Go.Proofs.Ytkifpligpobiaaa
