
/- Products of sparse squares: what is added up; a row, the program. -/

import Derived.Test.YtkifpligpobiaaaK9
set_option linter.unusedVariables false
set_option linter.unusedSimpArgs false

namespace Go.Proofs.Ytkifpligpobiaaa

open Go.RowKit


/-- A number times a row of another square, the first d entries from s on. -/
def mulIn (i : Nat) (v : Option Nat) (co : List Int) (va : List Nat) (s : Nat) : Nat → Sqr → Sqr
  | 0, M => M
  | d + 1, M => accM (mulIn i v co va s d M) i (rd co ((s + d : Nat) : Int)).toNat (fmul v (c32 (rdf va ((s + d : Nat) : Int))))
/-- .. of one entry. -/
def mulOne (i : Nat) (co : List Int) (va : List Nat) (st' co' : List Int) (va' : List Nat) (k : Nat) (M : Sqr) : Sqr :=
  mulIn i (c32 (rdf va (k : Int))) co' va' (rd st' (rd co (k : Int))).toNat ((rd st' (rd co (k : Int) + 1)).toNat - (rd st' (rd co (k : Int))).toNat) M
def mulRow (i : Nat) (co : List Int) (va : List Nat) (st' co' : List Int) (va' : List Nat) (s : Nat) : Nat → Sqr → Sqr
  | 0, M => M
  | d + 1, M => mulOne i co va st' co' va' (s + d) (mulRow i co va st' co' va' s d M)
def mulAll (st co : List Int) (va : List Nat) (st' co' : List Int) (va' : List Nat) : Nat → Sqr
  | 0 => noneM
  | i + 1 => mulRow i co va st' co' va' (rd st (i : Int)).toNat ((rd st ((i : Int) + 1)).toNat - (rd st (i : Int)).toNat) (mulAll st co va st' co' va' i)
theorem mulIn_next {i : Nat} {v : Option Nat} {co : List Int} {va : List Nat} {s k : Nat} (M : Sqr) (h : s ≤ k) : mulIn i v co va s (k + 1 - s) M = accM (mulIn i v co va s (k - s) M) i (rd co (k : Int)).toNat (fmul v (c32 (rdf va (k : Int)))) := by
  rw [show k + 1 - s = (k - s) + 1 by omega]
  show accM _ i (rd co ((s + (k - s) : Nat) : Int)).toNat _ = _
  rw [show s + (k - s) = k by omega]
theorem mulRow_next {i : Nat} {co : List Int} {va : List Nat} {st' co' : List Int} {va' : List Nat} {s k : Nat} (M : Sqr) (h : s ≤ k) : mulRow i co va st' co' va' s (k + 1 - s) M = mulOne i co va st' co' va' k (mulRow i co va st' co' va' s (k - s) M) := by
  rw [show k + 1 - s = (k - s) + 1 by omega]
  show mulOne i co va st' co' va' (s + (k - s)) _ = _
  rw [show s + (k - s) = k by omega]

set_option maxRecDepth 20000 in
set_option maxHeartbeats 8000000 in
theorem mul1_any (N : Nat) (hn : N ≤ 32) (A : Option Addr) (n ca : Nat) (B : Option Addr) (m cb : Nat) (V : Option Addr) (p cv : Nat) (st co : List Int) (va : List Nat) (hsp : IsSp N st co va) (wb w : World) (hxb : Ext wb w) (hr : Rds wb A n (ints st)) (hq : Rds wb B m (ints co)) (hv : Rds wb V p (flts va))
    (b : Nat) (hbb : wb.heap.size ≤ b) (i j x pq pm pi : Nat) (M : Sqr) (hi : i < N) (hj : j < N) (hm : MapV w b (N * N) N M)
    (cq : Blk w pq #[.int .i64 N, .slice A n ca, .slice B m cb, .slice V p cv] 27) (cm : Blk w pm #[.map (some b)] 92) (ci : Blk w pi #[.int .i64 i] 2) :
    Calls Try.prog 119 #[.int .i64 j, .float .f32 x, .pointer (some ⟨pq, 0, none⟩), .pointer (some ⟨pm, 0, none⟩), .pointer (some ⟨pi, 0, none⟩)] w fun e w' => e = .returned (.tuple #[]) ∧ MapV w' b (N * N) N (mulIn i (c32 x) co va (rd st j).toNat ((rd st ((j : Int) + 1)).toNat - (rd st j).toNat) M) ∧ w.grownBy w' (some b) := by
  have hn32 : N + 1 ≤ n := by have := hsp.s2; rw [hr.ilen] at this; omega
  have hn33 : n ≤ 33 := by have := hsp.s2; rw [hr.ilen] at this; omega
  have hpm : p = m := by have := hsp.s4; rw [hv.flen, hq.ilen] at this; exact this
  have HPM := Lib.hid hpm
  have HMm := Lib.hid hq.ilen
  have hm512 : m ≤ 512 := by have := hsp.s3; rw [hq.ilen] at this; exact this
  have r0 := hsp.range (i := j) (by omega)
  have r1 := hsp.range (i := j + 1) (by omega)
  have e1 : ((j + 1 : Nat) : Int) = (j : Int) + 1 := by omega
  rw [HMm.out] at r0 r1
  rw [e1] at r1
  have hup : rd st j ≤ rd st ((j : Int) + 1) := hsp.s8 j (by omega)
  obtain ⟨s0, hs0⟩ : ∃ s0 : Nat, rd st j = s0 := ⟨(rd st j).toNat, by omega⟩
  obtain ⟨s1, hs1⟩ : ∃ s1 : Nat, rd st ((j : Int) + 1) = s1 := ⟨(rd st ((j : Int) + 1)).toNat, by omega⟩
  rw [hs0] at r0 hup
  rw [hs1] at r1 hup
  rw [hs0, hs1, Int.toNat_natCast, Int.toNat_natCast]
  have HS0 := Lib.hid hs0
  have HS1 := Lib.hid hs1
  have HSP := Lib.hid hsp
  clear hpm hs0 hs1 e1 hsp
  have lq := cq.lt
  have c0 := cq.cell 0 rfl
  have c1 := cq.cell 1 rfl
  have c2 := cq.cell 2 rfl
  have c3 := cq.cell 3 rfl
  go_enter Try.func119, Try.ntmps119
  go_upto_region 1 with (fail)
  go_wp2_with fail
  clear c0 c1 c2 c3
  have xg : Ext w (w.alloc (.cells #[.float .f32 x] 43)) := (Ext.refl _).alloc _
  have lb := hm.lt
  refine (each_any 120 _ (enters_of Try.func120 (by kernel_rfl) rfl) N A n ca B m cb V p cv st co va j s0 s1 _
    (fun k W => (w.alloc (.cells #[.float .f32 x] 43)).grownBy W (some b) ∧ MapV W b (N * N) N (mulIn i (c32 x) co va s0 (k - s0) M))
    (by omega) hn33 HPM.out HS0.out HS1.out (by omega) (by omega) hm512 ?_ ?_ ?_ ?_).mono ?_
  · intro k W W' ⟨h1, h2⟩ hx
    exact ⟨gb_ext h1 hx, h2.ext hx⟩
  · intro k W ⟨h1, _⟩
    have hx := MapV.ge h1 (hxb.trans xg) hbb
    exact ⟨hr.below hx, hq.below hx, hv.below hx⟩
  · intro k W hk0 hk1 hsz ⟨h1, h2⟩
    have hcr := HSP.out.s9 k (by rw [HMm.out]; omega)
    obtain ⟨c, hc⟩ : ∃ c : Nat, rd co k = c := ⟨(rd co k).toNat, by omega⟩
    have hcN : c < N := by rw [hc] at hcr; omega
    have cm' := ((cm.ext xg).grown h1 (by have := hm.notCells cm; exact this))
    have ci' := ((ci.ext xg).grown h1 (by have := hm.notCells ci; exact this))
    have cx' := (Blk.new w #[.float .f32 x] 43).grown h1 (by omega)
    rw [hc]
    refine (mul11_any N hn wb W (MapV.ge h1 (hxb.trans xg) hbb) b hbb i c x (rdf va k) pm pi w.heap.size _ hi hcN h2 cm' ci' cx').mono ?_
    rintro e W' ⟨rfl, hm', hg⟩
    refine ⟨rfl, ⟨gb_trans h1 hg, ?_⟩, hg.size, hg.block _ hsz (by simp; omega)⟩
    rw [mulIn_next M hk0, hc, Int.toNat_natCast]
    exact hm'
  · refine ⟨gb_refl _ _, ?_⟩
    rw [Nat.sub_self]
    exact hm.ext xg
  · rintro e W' ⟨rfl, h1, h2⟩
    go_wp2_with fail
    refine bodyPost_end (v := .tuple #[]) (by simp only [results, Try.results119]; simp [go_sem]) rfl ⟨rfl, h2, ?_⟩
    exact gb_trans (xg.grown _) h1

end Go.Proofs.Ytkifpligpobiaaa
