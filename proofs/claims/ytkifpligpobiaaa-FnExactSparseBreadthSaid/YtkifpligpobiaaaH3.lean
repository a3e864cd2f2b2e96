
/- SparseDegrees, the program. -/

import Derived.Test.YtkifpligpobiaaaH2
set_option linter.unusedVariables false
set_option linter.unusedSimpArgs false

namespace Go.Proofs.Ytkifpligpobiaaa

open Go.RowKit


/-- A list of whole numbers, and whether it is one. -/
def RetLB (w : World) (d : List Int × Bool) (e : Ending) (w' : World) : Prop := ∃ A c, e = .returned (.tuple #[.slice A d.1.length c, .bool d.2]) ∧ Own w' w.heap.size 2 (.slice A d.1.length c) (ints d.1) ∧ Ext w w'

/-- How many neighbours the first k rows have. -/
def dgk (n : Nat) (B : Grf) (k : Nat) : List Nat := (List.range k).map fun i => degB n B i
theorem dgk_next (n : Nat) (B : Grf) (k : Nat) : dgk n B (k + 1) = dgk n B k ++ [degB n B k] := by unfold dgk; rw [List.range_succ, List.map_append]; rfl
theorem dgk_len (n : Nat) (B : Grf) (k : Nat) : (dgk n B k).length = k := by simp [dgk]
def degL (n : Nat) (B : Grf) : List Nat := dgk n B n

/-- What SparseDegrees answers. -/
noncomputable def degD (sd : Int) (st co : List Int) (va : List Nat) : List Int × Bool := if isSp sd st co va then (natI (degL sd.toNat (nbM (vw st co va co.length))), true) else ([], false)

set_option maxRecDepth 20000 in
set_option maxHeartbeats 8000000 in
theorem implSparseDegrees_any (sd : Int) (A : Option Addr) (n ca : Nat) (B : Option Addr) (m cb : Nat) (V : Option Addr) (p cv : Nat) (st co : List Int) (va : List Nat) (w : World) (hr : Rds w A n (ints st)) (hq : Rds w B m (ints co)) (hv : Rds w V p (flts va)) :
    Calls Try.prog 50 #[.agg #[.int .i64 sd, .slice A n ca, .slice B m cb, .slice V p cv]] w (RetLB w (degD sd st co va)) := by
  have HM := Lib.hid hq.ilen
  cases hs : isSp sd st co va with
  | false =>
    have hd : degD sd st co va = ([], false) := by unfold degD; rw [hs]; rfl
    rw [hd]
    clear hd
    go_enter Try.func50, Try.ntmps50
    go_upto_region 1 with (fail)
    obtain ⟨w0, hw0⟩ : ∃ w0, w0 = (w.alloc (.cells #[.int .i64 sd, .slice A n ca, .slice B m cb, .slice V p cv] 27)) := ⟨_, rfl⟩
    have hx0 : Ext w w0 := by subst hw0; exact (Ext.refl _).alloc _
    have ba : Blk w0 (w.heap.size) #[.int .i64 sd, .slice A n ca, .slice B m cb, .slice V p cv] 27 := by subst hw0; exact (Blk.new w _ _)
    rw [← hw0]
    clear hw0
    have c0 := ba.cell 0 rfl
    have c1 := ba.cell 1 rfl
    have c2 := ba.cell 2 rfl
    have c3 := ba.cell 3 rfl
    go_wp2_with fail
    refine (implValidSparse_any sd A n ca B m cb V p cv st co va _ (hr.below hx0) (hq.below hx0) (hv.below hx0)).mono ?_
    rintro e w1 ⟨rfl, hx⟩
    rw [hs]
    replace ba := ba.ext hx
    replace hx0 := hx0.trans hx
    clear hx c0 c1 c2 c3
    go_wp2_with fail
    refine bodyPost_ret (v := .tuple #[.slice none 0 0, .bool false]) (by simp only [results, Try.results50]; simp [go_sem]) rfl ⟨none, 0, rfl, Own.nil _ _ _, hx0⟩
  | true =>
    have hsp := isSp_iff.1 hs
    obtain ⟨N, rfl⟩ : ∃ N : Nat, sd = N := ⟨sd.toNat, by have := hsp.s1; omega⟩
    have hn1 : 1 ≤ N := by have := hsp.s1; omega
    have hn32 : N ≤ 32 := by have := hsp.s1; omega
    have hd : degD N st co va = (natI (degL N (nbM (vw st co va m))), true) := by unfold degD; rw [hs, HM.out]; rfl
    rw [hd]
    clear hd
    obtain ⟨G, hG⟩ : ∃ G, G = nbM (vw st co va m) := ⟨_, rfl⟩
    have HSY : Hid (SymB N G) := by rw [hG]; exact nbM_sym N _
    rw [← hG]
    have HG := Lib.hid hG
    have HSP := Lib.hid hsp
    clear hG hsp
    go_enter Try.func50, Try.ntmps50
    go_upto_region 1 with (fail)
    obtain ⟨w0, hw0⟩ : ∃ w0, w0 = (w.alloc (.cells #[.int .i64 N, .slice A n ca, .slice B m cb, .slice V p cv] 27)) := ⟨_, rfl⟩
    have hx0 : Ext w w0 := by subst hw0; exact (Ext.refl _).alloc _
    have ba : Blk w0 (w.heap.size) #[.int .i64 N, .slice A n ca, .slice B m cb, .slice V p cv] 27 := by subst hw0; exact (Blk.new w _ _)
    rw [← hw0]
    clear hw0
    have c0 := ba.cell 0 rfl
    have c1 := ba.cell 1 rfl
    have c2 := ba.cell 2 rfl
    have c3 := ba.cell 3 rfl
    go_wp2_with fail
    refine (implValidSparse_any N A n ca B m cb V p cv st co va _ (hr.below hx0) (hq.below hx0) (hv.below hx0)).mono ?_
    rintro e w1 ⟨rfl, hx⟩
    rw [hs]
    replace ba := ba.ext hx
    replace hx0 := hx0.trans hx
    clear hx c0 c1 c2 c3
    have c0 := ba.cell 0 rfl
    have c1 := ba.cell 1 rfl
    have c2 := ba.cell 2 rfl
    have c3 := ba.cell 3 rfl
    have lA := ba.lt

    go_wp2_with fail
    refine (neighbours_any N A n ca B m cb V p cv st co va HSP.out _ (hr.below (hx0.trans ((Ext.refl _).alloc _))) (hq.below (hx0.trans ((Ext.refl _).alloc _))) (hv.below (hx0.trans ((Ext.refl _).alloc _)))).mono ?_
    rw [← HG.out]
    rintro e w2 ⟨GA, gc, rfl, og, hx⟩
    clear c0 c1 c2 c3 ba lA
    have oo := (Own.empty w1 2).ext hx
    have hx1 : Ext w1 w2 := ((Ext.refl _).alloc _).trans hx
    replace og := og.base (b := w1.heap.size) (by simp)
    clear hx
    go_wp2_with fail
    go_loopw [4, 14] (fun u v wr => ∃ i : Nat, i ≤ N ∧ v = .int .i64 i ∧ ∃ A c, u = .slice A i c ∧ Own wr w1.heap.size 2 (.slice A i c) (ints (natI (dgk N G i))) ∧ Own wr w1.heap.size 86 (.slice GA N gc) (u64s (gl N G)) ∧ Ext w1 wr) (fun _ v _ => N - (intOf v).toNat)
    case atStart => exact ⟨0, Nat.zero_le _, rfl, _, _, rfl, oo, og, hx1⟩
    case round =>
      rename World => wA
      clear og oo hx1
      obtain ⟨i, hi, rfl, A1, c1, rfl, oo, og, hx1⟩ := hrel
      by_cases hlt : i < N
      · have g1 : IntKind.i64.wrap ((i : Int) + 1) = (i : Int) + 1 := IntWalk.i64_in _ (by omega)
        have hltI : (i : Int) < N := by omega
        obtain ⟨ad, hA, hcell⟩ := og.reads.at' (by omega)
        subst hA
        have hc := hcell i hlt
        rw [u64s_get (by rw [gl_length]; exact hlt), gl_at _ hlt] at hc
        clear hcell
        go_wp2_with fail
        refine (degree_any N (G i) hn32 _).mono ?_
        rintro e w3 ⟨rfl, hx⟩
        replace oo := oo.ext hx
        replace og := og.ext hx
        replace hx1 := hx1.trans hx
        clear hc hx
        obtain ⟨dd, hdd⟩ : ∃ dd, dd = (lsB N (G i)).length := ⟨_, rfl⟩
        rw [← hdd]
        have hd32 : dd ≤ N := by rw [hdd]; exact lsB_len _ _
        have HDD := Lib.hid hdd
        clear hdd
        have ho' := oo.ext ((Ext.refl w3).alloc (.cells #[.int .i64 dd] 2))
        have hsz := hx1.size
        have hl := oo.len
        go_wp2_with (at_builtin; go_loud (refine wpList_app1 rfl _ _ _ rfl (w3.alloc (.cells #[.int .i64 dd] 2)) w1.heap.size 2 (.int .i64 0) 8 Try.underlying22 info_i64 rfl (by decide) (.slice A1 i c1) (ints (natI (dgk N G i))) rfl w3.heap.size (.int .i64 dd) rfl (One.new _ _ _) ho' rfl (by omega) (by simp; omega) ?_); rw [hl]; intro A' c' w9 h5 h6 h7)
        go_roundw
        case rel =>
          refine ⟨i + 1, by omega, by go_num, A', c', rfl, ?_, (og.ext ((Ext.refl _).alloc _)).other h6 (ho'.apart (og.ext ((Ext.refl _).alloc _)) (by decide)).2, h6.ext (hx1.alloc _) ho'⟩
          rw [dgk_next, natI_append, ints_append]
          have e : degB N G i = dd := HDD.out.symm
          rw [e]
          exact h5
        case measure => simp [intOf]; omega
      · obtain rfl : i = N := by omega
        have hl : (natI (degL i G)).length = i := by rw [natI_length]; exact dgk_len _ _ _
        have HL := Lib.hid hl
        clear hl og
        replace oo := oo.base hx0.size
        replace hx0 := hx0.trans hx1
        clear hx1
        go_wp2_with fail
        refine bodyPost_ret (v := .tuple #[.slice A1 i c1, .bool true]) (by simp only [results, Try.results50]; simp [go_sem]) rfl ?_
        refine ⟨A1, c1, ?_, ?_, hx0⟩
        · rw [HL.out]
        · rw [HL.out]; exact oo

end Go.Proofs.Ytkifpligpobiaaa
