
/- SparseFill, the reference. -/

import Derived.Test.YtkifpligpobiaaaH9

import Derived.Test.YtkifpligpobiaaaH12
set_option linter.unusedVariables false
set_option linter.unusedSimpArgs false

namespace Go.Proofs.Ytkifpligpobiaaa

open Go.RowKit


theorem flL_at' (n : Nat) (B : Grf) {i k : Nat} (h : i < k) : (flL n B k)[i]? = some (natI (lsB n (stB B i i))) := by simp [flL, h]

set_option maxRecDepth 20000 in
set_option maxHeartbeats 8000000 in
theorem specSparseFill_any (sd : Int) (A : Option Addr) (n ca : Nat) (B : Option Addr) (m cb : Nat) (V : Option Addr) (p cv : Nat) (st co : List Int) (va : List Nat) (w : World) (hr : Rds w A n (ints st)) (hq : Rds w B m (ints co)) (hv : Rds w V p (flts va)) :
    Calls Try.prog 61 #[.agg #[.int .i64 sd, .slice A n ca, .slice B m cb, .slice V p cv]] w (RetLIB w (filD sd st co va)) := by
  have HM := Lib.hid hq.ilen
  cases hs : isSp sd st co va with
  | false =>
    have hd : filD sd st co va = ([], 0, false) := by unfold filD; rw [hs]; rfl
    rw [hd]
    clear hd
    go_enter Try.func61, Try.ntmps61
    go_upto_region 1 with (fail)
    obtain ⟨w0, hw0⟩ : ∃ w0, w0 = (w.alloc (.cells #[.int .i64 sd, .slice A n ca, .slice B m cb, .slice V p cv] 27)) := ⟨_, rfl⟩
    have hx0 : Ext w w0 := by subst hw0; exact (Ext.refl _).alloc _
    have ba : Blk w0 (w.heap.size) #[.int .i64 sd, .slice A n ca, .slice B m cb, .slice V p cv] 27 := by subst hw0; exact (Blk.new w _ _)
    rw [← hw0]
    clear hw0
    go_wp2_with fail
    refine (l05Is_any _ sd A n ca B m cb V p cv st co va _ (SAt.of ba (hr.below hx0) (hq.below hx0) (hv.below hx0))).mono ?_
    rintro e w1 ⟨rfl, hx⟩
    rw [hs]
    replace ba := ba.ext hx
    replace hx0 := hx0.trans hx
    clear hx
    go_wp2_with fail
    refine bodyPost_ret (v := .tuple #[.slice none 0 0, .int .i64 0, .bool false]) (by simp only [results, Try.results61]; simp [go_sem]) rfl ⟨none, 0, rfl, Own.nil _ _ _, hx0⟩
  | true =>
    have hsp := isSp_iff.1 hs
    obtain ⟨N, rfl⟩ : ∃ N : Nat, sd = N := ⟨sd.toNat, by have := hsp.s1; omega⟩
    have hn1 : 1 ≤ N := by have := hsp.s1; omega
    have hn32 : N ≤ 32 := by have := hsp.s1; omega
    have hd : filD N st co va = (natI (filk N (nbM (vw st co va m)) N), ((fiS N (nbM (vw st co va m)) N : Nat) : Int), true) := by unfold filD; rw [hs, HM.out]; rfl
    rw [hd]
    clear hd
    obtain ⟨G, hG⟩ : ∃ G, G = nbM (vw st co va m) := ⟨_, rfl⟩
    have HSY : Hid (SymB N G) := by rw [hG]; exact nbM_sym N _
    rw [← hG]
    have HG := Lib.hid hG
    have HSP := Lib.hid hsp
    clear hG hsp
    go_enter Try.func61, Try.ntmps61
    go_upto_region 1 with (fail)
    obtain ⟨w0, hw0⟩ : ∃ w0, w0 = (w.alloc (.cells #[.int .i64 N, .slice A n ca, .slice B m cb, .slice V p cv] 27)) := ⟨_, rfl⟩
    have hx0 : Ext w w0 := by subst hw0; exact (Ext.refl _).alloc _
    have ba : Blk w0 (w.heap.size) #[.int .i64 N, .slice A n ca, .slice B m cb, .slice V p cv] 27 := by subst hw0; exact (Blk.new w _ _)
    rw [← hw0]
    clear hw0
    go_wp2_with fail
    refine (l05Is_any _ N A n ca B m cb V p cv st co va _ (SAt.of ba (hr.below hx0) (hq.below hx0) (hv.below hx0))).mono ?_
    rintro e w1 ⟨rfl, hx⟩
    rw [hs]
    replace ba := ba.ext hx
    replace hx0 := hx0.trans hx
    clear hx

    have SA := SAt.of ba (hr.below hx0) (hq.below hx0) (hv.below hx0)
    go_wp2_with fail
    refine (l05Fill_any _ N A n ca B m cb V p cv st co va HSP.out _ SA).mono ?_
    rw [← HG.out]
    unfold RetLs
    rw [flL_len]
    rintro e w3 ⟨FA, fc, vs, rfl, of, hro, hx⟩
    replace hx0 := hx0.trans hx
    clear hx SA ba
    obtain ⟨ad, rfl, hcf⟩ := of.reads.at' (by omega)
    have HCF : Hid (∀ j, j < N → w3.cell? (ad.add j) = vs[j]?) := by show ∀ j, _; exact hcf
    have oo := Own.empty w3 2
    have hx1 : Ext w3 (w3.alloc (.cells #[] 2)) := (Ext.refl _).alloc _
    have HRO := Lib.hid hro
    clear hro hcf of
    go_wp2_with fail
    go_loopw [6, 7, 16] (fun u u2 v wr => ∃ i : Nat, i ≤ N ∧ v = .int .i64 i ∧ u2 = .int .i64 (fiS N G i : Nat) ∧ ∃ A c, u = .slice A i c ∧ Own wr w3.heap.size 2 (.slice A i c) (ints (natI (filk N G i))) ∧ Ext w3 wr) (fun _ _ v _ => N - (intOf v).toNat)
    case atStart => exact ⟨0, Nat.zero_le _, rfl, rfl, _, 0, rfl, oo, hx1⟩
    case round =>
      rename World => wA
      clear oo hx1
      obtain ⟨i, hi, rfl, rfl, A1, c1, rfl, oo, hx1⟩ := hrel
      by_cases hlt : i < N
      · have g1 : IntKind.i64.wrap ((i : Int) + 1) = (i : Int) + 1 := IntWalk.i64_in _ (by omega)
        have hltI : (i : Int) < N := by omega
        obtain ⟨RA, rc, hv1, oR⟩ := HRO.out.2 i _ (flL_at' N G hlt)
        have hc : wA.cell? (ad.add i) = some (.slice RA (natI (lsB N (stB G i i))).length rc) := by
          have h1 := HCF.out i hlt
          rw [hv1] at h1
          exact hx1.cell h1
        rw [natI_length] at hc
        have HFN := Lib.hid (filk_next N G i)
        have HFS : Hid (fiS N G (i + 1) = fiS N G i + ((lsB N (stB G i i)).length + 1)) := by show _ = _; rfl
        have hl32 := lsB_len N (stB G i i)
        have hs32 := fiS_le N G hn32 i
        obtain ⟨dd, hdd⟩ : ∃ dd, dd = (lsB N (stB G i i)).length := ⟨_, rfl⟩
        obtain ⟨sm, hsm⟩ : ∃ sm, sm = fiS N G i := ⟨_, rfl⟩
        rw [← hdd] at hc HFN HFS hl32
        rw [← hsm] at HFS hs32
        rw [← hsm]
        clear hdd hsm hv1 oR
        have hl := oo.len
        have g5 : IntKind.i64.wrap ((dd : Int) + 1) = (dd : Int) + 1 := IntWalk.i64_in _ (by omega)
        have g6 : IntKind.i64.wrap ((sm : Int) + ((dd : Int) + 1)) = (sm : Int) + ((dd : Int) + 1) := IntWalk.i64_in _ (by omega)
        have ho' := oo.ext ((Ext.refl wA).alloc (.cells #[.int .i64 ((dd : Int) + 1)] 2))
        have hsz := hx1.size
        go_wp2_with (at_builtin; go_loud (refine wpList_app1 rfl _ _ _ rfl (wA.alloc (.cells #[.int .i64 ((dd : Int) + 1)] 2)) w3.heap.size 2 (.int .i64 0) 8 Try.underlying22 info_i64 rfl (by decide) (.slice A1 i c1) (ints (natI (filk N G i))) rfl wA.heap.size (.int .i64 ((dd : Int) + 1)) rfl (One.new _ _ _) ho' rfl (by omega) (by simp; omega) ?_); rw [hl]; intro A' c' w9 h5 h6 h7)
        go_roundw
        case rel =>
          refine ⟨i + 1, by omega, by go_num, by rw [HFS.out]; go_num, A', c', rfl, ?_, h6.ext (hx1.alloc _) ho'⟩
          rw [HFN.out, natI_append, ints_append]
          exact h5
        case measure => simp [intOf]; omega
      · obtain rfl : i = N := by omega
        have HL := Lib.hid (show (natI (filk i G i)).length = i by rw [natI_length]; exact filk_len _ _ _)
        replace oo := oo.base hx0.size
        replace hx0 := hx0.trans hx1
        clear hx1
        go_wp2_with fail
        refine bodyPost_ret (v := .tuple #[.slice A1 i c1, .int .i64 (fiS i G i : Nat), .bool true]) (by simp only [results, Try.results61]; simp [go_sem]) rfl ?_
        refine ⟨A1, c1, ?_, ?_, hx0⟩
        · rw [HL.out]
        · rw [HL.out]; exact oo

end Go.Proofs.Ytkifpligpobiaaa
