
/- SparseTree, the reference. -/

import Derived.Test.YtkifpligpobiaaaH9

import Derived.Test.YtkifpligpobiaaaH10
set_option linter.unusedVariables false
set_option linter.unusedSimpArgs false

namespace Go.Proofs.Ytkifpligpobiaaa

open Go.RowKit


theorem flL_at (n : Nat) (B : Grf) {i k : Nat} (h : i < k) : (flL n B k)[i]? = some (natI (lsB n (stB B i i))) := by simp [flL, h]

set_option maxRecDepth 20000 in
set_option maxHeartbeats 8000000 in
theorem specSparseTree_any (sd : Int) (A : Option Addr) (n ca : Nat) (B : Option Addr) (m cb : Nat) (V : Option Addr) (p cv : Nat) (st co : List Int) (va : List Nat) (w : World) (hr : Rds w A n (ints st)) (hq : Rds w B m (ints co)) (hv : Rds w V p (flts va)) :
    Calls Try.prog 63 #[.agg #[.int .i64 sd, .slice A n ca, .slice B m cb, .slice V p cv]] w (RetLB w (treD sd st co va)) := by
  have HM := Lib.hid hq.ilen
  cases hs : isSp sd st co va with
  | false =>
    have hd : treD sd st co va = ([], false) := by unfold treD; rw [hs]; rfl
    rw [hd]
    clear hd
    go_enter Try.func63, Try.ntmps63
    go_upto_region 1 with (fail)
    obtain ⟨w0, hw0⟩ : ∃ w0, w0 = (w.alloc (.cells #[.int .i64 sd, .slice A n ca, .slice B m cb, .slice V p cv] 27)) := ⟨_, rfl⟩
    have hx0 : Ext w w0 := by subst hw0; exact (Ext.refl _).alloc _
    have ba : Blk w0 (w.heap.size) #[.int .i64 sd, .slice A n ca, .slice B m cb, .slice V p cv] 27 := by subst hw0; exact (Blk.new w _ _)
    rw [← hw0]
    clear hw0
    go_wp2_with fail
    refine (l05Is_any _ sd A n ca B m cb V p cv st co va _ (SAt.of ba (hr.below hx0) (hq.below hx0) (hv.below hx0))).mono ?_
    rintro e w1 ⟨rfl, hx⟩
    rw [hs]
    replace ba := ba.ext hx
    replace hx0 := hx0.trans hx
    clear hx
    go_wp2_with fail
    refine bodyPost_ret (v := .tuple #[.slice none 0 0, .bool false]) (by simp only [results, Try.results63]; simp [go_sem]) rfl ⟨none, 0, rfl, Own.nil _ _ _, hx0⟩
  | true =>
    have hsp := isSp_iff.1 hs
    obtain ⟨N, rfl⟩ : ∃ N : Nat, sd = N := ⟨sd.toNat, by have := hsp.s1; omega⟩
    have hn1 : 1 ≤ N := by have := hsp.s1; omega
    have hn32 : N ≤ 32 := by have := hsp.s1; omega
    have hd : treD N st co va = (treL N (nbM (vw st co va m)), true) := by unfold treD; rw [hs, HM.out]; rfl
    rw [hd]
    clear hd
    obtain ⟨G, hG⟩ : ∃ G, G = nbM (vw st co va m) := ⟨_, rfl⟩
    have HSY : Hid (SymB N G) := by rw [hG]; exact nbM_sym N _
    rw [← hG]
    have HG := Lib.hid hG
    have HSP := Lib.hid hsp
    clear hG hsp
    go_enter Try.func63, Try.ntmps63
    go_upto_region 1 with (fail)
    obtain ⟨w0, hw0⟩ : ∃ w0, w0 = (w.alloc (.cells #[.int .i64 N, .slice A n ca, .slice B m cb, .slice V p cv] 27)) := ⟨_, rfl⟩
    have hx0 : Ext w w0 := by subst hw0; exact (Ext.refl _).alloc _
    have ba : Blk w0 (w.heap.size) #[.int .i64 N, .slice A n ca, .slice B m cb, .slice V p cv] 27 := by subst hw0; exact (Blk.new w _ _)
    rw [← hw0]
    clear hw0
    go_wp2_with fail
    refine (l05Is_any _ N A n ca B m cb V p cv st co va _ (SAt.of ba (hr.below hx0) (hq.below hx0) (hv.below hx0))).mono ?_
    rintro e w1 ⟨rfl, hx⟩
    rw [hs]
    replace ba := ba.ext hx
    replace hx0 := hx0.trans hx
    clear hx

    have SA := SAt.of ba (hr.below hx0) (hq.below hx0) (hv.below hx0)
    go_wp2_with fail
    refine (l05Fill_any _ N A n ca B m cb V p cv st co va HSP.out _ SA).mono ?_
    rw [← HG.out]
    unfold RetLs
    rw [flL_len]
    rintro e w3 ⟨FA, fc, vs, rfl, of, hro, hx⟩
    replace hx0 := hx0.trans hx
    clear hx SA ba
    obtain ⟨ad, rfl, hcf⟩ := of.reads.at' (by omega)
    have HCF : Hid (∀ j, j < N → w3.cell? (ad.add j) = vs[j]?) := by show ∀ j, _; exact hcf
    have oo := Own.empty w3 2
    have hx1 : Ext w3 (w3.alloc (.cells #[] 2)) := (Ext.refl _).alloc _
    have HRO := Lib.hid hro
    clear hro hcf of
    go_wp2_with fail
    go_loopw [5, 14] (fun u v wr => ∃ i : Nat, i ≤ N ∧ v = .int .i64 i ∧ ∃ A c, u = .slice A i c ∧ Own wr w3.heap.size 2 (.slice A i c) (ints (trk N G i)) ∧ Ext w3 wr) (fun _ v _ => N - (intOf v).toNat)
    case atStart => exact ⟨0, Nat.zero_le _, rfl, _, 0, rfl, oo, hx1⟩
    case round =>
      rename World => wA
      clear oo hx1
      obtain ⟨i, hi, rfl, A1, c1, rfl, oo, hx1⟩ := hrel
      by_cases hlt : i < N
      · have g1 : IntKind.i64.wrap ((i : Int) + 1) = (i : Int) + 1 := IntWalk.i64_in _ (by omega)
        have hltI : (i : Int) < N := by omega
        obtain ⟨RA, rc, hv1, oR⟩ := HRO.out.2 i _ (flL_at N G hlt)
        have hc : wA.cell? (ad.add i) = some (.slice RA (natI (lsB N (stB G i i))).length rc) := by
          have h1 := HCF.out i hlt
          rw [hv1] at h1
          exact hx1.cell h1
        have hR := oR.reads.below hx1
        have HTR := Lib.hid (trk_next N G i)
        obtain ⟨LL, hLL⟩ : ∃ LL, LL = lsB N (stB G i i) := ⟨_, rfl⟩
        rw [natI_length, ← hLL] at hc hR
        rw [← hLL] at HTR
        have hl32 : LL.length ≤ N := by rw [hLL]; exact lsB_len _ _
        have hl := oo.len
        clear hLL hv1 oR
        cases LL with
        | nil =>
          have hlp : ¬ (0 : Int) < (([] : List Nat).length : Int) := by simp
          simp only [List.length_nil] at hc hR
          have ho' := oo.ext ((Ext.refl wA).alloc (.cells #[.int .i64 (-1)] 2))
          have hsz := hx1.size
          go_wp2_with (at_builtin; go_loud (refine wpList_app1 rfl _ _ _ rfl (wA.alloc (.cells #[.int .i64 (-1)] 2)) w3.heap.size 2 (.int .i64 0) 8 Try.underlying22 info_i64 rfl (by decide) (.slice A1 i c1) (ints (trk N G i)) rfl wA.heap.size (.int .i64 (-1)) rfl (One.new _ _ _) ho' rfl (by omega) (by simp; omega) ?_); rw [hl]; intro A' c' w9 h5 h6 h7)
          go_roundw
          case rel =>
            refine ⟨i + 1, by omega, by go_num, A', c', rfl, ?_, h6.ext (hx1.alloc _) ho'⟩
            rw [HTR.out, ints_append]
            exact h5
          case measure => simp [intOf]; omega
        | cons x l =>
          obtain ⟨ad2, hA2, hd⟩ := hR.intN 0 (by simp)
          subst hA2
          have hd0 : rd (natI (x :: l)) ((0 : Nat) : Int) = (x : Int) := rfl
          rw [hd0, show ad2.add 0 = ad2 from by cases ad2; rfl] at hd
          have hlp : (0 : Int) < ((x :: l).length : Int) := by (simp <;> omega)
          obtain ⟨ll, hll⟩ : ∃ ll, ll = (x :: l).length := ⟨_, rfl⟩
          rw [← hll] at hlp hl32 hc
          clear hd0 hR hll
          have ho' := oo.ext ((Ext.refl wA).alloc (.cells #[.int .i64 x] 2))
          have hsz := hx1.size
          go_wp2_with (at_builtin; go_loud (refine wpList_app1 rfl _ _ _ rfl (wA.alloc (.cells #[.int .i64 x] 2)) w3.heap.size 2 (.int .i64 0) 8 Try.underlying22 info_i64 rfl (by decide) (.slice A1 i c1) (ints (trk N G i)) rfl wA.heap.size (.int .i64 x) rfl (One.new _ _ _) ho' rfl (by omega) (by simp; omega) ?_); rw [hl]; intro A' c' w9 h5 h6 h7)
          go_roundw
          case rel =>
            refine ⟨i + 1, by omega, by go_num, A', c', rfl, ?_, h6.ext (hx1.alloc _) ho'⟩
            rw [HTR.out, ints_append]
            exact h5
          case measure => simp [intOf]; omega
      · obtain rfl : i = N := by omega
        have HL := Lib.hid (show (treL i G).length = i from trk_len _ _ _)
        replace oo := oo.base hx0.size
        replace hx0 := hx0.trans hx1
        clear hx1
        go_wp2_with fail
        refine bodyPost_ret (v := .tuple #[.slice A1 i c1, .bool true]) (by simp only [results, Try.results63]; simp [go_sem]) rfl ?_
        refine ⟨A1, c1, ?_, ?_, hx0⟩
        · rw [HL.out]
        · rw [HL.out]; exact oo

end Go.Proofs.Ytkifpligpobiaaa
