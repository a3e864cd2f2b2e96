
/- SparseLeast, the reference. -/

import Derived.Test.YtkifpligpobiaaaH17
set_option linter.unusedVariables false
set_option linter.unusedSimpArgs false

namespace Go.Proofs.Ytkifpligpobiaaa

open Go.RowKit


/-- What the reference keeps while it takes rows out by least degree. -/
def lsp (n : Nat) (B : Grf) : Nat → Grf × (Nat → Bool)
  | 0 => (B, fun _ => false)
  | t + 1 => (outS (lsp n B t).1 (lsp n B t).2 n ((lsSt n B t).next n), goneB (lsp n B t).2 ((lsSt n B t).next n))
theorem lsp_ok {n : Nat} {B : Grf} (hs : SymB n B) : ∀ t, t ≤ n → SymB n (lsp n B t).1 ∧ (∀ a, (lsSt n B t).S a = !(lsp n B t).2 a) ∧ ∀ a b, a < n → b < n → curB (lsp n B t).1 (lsp n B t).2 a b = (lsSt n B t).B a b
  | 0, _ => ⟨hs, fun a => rfl, fun a b _ _ => by unfold curB; simp [lsp, lsSt]⟩
  | t + 1, h => by
    obtain ⟨h1, h2, h3⟩ := lsp_ok hs t (by omega)
    obtain ⟨_, n1, n2⟩ := lsSt_next (B := B) (n := n) (t := t) (by omega)
    refine ⟨h1.outS _ n1, fun a => ?_, fun a b ha hb => ?_⟩
    · show ((lsSt n B t).S a && !decide (a = (lsSt n B t).next n)) = !(goneB (lsp n B t).2 ((lsSt n B t).next n) a)
      rw [h2]
      unfold goneB
      cases (lsp n B t).2 a <;> rfl
    · have hg : (lsp n B t).2 ((lsSt n B t).next n) = false := by
        have := h2 ((lsSt n B t).next n)
        rw [n2] at this
        simpa using this.symm
      exact (cur_out h1 n1 hg ha hb).trans (outB_congr h3 n1 a b ha hb)
/-- Its degrees. -/
def lsD (n : Nat) (B : Grf) (t : Nat) : Grf := fun i k => (lsp n B t).1 i k && !(lsp n B t).2 k
theorem lsD_next {n : Nat} {B : Grf} (hs : SymB n B) {t : Nat} (ht : t < n) : lowB (degB n (lsD n B t)) (lsB n (lsSt n B t).S) = some ((lsSt n B t).next n) := by
  obtain ⟨h1, h2, h3⟩ := lsp_ok hs t (by omega)
  rw [← (lsSt_next (B := B) ht).1]
  apply lowB_congr
  intro i hi
  obtain ⟨hi1, hi2⟩ := lsB_mem.1 hi
  unfold degB
  congr 1
  apply lsB_congr
  intro k hk
  rw [← h3 i k hi1 hk]
  unfold lsD curB
  rw [h2] at hi2
  have : (lsp n B t).2 i = false := by simpa using hi2
  rw [this]
  cases (lsp n B t).1 i k <;> rfl

set_option maxRecDepth 20000 in
set_option maxHeartbeats 8000000 in
theorem specSparseLeast_any (sd : Int) (A : Option Addr) (n ca : Nat) (B : Option Addr) (m cb : Nat) (V : Option Addr) (p cv : Nat) (st co : List Int) (va : List Nat) (w : World) (hr : Rds w A n (ints st)) (hq : Rds w B m (ints co)) (hv : Rds w V p (flts va)) :
    Calls Try.prog 65 #[.agg #[.int .i64 sd, .slice A n ca, .slice B m cb, .slice V p cv]] w (RetLB w (lesD sd st co va)) := by
  have HM := Lib.hid hq.ilen
  cases hs : isSp sd st co va with
  | false =>
    have hd : lesD sd st co va = ([], false) := by unfold lesD; rw [hs]; rfl
    rw [hd]
    clear hd
    go_enter Try.func65, Try.ntmps65
    go_upto_region 1 with (fail)
    obtain ⟨w0, hw0⟩ : ∃ w0, w0 = (w.alloc (.cells #[.int .i64 sd, .slice A n ca, .slice B m cb, .slice V p cv] 27)) := ⟨_, rfl⟩
    have hx0 : Ext w w0 := by subst hw0; exact (Ext.refl _).alloc _
    have ba : Blk w0 (w.heap.size) #[.int .i64 sd, .slice A n ca, .slice B m cb, .slice V p cv] 27 := by subst hw0; exact (Blk.new w _ _)
    rw [← hw0]
    clear hw0
    go_wp2_with fail
    refine (l05Is_any _ sd A n ca B m cb V p cv st co va _ (SAt.of ba (hr.below hx0) (hq.below hx0) (hv.below hx0))).mono ?_
    rintro e w1 ⟨rfl, hx⟩
    rw [hs]
    replace ba := ba.ext hx
    replace hx0 := hx0.trans hx
    clear hx
    go_wp2_with fail
    refine bodyPost_ret (v := .tuple #[.slice none 0 0, .bool false]) (by simp only [results, Try.results65]; simp [go_sem]) rfl ⟨none, 0, rfl, Own.nil _ _ _, hx0⟩
  | true =>
    have hsp := isSp_iff.1 hs
    obtain ⟨N, rfl⟩ : ∃ N : Nat, sd = N := ⟨sd.toNat, by have := hsp.s1; omega⟩
    have hn1 : 1 ≤ N := by have := hsp.s1; omega
    have hn32 : N ≤ 32 := by have := hsp.s1; omega
    have hd : lesD N st co va = (natI (lesL N (nbM (vw st co va m))), true) := by unfold lesD; rw [hs, HM.out]; rfl
    rw [hd]
    clear hd
    obtain ⟨G, hG⟩ : ∃ G, G = nbM (vw st co va m) := ⟨_, rfl⟩
    have HSY : Hid (SymB N G) := by rw [hG]; exact nbM_sym N _
    rw [← hG]
    have HG := Lib.hid hG
    have HSP := Lib.hid hsp
    clear hG hsp
    go_enter Try.func65, Try.ntmps65
    go_upto_region 1 with (fail)
    obtain ⟨w0, hw0⟩ : ∃ w0, w0 = (w.alloc (.cells #[.int .i64 N, .slice A n ca, .slice B m cb, .slice V p cv] 27)) := ⟨_, rfl⟩
    have hx0 : Ext w w0 := by subst hw0; exact (Ext.refl _).alloc _
    have ba : Blk w0 (w.heap.size) #[.int .i64 N, .slice A n ca, .slice B m cb, .slice V p cv] 27 := by subst hw0; exact (Blk.new w _ _)
    rw [← hw0]
    clear hw0
    go_wp2_with fail
    refine (l05Is_any _ N A n ca B m cb V p cv st co va _ (SAt.of ba (hr.below hx0) (hq.below hx0) (hv.below hx0))).mono ?_
    rintro e w1 ⟨rfl, hx⟩
    rw [hs]
    replace ba := ba.ext hx
    replace hx0 := hx0.trans hx
    clear hx

    have SA := SAt.of ba (hr.below hx0) (hq.below hx0) (hv.below hx0)
    have A0 := ba.cell 0 rfl
    obtain ⟨NN, hNN⟩ : ∃ NN, NN = N * N := ⟨_, rfl⟩
    have HNN := Lib.hid hNN
    have hNN1 : 1 ≤ NN := by rw [hNN]; exact Nat.mul_pos hn1 hn1
    clear hNN
    have hmk := run_make_row' (P := Try.prog) 69 4 (.bool false) 1 Try.underlying69 info_bool rfl .i64 .i64 N (by omega) (by omega)
    go_wp2_with fail
    refine (l05Beside_any _ N A n ca B m cb V p cv st co va HSP.out _ SA).mono ?_
    rw [← HG.out]
    unfold RetBo
    rw [← HNN.out]
    rintro e w2 ⟨A1, c1, rfl, o1, hx1⟩
    obtain ⟨g1, rfl, hg1⟩ := o1.head (by omega)
    have l1 := o1.lt_size g1 rfl
    have c0 := hx1.cell A0
    go_upto_region 5 with (fail)
    have xg : Ext w2 (w2.alloc (.cells (madeCells #[.bool false] N) 4)) := (Ext.refl _).alloc _
    have o2 : Own (w2.alloc (.cells (madeCells #[.bool false] N) 4)) w1.heap.size 4 (.slice (some ⟨w2.heap.size, 0, none⟩) N N) (bools (gnL N (lsp N G 0).2)) := by
      have h := (Own.made w2 4 (.bool false) N rfl (by omega)).base hx1.size
      have e : gnL N (lsp N G 0).2 = List.replicate N false := gnL_none N
      rw [e, bools_replicate]
      exact h
    obtain ⟨g2, hg2⟩ : ∃ g2, g2 = w2.heap.size := ⟨_, rfl⟩
    obtain ⟨w3, hw3⟩ : ∃ v : World, v = w2.alloc (.cells (madeCells #[.bool false] N) 4) := ⟨_, rfl⟩
    have l2 : g2 < w3.heap.size := by rw [hw3, hg2]; simp
    rw [← hw3] at xg o2
    rw [← hg2] at o2 l1
    rw [← hw3, ← hg2]
    have hne : g1 ≠ g2 := by omega
    have hwg : w1.heap.size ≤ g2 := by rw [hg2]; exact hx1.size
    have l1' : g1 < w3.heap.size := by omega
    replace o1 := o1.ext xg
    have hx := hx1.trans xg
    clear hw3 hg2 xg hmk hx1 c0 l1
    have oo := (Own.empty w3 2).base hx.size
    have xg : Ext w3 (w3.alloc (.cells #[] 2)) := (Ext.refl _).alloc _
    replace o1 := o1.ext xg
    replace o2 := o2.ext xg
    have hsz2 := xg.size
    replace hx := hx.trans xg
    clear xg
    go_wp2_with fail
    go_loopw [6] (fun u wr => ∃ t : Nat, t ≤ N ∧ ∃ A c, u = .slice A t c ∧ Own wr w1.heap.size 2 (.slice A t c) (ints (natI (lsSt N G t).out)) ∧ Own wr w1.heap.size 4 (.slice (some ⟨g1, 0, none⟩) NN c1) (bools (gb N (lsp N G t).1)) ∧ Own wr w1.heap.size 4 (.slice (some ⟨g2, 0, none⟩) N N) (bools (gnL N (lsp N G t).2)) ∧ Ext w1 wr ∧ w3.heap.size ≤ wr.heap.size) (fun u _ => N - lenV u)
    case atStart => exact ⟨0, Nat.zero_le _, _, 0, rfl, oo, o1, o2, hx, hsz2⟩
    case round =>
      rename World => wA
      clear oo o1 o2 hx hsz2
      obtain ⟨t, ht, Ao, co', rfl, oo, o1, o2, hx, hsz2⟩ := hrel
      have c0 := hx.cell A0
      have hl := oo.len
      by_cases hlt : t < N
      · have htI : (t : Int) < N := by omega
        obtain ⟨hS1, hS2⟩ := lsSt_len N G t ht
        have hnx := (lsSt_next (B := G) hlt).2.1
        obtain ⟨hp1, hp2, hp3⟩ := lsp_ok HSY.out t ht
        have hlow := lsD_next HSY.out hlt
        have hst : (lsSt N G (t + 1)).out = (lsSt N G t).out ++ [(lsSt N G t).next N] := rfl
        have hsp : lsp N G (t + 1) = (outS (lsp N G t).1 (lsp N G t).2 N ((lsSt N G t).next N), goneB (lsp N G t).2 ((lsSt N G t).next N)) := rfl
        have hgS : gnL N (lsp N G t).2 = gnL N (fun a => !(lsSt N G t).S a) := by congr 1; funext a; rw [hp2]; simp
        obtain ⟨x, hxn⟩ : ∃ x, x = (lsSt N G t).next N := ⟨_, rfl⟩
        rw [← hxn] at hnx hlow hst hsp
        obtain ⟨ss, hss⟩ : ∃ ss, ss = lsSt N G t := ⟨_, rfl⟩
        rw [← hss] at hlow hst hgS oo
        obtain ⟨D, hD⟩ : ∃ D, D = lsD N G t := ⟨_, rfl⟩
        rw [← hD] at hlow
        have HD : Hid (∀ i k, D i k = ((lsp N G t).1 i k && !(lsp N G t).2 k)) := by show ∀ i k, _; intro i k; rw [hD]; rfl
        obtain ⟨Q, hQ⟩ : ∃ Q, Q = lsp N G t := ⟨_, rfl⟩
        rw [← hQ] at hsp hgS HD o1 o2
        have HST := Lib.hid hst
        have HSPN := Lib.hid hsp
        have HGS := Lib.hid hgS
        have HLOW := Lib.hid hlow
        clear hst hsp hgS hlow hxn hss hD hQ hp1 hp2 hp3 hS1 hS2
        go_wp2_with fail
        have oD := Own.empty wA 2
        have hy : Ext wA (wA.alloc (.cells #[] 2)) := (Ext.refl _).alloc _
        go_loopw [7, 8] (fun u v wr => ∃ i : Nat, i ≤ N ∧ v = .int .i64 i ∧ ∃ A c, u = .slice A i c ∧ Own wr wA.heap.size 2 (.slice A i c) (ints (natI (dgk N D i))) ∧ Ext wA wr) (fun _ v _ => N - (intOf v).toNat)
        case atStart => exact ⟨0, Nat.zero_le _, rfl, _, 0, rfl, oD, hy⟩
        case round =>
          rename World => wB
          clear oD hy
          obtain ⟨i, hi, rfl, A1, cA, rfl, oD, hy⟩ := hrel
          have c0 := hy.cell c0
          have hlD := oD.len
          by_cases hli : i < N
          · have g1' : IntKind.i64.wrap ((i : Int) + 1) = (i : Int) + 1 := IntWalk.i64_in _ (by omega)
            go_wp2_with fail
            go_loopw [9, 10] (fun u v wr => ∃ k : Nat, k ≤ N ∧ v = .int .i64 k ∧ u = .int .i64 ((lsB k (D i)).length : Nat) ∧ wr = wB) (fun _ v _ => N - (intOf v).toNat)
            case atStart => exact ⟨0, Nat.zero_le _, rfl, rfl, rfl⟩
            case round =>
              rename World => wC
              obtain ⟨k, hk, rfl, rfl, rfl⟩ := hrel
              by_cases hlk : k < N
              · obtain ⟨i1, i2, i3, i4, i5, i6⟩ := ix32 hli hlk hn32
                rw [← HNN.out] at i4 i6
                have i7 : i * N + k < NN := by omega
                have g4 : IntKind.i64.wrap ((k : Int) + 1) = (k : Int) + 1 := IntWalk.i64_in _ (by omega)
                have hkI : (k : Int) < N := by omega
                have hd1 := ((o1.ext hy).at_ (i * N + k) i7).1
                have hd2 := ((o2.ext hy).at_ k hlk).1
                rw [bools_get (by rw [gb_length, ← HNN.out]; exact i7), gb_at _ hli hlk] at hd1
                rw [bools_get (by rw [gnL_length]; exact hlk), gnL_at _ hlk] at hd2
                have hcl := lsB_len k (D i)
                have hDk := HD.out i k
                have no : Hid (D i k = false → (lsB (k + 1) (D i)).length = (lsB k (D i)).length) := by show _ → _; intro h; rw [lsB_no h]
                have yes : Hid (D i k = true → (lsB (k + 1) (D i)).length = (lsB k (D i)).length + 1) := by show _ → _; intro h; rw [lsB_yes h]; simp
                obtain ⟨q, hq'⟩ : ∃ q, q = (lsB k (D i)).length := ⟨_, rfl⟩
                rw [← hq'] at hcl no yes
                rw [← hq']
                clear hq'
                have g5 : IntKind.i64.wrap ((q : Int) + 1) = (q : Int) + 1 := IntWalk.i64_in _ (by omega)
                cases b1 : Q.1 i k with
                | false =>
                  rw [b1] at hd1 hDk
                  have HE := Lib.hid (no.out hDk)
                  clear hDk no yes b1
                  go_wp2_with fail
                  go_roundw
                  case rel => exact ⟨k + 1, by omega, by go_num, by rw [HE.out], by first | trivial | rfl⟩
                  case measure => simp [intOf]; omega
                | true =>
                  rw [b1] at hd1 hDk
                  cases b2 : Q.2 k with
                  | true =>
                    rw [b2] at hd2 hDk
                    have HE := Lib.hid (no.out hDk)
                    clear hDk no yes b1 b2
                    go_wp2_with fail
                    go_roundw
                    case rel => exact ⟨k + 1, by omega, by go_num, by rw [HE.out], by first | trivial | rfl⟩
                    case measure => simp [intOf]; omega
                  | false =>
                    rw [b2] at hd2 hDk
                    have HE := Lib.hid (yes.out hDk)
                    clear hDk no yes b1 b2
                    go_wp2_with fail
                    go_roundw
                    case rel => exact ⟨k + 1, by omega, by go_num, by rw [HE.out]; go_num, by first | trivial | rfl⟩
                    case measure => simp [intOf]; omega
              · obtain rfl : k = N := by omega
                obtain ⟨dd, hdd⟩ : ∃ dd, dd = (lsB k (D i)).length := ⟨_, rfl⟩
                rw [← hdd]
                have HDD := Lib.hid hdd
                clear hdd
                have ho' := oD.ext ((Ext.refl wC).alloc (.cells #[.int .i64 dd] 2))
                have hsz := hy.size
                have hl := hlD
                go_wp2_with (at_builtin; go_loud (refine wpList_app1 rfl _ _ _ rfl (wC.alloc (.cells #[.int .i64 dd] 2)) wA.heap.size 2 (.int .i64 0) 8 Try.underlying22 info_i64 rfl (by decide) (.slice A1 i cA) (ints (natI (dgk k D i))) rfl wC.heap.size (.int .i64 dd) rfl (One.new _ _ _) ho' rfl (by omega) (by simp; omega) ?_); rw [hl]; intro A' c' w9 h5 h6 h7)
                go_roundw
                case rel =>
                  refine ⟨i + 1, by omega, by go_num, A', c', rfl, ?_, h6.ext (hy.alloc _) ho'⟩
                  have e : degB k D i = dd := HDD.out.symm
                  rw [dgk_next, natI_append, ints_append, e]
                  exact h5
                case measure => simp [intOf]; omega
          · obtain rfl : i = N := by omega
            have hdeg : Hid (∀ j, j < i → rd (natI (dgk i D i)) j = (degB i D j : Nat)) := by
              show ∀ j, _
              intro j hj
              rw [natI_rd (by rw [dgk_len]; exact hj)]
              simp [dgk, hj]
            have o2g := o2
            rw [HGS.out] at o2g
            go_wp2_with fail
            refine (l05Lowest_any A1 cA (some ⟨g2, 0, none⟩) i i (natI (dgk i D i)) ss.S (degB i D) hn32 _ oD.reads (o2g.ext hy).reads hdeg).mono ?_
            rw [HLOW.out]
            rintro e w5 ⟨rfl, hz⟩
            have hyz := hy.trans hz
            have oo' := oo.ext hyz
            have o1' := o1.ext hyz
            have o2' := o2.ext hyz
            have hx' := hx.trans hyz
            have hsz3 := Nat.le_trans hsz2 hyz.size
            replace c0 := hz.cell c0
            simp only [lowI]
            clear oD hy hz o2g hdeg oo o1 o2 hx hsz2 hyz
            go_wp2_with fail
            refine (l05Out_any w1.heap.size w1.heap.size g1 g2 i NN c1 i x Q.1 Q.2 hn32 HNN.out hnx hne _ (by omega) (by omega) o1' o2').mono ?_
            rintro e w6 ⟨⟨AL, cL, rfl, oL⟩, o1x, o2x, hw2⟩
            have oox := oo'.wr2 hw2 (oo'.apart o1' (by decide)).blk (oo'.apart o2' (by decide)).blk
            have hxx := hw2.ext hx' hg1 hwg
            have hsz4 := Nat.le_trans hsz3 hw2.size
            clear oL hw2 oo' o1' o2' hx' hsz3 c0
            have xg : Ext w6 (w6.alloc (.cells #[.int .i64 x] 2)) := (Ext.refl _).alloc _
            have ho' := oox.ext xg
            have o1y := o1x.ext xg
            have o2y := o2x.ext xg
            have hxy := hxx.trans xg
            have hsz5 := Nat.le_trans hsz4 xg.size
            have hsz := hxx.size
            have hl := oox.len
            clear xg oox o1x o2x
            go_wp2_with (at_builtin; go_loud (refine wpList_app1 rfl _ _ _ rfl (w6.alloc (.cells #[.int .i64 x] 2)) w1.heap.size 2 (.int .i64 0) 8 Try.underlying22 info_i64 rfl (by decide) (.slice Ao t co') (ints (natI ss.out)) rfl w6.heap.size (.int .i64 x) rfl (One.new _ _ _) ho' rfl (by omega) (by simp; omega) ?_); rw [hl]; intro A' c' w9 h5 h6 h7)
            go_roundw
            case rel =>
              refine ⟨t + 1, by omega, A', c', rfl, ?_, ?_, ?_, h6.ext hxy ho', Nat.le_trans hsz5 h6.size⟩
              · rw [HST.out, natI_append, ints_append]
                exact h5
              · rw [HSPN.out]
                exact o1y.other h6 (o1y.apart ho' (by decide)).1
              · rw [HSPN.out]
                exact o2y.other h6 (o2y.apart ho' (by decide)).1
            case measure => simp [lenV]; omega
      · obtain rfl : t = N := by omega
        have hS2 := (lsSt_len t G t ht).2
        have HL : Hid ((natI (lesL t G)).length = t) := by show _ = _; rw [natI_length]; exact hS2
        have oo2 : Own wA w1.heap.size 2 (.slice Ao t co') (ints (natI (lesL t G))) := oo
        replace oo2 := oo2.base hx0.size
        replace hx0 := hx0.trans hx
        clear o1 o2 hx hS2 oo
        go_wp2_with fail
        refine bodyPost_ret (v := .tuple #[.slice Ao t co', .bool true]) (by simp only [results, Try.results65]; simp [go_sem]) rfl ?_
        refine ⟨Ao, co', ?_, ?_, hx0⟩
        · rw [HL.out]
        · rw [HL.out]; exact oo2

end Go.Proofs.Ytkifpligpobiaaa
