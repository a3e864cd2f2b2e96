
/- SparseBreadth, the reference (printed by mkb.py). -/

import Derived.Test.YtkifpligpobiaaaBB

import Derived.Test.YtkifpligpobiaaaHL

import Derived.Test.YtkifpligpobiaaaH5
set_option linter.unusedVariables false
set_option linter.unusedSimpArgs false

namespace Go.Proofs.Ytkifpligpobiaaa

open Go.RowKit


theorem Wr.new {w w' w'' : World} {v u : Value} {e : TypeId} {vs : List Value} (h : Wr w w' v) (hw : Wr w' w'' u) (ho : Own w' w.heap.size e u vs) : Wr w w'' v :=
  ⟨hw.os.trans h.os, hw.tape.trans h.tape, hw.output.trans h.output, Nat.le_trans h.size hw.size, fun b hb h1 => (hw.block b (Nat.lt_of_lt_of_le hb h.size) (fun e => by have := (ho.row.lt b e.symm).1; omega)).trans (h.block b hb h1)⟩
theorem gnL_snoc {N x : Nat} (L : List Nat) (hx : x < N) : (gnL N fun a => !notIn L a).set x true = gnL N fun a => !notIn (L ++ [x]) a :=
  gnL_set hx (fun a ha => by show (!notIn (L ++ [x]) a) = _; rw [notIn_snoc, decide_eq_false ha]; simp) (by show (!notIn (L ++ [x]) x) = _; rw [notIn_snoc]; simp)
theorem pick_at {N r : Nat} {G : Grf} {Lc : List Nat} {p : Nat} (hp : p < (srt (degB N G) (nxt N G Lc r)).length) : lowB (degB N G) (lsB N fun k => G r k && notIn (Lc ++ (srt (degB N G) (nxt N G Lc r)).take p) k) = some ((srt (degB N G) (nxt N G Lc r)).getD p 0) := by
  have h := srt_pick N (fun k => G r k && notIn Lc k) (degB N G) p hp
  refine Eq.trans ?_ h
  congr 2
  funext k
  rw [notIn_append, ← Bool.and_assoc]
  rfl
theorem pick_end {N r : Nat} {G : Grf} {Lc : List Nat} : lowB (degB N G) (lsB N fun k => G r k && notIn (Lc ++ srt (degB N G) (nxt N G Lc r)) k) = none := by
  have h := srt_end N (fun k => G r k && notIn Lc k) (degB N G)
  refine Eq.trans ?_ h
  congr 2
  funext k
  rw [notIn_append, ← Bool.and_assoc]
  rfl
theorem brow {n : Nat} {B : Grf} {t l : Nat} {Lc : List Nat} (ht : t < n) (h : Lc = (bsSt n B t).more n B) (hl : Lc.length = l) : Lc.getD t 0 < n ∧ t < l ∧ ∀ r nl, r = Lc.getD t 0 → (srt (degB n B) (nxt n B Lc r)).length = nl → l + nl ≤ n ∧ (bsSt n B (t + 1)).L.length = l + nl ∧ Lc ++ srt (degB n B) (nxt n B Lc r) = (bsSt n B (t + 1)).L := by
  obtain ⟨h1, h2, h3⟩ := (bsSt_ok n B t (by omega)).more (B := B) (by rw [bsSt_at]; exact ht)
  rw [← h] at h1 h2 h3
  rw [bsSt_at, hl] at h3
  refine ⟨h2 _ (by rw [List.getD_eq_getElem?_getD, List.getElem?_eq_getElem (by omega)]; exact List.getElem_mem _), h3, ?_⟩
  intro r nl hr hnl
  have es : Lc ++ srt (degB n B) (nxt n B Lc r) = (bsSt n B (t + 1)).L := by rw [bs_step, ← h, ← hr]
  have el : (bsSt n B (t + 1)).L.length = l + nl := by rw [← es, List.length_append, hl, hnl]
  have hb := bs_len_le n B (t + 1) (by omega)
  rw [el] at hb
  exact ⟨hb.2, el, es⟩
theorem srt_lt {N r : Nat} {G : Grf} {Lc : List Nat} : ∀ y ∈ srt (degB N G) (nxt N G Lc r), y < N := fun y hy => (lsB_mem.1 ((srt_perm _ _).mem_iff.1 hy)).1
theorem breL_at {N : Nat} {G : Grf} {i j : Nat} (h : i + j + 1 = N) : (bsL N G).getD i 0 = (breL N G).getD j 0 := by
  unfold breL
  rw [List.getD_eq_getElem?_getD, List.getD_eq_getElem?_getD, List.getElem?_reverse (by rw [bsL_len]; omega), bsL_len]
  congr 2
  omega

set_option maxRecDepth 20000 in
set_option maxHeartbeats 16000000 in
theorem specSparseBreadth_any (sd : Int) (A : Option Addr) (n ca : Nat) (B : Option Addr) (m cb : Nat) (V : Option Addr) (p cv : Nat) (st co : List Int) (va : List Nat) (w : World) (hr : Rds w A n (ints st)) (hq : Rds w B m (ints co)) (hv : Rds w V p (flts va)) :
    Calls Try.prog 34 #[.agg #[.int .i64 sd, .slice A n ca, .slice B m cb, .slice V p cv]] w (RetLB w (breD sd st co va)) := by
  have HM := Lib.hid hq.ilen
  cases hs : isSp sd st co va with
  | false =>
    have hd : breD sd st co va = ([], false) := by unfold breD; rw [hs]; rfl
    rw [hd]
    clear hd
    go_enter Try.func34, Try.ntmps34
    go_upto_region 1 with (fail)
    obtain ⟨w0, hw0⟩ : ∃ w0, w0 = (w.alloc (.cells #[.int .i64 sd, .slice A n ca, .slice B m cb, .slice V p cv] 27)) := ⟨_, rfl⟩
    have hx0 : Ext w w0 := by subst hw0; exact (Ext.refl _).alloc _
    have ba : Blk w0 (w.heap.size) #[.int .i64 sd, .slice A n ca, .slice B m cb, .slice V p cv] 27 := by subst hw0; exact (Blk.new w _ _)
    rw [← hw0]
    clear hw0
    go_wp2_with fail
    refine (l05Is_any _ sd A n ca B m cb V p cv st co va _ (SAt.of ba (hr.below hx0) (hq.below hx0) (hv.below hx0))).mono ?_
    rintro e w1 ⟨rfl, hx⟩
    rw [hs]
    replace ba := ba.ext hx
    replace hx0 := hx0.trans hx
    clear hx
    go_wp2_with fail
    refine bodyPost_ret (v := .tuple #[.slice none 0 0, .bool false]) (by simp only [results, Try.results34]; simp [go_sem]) rfl ⟨none, 0, rfl, Own.nil _ _ _, hx0⟩
  | true =>
    have hsp := isSp_iff.1 hs
    obtain ⟨N, rfl⟩ : ∃ N : Nat, sd = N := ⟨sd.toNat, by have := hsp.s1; omega⟩
    have hn1 : 1 ≤ N := by have := hsp.s1; omega
    have hn32 : N ≤ 32 := by have := hsp.s1; omega
    have hd : breD N st co va = (natI (breL N (nbM (vw st co va m))), true) := by unfold breD; rw [hs, HM.out]; rfl
    rw [hd]
    clear hd
    obtain ⟨G, hG⟩ : ∃ G, G = nbM (vw st co va m) := ⟨_, rfl⟩
    rw [← hG]
    have HG := Lib.hid hG
    have HSP := Lib.hid hsp
    clear hG hsp
    go_enter Try.func34, Try.ntmps34
    go_upto_region 1 with (fail)
    obtain ⟨w0, hw0⟩ : ∃ w0, w0 = (w.alloc (.cells #[.int .i64 N, .slice A n ca, .slice B m cb, .slice V p cv] 27)) := ⟨_, rfl⟩
    have hx0 : Ext w w0 := by subst hw0; exact (Ext.refl _).alloc _
    have ba : Blk w0 (w.heap.size) #[.int .i64 N, .slice A n ca, .slice B m cb, .slice V p cv] 27 := by subst hw0; exact (Blk.new w _ _)
    rw [← hw0]
    clear hw0
    go_wp2_with fail
    refine (l05Is_any _ N A n ca B m cb V p cv st co va _ (SAt.of ba (hr.below hx0) (hq.below hx0) (hv.below hx0))).mono ?_
    rintro e w1 ⟨rfl, hx⟩
    rw [hs]
    replace ba := ba.ext hx
    replace hx0 := hx0.trans hx
    clear hx
    have SA := SAt.of ba (hr.below hx0) (hq.below hx0) (hv.below hx0)
    have A0 := ba.cell 0 rfl
    obtain ⟨NN, hNN⟩ : ∃ NN, NN = N * N := ⟨_, rfl⟩
    have HNN := Lib.hid hNN
    have hNN1 : 1 ≤ NN := by rw [hNN]; exact Nat.mul_pos hn1 hn1
    clear hNN
    go_wp2_with fail
    refine (l05Beside_any _ N A n ca B m cb V p cv st co va HSP.out _ SA).mono ?_
    rw [← HG.out]
    unfold RetBo
    rw [← HNN.out]
    rintro e w2 ⟨A1, c1, rfl, o1, hx1⟩
    obtain ⟨g1, rfl, hg1⟩ := o1.head (by omega)
    have c0 := hx1.cell A0
    go_wp2_with fail
    refine (l05Degrees_any (some ⟨g1, 0, none⟩) NN c1 N G hn32 HNN.out _ o1.reads).mono ?_
    rintro e w3 ⟨AD, cD, rfl, oD, hx2⟩
    have hlD : (natI (degL N G)).length = N := by rw [natI_length]; exact dgk_len _ _ _
    rw [hlD] at oD ⊢
    clear hlD
    obtain ⟨gd, rfl, hgd⟩ := oD.head (by omega)
    replace o1 := o1.ext hx2
    replace oD := oD.base hx1.size
    have hx3 := hx1.trans hx2
    replace c0 := hx2.cell c0
    have lg1 := o1.lt_size g1 rfl
    have hmk := run_make_row' (P := Try.prog) 69 4 (.bool false) 1 Try.underlying69 info_bool rfl .i64 .i64 N (by omega) (by omega)
    go_upto_region 6 with (fail)
    have xg : Ext w3 (w3.alloc (.cells (madeCells #[.bool false] N) 4)) := (Ext.refl _).alloc _
    have o2 : Own (w3.alloc (.cells (madeCells #[.bool false] N) 4)) w1.heap.size 4 (.slice (some ⟨w3.heap.size, 0, none⟩) N N) (bools (gnL N fun a => !notIn [] a)) := by
      have h := (Own.made w3 4 (.bool false) N rfl (by omega)).base hx3.size
      have e : (gnL N fun a => !notIn [] a) = List.replicate N false := gnL_none N
      rw [e, bools_replicate]
      exact h
    obtain ⟨g2, hg2⟩ : ∃ g2, g2 = w3.heap.size := ⟨_, rfl⟩
    obtain ⟨w4, hw4⟩ : ∃ v : World, v = w3.alloc (.cells (madeCells #[.bool false] N) 4) := ⟨_, rfl⟩
    rw [← hw4] at xg o2
    rw [← hg2] at o2 lg1
    rw [← hw4, ← hg2]
    have hne : g1 ≠ g2 := by omega
    replace o1 := o1.ext xg
    replace oD := oD.ext xg
    have hx := hx3.trans xg
    have bb := ba.ext hx
    clear hw4 hg2 xg hmk hx1 hx2 hx3 c0 lg1 SA A0 ba hgd hg1
    have HNE := Lib.hid hne
    clear hne
    have oo : Own (w4.alloc (.cells #[] 2)) w4.heap.size 2 (.slice (some ⟨w4.heap.size, 0, none⟩) 0 0) (ints (natI (bsSt N G 0).L)) := Own.empty w4 2
    have xg : Ext w4 (w4.alloc (.cells #[] 2)) := (Ext.refl _).alloc _
    have oi : Own (w4.alloc (.cells #[] 2)) w1.heap.size 4 (.slice (some ⟨g2, 0, none⟩) N N) (bools (gnL N fun a => !notIn (bsSt N G 0).L a)) := o2.ext xg
    have W : Wr w4 (w4.alloc (.cells #[] 2)) (.slice (some ⟨g2, 0, none⟩) N N) := Wr.of_ext xg _
    have hdeg : Hid (∀ j, j < N → rd (natI (degL N G)) j = (degB N G j : Nat)) := by
      show ∀ j, _
      intro j hj
      rw [natI_rd (by unfold degL; rw [dgk_len]; exact hj)]
      simp [degL, dgk, hj]
    clear xg
    go_wp2_with fail
    go_loopg [7, 8] N (fun k u v wr => ∃ (t l : Nat) (A : Option Addr) (c : Nat), t + k = N ∧ v = .int .i64 t ∧ u = .slice A l c ∧ Hid ((bsSt N G t).L.length = l) ∧ Own wr w4.heap.size 2 (.slice A l c) (ints (natI (bsSt N G t).L)) ∧ Own wr w1.heap.size 4 (.slice (some ⟨g2, 0, none⟩) N N) (bools (gnL N fun a => !notIn (bsSt N G t).L a)) ∧ Wr w4 wr (.slice (some ⟨g2, 0, none⟩) N N))
    case atStart => exact ⟨0, 0, _, 0, by omega, rfl, rfl, (show (bsSt N G 0).L.length = 0 from rfl), oo, oi, W⟩
    case round =>
      rename World => wA
      clear oo oi W
      obtain ⟨t, l, A3, c3, hk, rfl, rfl, HLN, oo, oi, W⟩ := hrel
      have htN : t ≤ N := by omega
      obtain ⟨hbl1, hbl2⟩ := bs_len_le N G t htN
      rw [HLN.out] at hbl1 hbl2
      have c0 : wA.cell? ⟨w.heap.size, 0, none⟩ = some (.int .i64 N) := (bb.wr W o2 (by decide)).cell 0 rfl
      by_cases hlt : l < N
      · have htlt : t < N := by omega
        have hltI : (l : Int) < N := by omega
        by_cases hte : t = l
        · subst hte
          obtain ⟨x, hlow, hxN, hxn⟩ := bs_low (B := G) (bsSt_ok N G t htN) (by rw [HLN.out]; exact hlt)
          have HLc : Hid ((bsSt N G t).L ++ [x] = (bsSt N G t).more N G) := by show _ = _; rw [bs_more_eq (by rw [bsSt_at]; exact HLN.out.symm), hlow]; rfl
          have hlc : ((bsSt N G t).L ++ [x]).length = t + 1 := by rw [List.length_append, HLN.out]; rfl
          obtain ⟨L, hL⟩ : ∃ L, L = (bsSt N G t).L := ⟨_, rfl⟩
          rw [← hL] at hlow hxn oo oi HLc hlc
          have HLOW := Lib.hid hlow
          have HLL := Lib.hid hlc
          clear hL hlow hxn hlc HLN
          go_wp2_with fail
          refine (l05Lowest_any (some ⟨gd, 0, none⟩) cD (some ⟨g2, 0, none⟩) N N (natI (degL N G)) (notIn L) (degB N G) hn32 _ (oD.other W (oD.apart o2 (by decide)).1).reads oi.reads hdeg).mono ?_
          rw [HLOW.out]
          rintro e w5 ⟨rfl, hz⟩
          simp only [lowI]
          replace oo := oo.ext hz
          replace oi := oi.ext hz
          replace W := W.trans (Wr.of_ext hz _)
          clear hz c0 HLOW
          have hxI : (x : Int) < N := by omega
          obtain ⟨hc, hf⟩ := oi.at_ x hxN
          rw [bools_get (by rw [gnL_length]; exact hxN)] at hc
          have hsb := store_bool Try.prog true hc hf
          obtain ⟨s1, s2⟩ := oi.stored x (.bool true)
          rw [← bools_set, gnL_snoc L hxN] at s1
          have oo2 := oo.other s2 (oo.apart oi (by decide)).1
          have W2 := W.trans s2
          go_upto_region 12 with (fail)
          obtain ⟨w6, hw6⟩ : ∃ v : World, v = w5.setCell ⟨g2, x, none⟩ (.bool true) := ⟨_, rfl⟩
          rw [← hw6] at s1 oo2 W2
          rw [← hw6]
          clear hw6 s2 hsb hc hf oo oi W
          have xg : Ext w6 (w6.alloc (.cells #[.int .i64 x] 2)) := (Ext.refl _).alloc _
          have ho' := oo2.ext xg
          have hl := oo2.len
          have hsz := W2.size
          go_upto_region 13 with (at_builtin; go_loud (refine wpList_app1 rfl _ _ _ rfl (w6.alloc (.cells #[.int .i64 x] 2)) w4.heap.size 2 (.int .i64 0) 8 Try.underlying22 info_i64 rfl (by decide) (.slice A3 (t) c3) (ints (natI L)) rfl w6.heap.size (.int .i64 x) rfl (One.new _ _ _) ho' rfl (by omega) (by simp; omega) ?_); rw [hl]; intro A' c' wR h5 h6 h7)
          have oo : Own wR w4.heap.size 2 (.slice A' (t + 1) c') (ints (natI (L ++ [x]))) := by rw [natI_append, ints_append]; exact h5
          have oi := (s1.ext xg).other h6 ((s1.ext xg).apart ho' (by decide)).1
          have W := (W2.trans (Wr.of_ext xg _)).new h6 ho'
          obtain ⟨Lc, hLc⟩ : ∃ Lc, Lc = L ++ [x] := ⟨_, rfl⟩
          rw [← hLc] at oo oi HLc HLL
          obtain ⟨lc, hlc⟩ : ∃ lc, lc = t + 1 := ⟨_, rfl⟩
          rw [← hlc] at oo HLL ⊢
          clear hLc hlc h5 h6 h7 xg ho' hl hsz s1 oo2 W2
          obtain ⟨hrow, htl, hnext⟩ := brow htlt HLc.out HLL.out
          obtain ⟨gl, rfl, _⟩ := oo.head (by omega)
          obtain ⟨hd1, _⟩ := oo.at_ t htl
          rw [ints_nat_get (by rw [HLL.out]; exact htl)] at hd1
          obtain ⟨r, hr'⟩ : ∃ r, r = Lc.getD t 0 := ⟨_, rfl⟩
          rw [← hr'] at hrow hd1
          obtain ⟨nl, hnl⟩ : ∃ nl, (srt (degB N G) (nxt N G Lc r)).length = nl := ⟨_, rfl⟩
          obtain ⟨hlnN, hlen2, hes⟩ := hnext r nl hr' hnl
          have hPK := fun p (hp : p < nl) => pick_at (N := N) (r := r) (G := G) (Lc := Lc) (p := p) (by rw [hnl]; exact hp)
          have hPE := pick_end (N := N) (r := r) (G := G) (Lc := Lc)
          have hSN := srt_lt (N := N) (r := r) (G := G) (Lc := Lc)
          obtain ⟨S, hS⟩ : ∃ S, S = srt (degB N G) (nxt N G Lc r) := ⟨_, rfl⟩
          rw [← hS] at hnl hes hPE hSN
          have HPK : Hid (∀ p, p < nl → lowB (degB N G) (lsB N fun k => G r k && notIn (Lc ++ S.take p) k) = some (S.getD p 0)) := by show ∀ p, _; intro p hp; rw [hS]; exact hPK p hp
          have HPE := Lib.hid hPE
          have HSN := Lib.hid hSN
          have HNL := Lib.hid hnl
          have HLEN := Lib.hid hlen2
          have HES := Lib.hid hes
          have hrI : (r : Int) < N := by omega
          have htI : (t : Int) < lc := by omega
          clear hr' hnl hnext hS hPK hPE hSN hlen2 hes HLL HLc
          have gt1 : IntKind.i64.wrap ((t : Int) + 1) = (t : Int) + 1 := IntWalk.i64_in _ (by omega)
          have oo0 : Own wR w4.heap.size 2 (.slice (some ⟨gl, 0, none⟩) (lc + 0) c') (ints (natI (Lc ++ S.take 0))) := by rw [List.take_zero, List.append_nil]; exact oo
          have oi0 : Own wR w1.heap.size 4 (.slice (some ⟨g2, 0, none⟩) N N) (bools (gnL N fun a => !notIn (Lc ++ S.take 0) a)) := by rw [List.take_zero, List.append_nil]; exact oi
          go_wp2_with fail
          clear hd1 oo oi
          go_loopg [7] nl (fun k u wr => ∃ (p : Nat) (A : Option Addr) (c : Nat), p + k = nl ∧ u = .slice A (lc + p) c ∧ Own wr w4.heap.size 2 (.slice A (lc + p) c) (ints (natI (Lc ++ S.take p))) ∧ Own wr w1.heap.size 4 (.slice (some ⟨g2, 0, none⟩) N N) (bools (gnL N fun a => !notIn (Lc ++ S.take p) a)) ∧ Wr w4 wr (.slice (some ⟨g2, 0, none⟩) N N))
          case atStart => exact ⟨0, _, _, by omega, rfl, oo0, oi0, W⟩
          case round =>
            rename World => wB
            clear oo0 oi0 W
            obtain ⟨p, A4, c4, hpk, rfl, oo, oi, W⟩ := hrel
            have hpl : p ≤ nl := by omega
            have c0 : wB.cell? ⟨w.heap.size, 0, none⟩ = some (.int .i64 N) := (bb.wr W o2 (by decide)).cell 0 rfl
            have o1B := o1.other W (.inr (by show some g1 ≠ some g2; simpa using HNE.out))
            have oDB := oD.other W (oD.apart o2 (by decide)).1
            have hPK := HPK.out p
            have hPE : ¬ p < nl → lowB (degB N G) (lsB N fun k => G r k && notIn (Lc ++ S.take p) k) = none := by
              intro h
              have e : S.take p = S := List.take_of_length_le (by rw [HNL.out]; omega)
              rw [e]
              exact HPE.out
            have hTK : p < nl → S.take (p + 1) = S.take p ++ [S.getD p 0] := fun h => takeS_next (by rw [HNL.out]; exact h)
            have hES : ¬ p < nl → Lc ++ S.take p = (bsSt N G (t + 1)).L := by
              intro h
              have e : S.take p = S := List.take_of_length_le (by rw [HNL.out]; omega)
              rw [e]
              exact HES.out
            have hAP : p < nl → Lc ++ S.take (p + 1) = (Lc ++ S.take p) ++ [S.getD p 0] := fun h => by rw [hTK h, List.append_assoc]
            have hyN : p < nl → S.getD p 0 < N := fun h => HSN.out _ (by rw [List.getD_eq_getElem?_getD, List.getElem?_eq_getElem (by rw [HNL.out]; exact h)]; exact List.getElem_mem _)
            obtain ⟨LP, hLP⟩ : ∃ LP, LP = Lc ++ S.take p := ⟨_, rfl⟩
            rw [← hLP] at oo oi hPK hPE hES hAP
            obtain ⟨y, hy'⟩ : ∃ y, y = S.getD p 0 := ⟨_, rfl⟩
            rw [← hy'] at hPK hAP hyN
            obtain ⟨f, hff⟩ : ∃ f : Nat → Bool, f = fun k => G r k && notIn LP k := ⟨_, rfl⟩
            have HF : Hid (∀ k, f k = (G r k && notIn LP k)) := by show ∀ k, _; intro k; rw [hff]
            rw [← hff] at hPK hPE
            have HPK1 := Lib.hid hPK
            have HPE1 := Lib.hid hPE
            have HES1 := Lib.hid hES
            have HAP := Lib.hid hAP
            have HYN := Lib.hid hyN
            clear hLP hy' hff hPK hPE hTK hES hAP hyN
            go_wp2_with fail
            go_loopw [11, 12] (fun u v wr => ∃ k : Nat, k ≤ N ∧ v = .int .i64 k ∧ u = .int .i64 (lowI (lowB (degB N G) (lsB k f))) ∧ Ext wB wr) (fun _ v _ => N - (intOf v).toNat)
            case atStart => exact ⟨0, Nat.zero_le _, rfl, rfl, Ext.refl _⟩
            case round =>
              rename World => wC
              obtain ⟨k, hkN, rfl, rfl, hy⟩ := hrel
              replace c0 := hy.cell c0
              by_cases hlk : k < N
              · obtain ⟨i1, i2, i3, i4, i5, i6⟩ := ix32 hrow hlk hn32
                rw [← HNN.out] at i4 i6
                have i7 : r * N + k < NN := by omega
                have g4 : IntKind.i64.wrap ((k : Int) + 1) = (k : Int) + 1 := IntWalk.i64_in _ (by omega)
                have hkI : (k : Int) < N := by omega
                have hd1 := ((o1B.ext hy).at_ (r * N + k) i7).1
                have hd2 := ((oi.ext hy).at_ k hlk).1
                have hd3 := ((oDB.ext hy).at_ k hlk).1
                rw [bools_get (by rw [gb_length, ← HNN.out]; exact i7), gb_at _ hrow hlk] at hd1
                rw [bools_get (by rw [gnL_length]; exact hlk), gnL_at _ hlk] at hd2
                rw [ints_nat_get (by unfold degL; rw [dgk_len]; exact hlk), show (degL N G).getD k 0 = degB N G k by simp [degL, dgk, hlk]] at hd3
                have hFk := HF.out k
                have hmem : ∀ m, lowB (degB N G) (lsB k f) = some m → m < k := by
                  intro m hm
                  rcases lowB_spec (deg := degB N G) (lsB_sorted k f) with ⟨_, h⟩ | ⟨r', h, hr', _⟩
                  · rw [hm] at h; cases h
                  · rw [hm] at h
                    obtain rfl := Option.some.inj h
                    exact (lsB_mem.1 hr').1
                cases b1 : G r k with
                | false =>
                  rw [b1] at hd1 hFk
                  have HE := Lib.hid (lsB_no (f := f) hFk)
                  obtain ⟨z, hz⟩ : ∃ z, z = lowI (lowB (degB N G) (lsB k f)) := ⟨_, rfl⟩
                  rw [← HE.out] at hz
                  rw [← HE.out, ← hz]
                  have HZ := Lib.hid hz
                  clear hz hFk hmem b1 hd2 hd3
                  go_wp2_with fail
                  refine wp_region_T (cs := []) [0, 1, 2, 3, 4, 5, 6, 7, 8, 9, 10, 11, 12, 13, 14, 15, 16, 17, 18, 19, 20, 21, 22, 23, 24, 25, 26, 27, 28, 29, 30] [] [] [] (fun _ _ => False) (fun _ _ _ => True) (by kernel_rfl) (by kernel_rfl) (fun _ _ _ _ _ _ => trivial) ?_
                  refine' wpT_det (o := ⟨some 57, Op.move (Operand.tmp 4), 69, "l05_sparse.go:279", #[], none⟩) rfl (by rfl) (by rfl) (fun w' hw' => ?_) ?_; rotate_left
                  · go_simp <;> first | rfl | exact ⟨rfl, rfl⟩
                  simp only [Act.put, List.setIfInBounds_toArray, List.set_cons_zero, List.set_cons_succ]
                  refine' wpT_det (o := ⟨some 58, Op.move (Operand.tmp 10), 2, "l05_sparse.go:279", #[], none⟩) rfl (by rfl) (by rfl) (fun w' hw' => ?_) ?_; rotate_left
                  · go_simp <;> first | rfl | exact ⟨rfl, rfl⟩
                  simp only [Act.put, List.setIfInBounds_toArray, List.set_cons_zero, List.set_cons_succ]
                  refine' wpT_det (o := ⟨some 59, Op.fieldAddr 27 (Operand.tmp 1) 0, 0, "l05_sparse.go:279", #[], none⟩) rfl (by rfl) (by rfl) (fun w' hw' => ?_) ?_; rotate_left
                  · go_simp <;> first | rfl | exact ⟨rfl, rfl⟩
                  simp only [Act.put, List.setIfInBounds_toArray, List.set_cons_zero, List.set_cons_succ]
                  refine' wpT_det (o := ⟨some 60, Op.load 2 (Operand.tmp 59), 2, "l05_sparse.go:279", #[{ on := 2, ground := Ground.data }], none⟩) rfl (by rfl) (by rfl) (fun w' hw' => ?_) ?_; rotate_left
                  · have c0_ := Ext.cell hw' c0; have hd1_ := Ext.cell hw' hd1; go_simp <;> first | rfl | exact ⟨rfl, rfl⟩
                  simp only [Act.put, List.setIfInBounds_toArray, List.set_cons_zero, List.set_cons_succ]
                  refine' wpT_det (o := ⟨some 61, Op.binOp BinOp.mul 2 (Operand.tmp 58) (Operand.tmp 60) 2, 2, "l05_sparse.go:279", #[{ on := 1, ground := Ground.data }, { on := 3, ground := Ground.data }], none⟩) rfl (by rfl) (by rfl) (fun w' hw' => ?_) ?_; rotate_left
                  · go_simp <;> first | rfl | exact ⟨rfl, rfl⟩
                  simp only [Act.put, List.setIfInBounds_toArray, List.set_cons_zero, List.set_cons_succ]
                  refine' wpT_det (o := ⟨some 62, Op.move (Operand.tmp 12), 2, "l05_sparse.go:279", #[], none⟩) rfl (by rfl) (by rfl) (fun w' hw' => ?_) ?_; rotate_left
                  · go_simp <;> first | rfl | exact ⟨rfl, rfl⟩
                  simp only [Act.put, List.setIfInBounds_toArray, List.set_cons_zero, List.set_cons_succ]
                  refine' wpT_det (o := ⟨some 63, Op.binOp BinOp.add 2 (Operand.tmp 61) (Operand.tmp 62) 2, 2, "l05_sparse.go:279", #[{ on := 4, ground := Ground.data }, { on := 5, ground := Ground.data }], none⟩) rfl (by rfl) (by rfl) (fun w' hw' => ?_) ?_; rotate_left
                  · go_simp <;> first | rfl | exact ⟨rfl, rfl⟩
                  simp only [Act.put, List.setIfInBounds_toArray, List.set_cons_zero, List.set_cons_succ]
                  refine' wpT_det (o := ⟨some 64, Op.indexAddr 69 (Operand.tmp 57) (Operand.tmp 63), 0, "l05_sparse.go:279", #[{ on := 0, ground := Ground.data }, { on := 6, ground := Ground.data }], none⟩) rfl (by rfl) (by rfl) (fun w' hw' => ?_) ?_; rotate_left
                  · go_simp <;> first | rfl | exact ⟨rfl, rfl⟩
                  simp only [Act.put, List.setIfInBounds_toArray, List.set_cons_zero, List.set_cons_succ]
                  refine' wpT_det (o := ⟨some 65, Op.load 4 (Operand.tmp 64), 4, "l05_sparse.go:279", #[{ on := 7, ground := Ground.data }], none⟩) rfl (by rfl) (by rfl) (fun w' hw' => ?_) ?_; rotate_left
                  · have c0_ := Ext.cell hw' c0; have hd1_ := Ext.cell hw' hd1; go_simp <;> first | rfl | exact ⟨rfl, rfl⟩
                  simp only [Act.put, List.setIfInBounds_toArray, List.set_cons_zero, List.set_cons_succ]
                  refine' wpT_det (o := ⟨some 66, Op.move (Operand.tmp 65), 4, "l05_sparse.go:279", #[{ on := 8, ground := Ground.data }], none⟩) rfl (by rfl) (by rfl) (fun w' hw' => ?_) ?_; rotate_left
                  · go_simp <;> first | rfl | exact ⟨rfl, rfl⟩
                  simp only [Act.put, List.setIfInBounds_toArray, List.set_cons_zero, List.set_cons_succ]
                  refine wpT_skip (o := ⟨some 67, Op.move (Operand.tmp 6), 69, "l05_sparse.go:279", #[{ on := 9, ground := Ground.guard }], some (9, true)⟩) rfl (by rfl) ?_
                  simp only [Act.put, List.setIfInBounds_toArray, List.set_cons_zero, List.set_cons_succ]
                  refine wpT_skip (o := ⟨some 68, Op.move (Operand.tmp 12), 2, "l05_sparse.go:279", #[{ on := 9, ground := Ground.guard }], some (9, true)⟩) rfl (by rfl) ?_
                  simp only [Act.put, List.setIfInBounds_toArray, List.set_cons_zero, List.set_cons_succ]
                  refine wpT_skip (o := ⟨some 69, Op.indexAddr 69 (Operand.tmp 67) (Operand.tmp 68), 0, "l05_sparse.go:279", #[{ on := 10, ground := Ground.data }, { on := 11, ground := Ground.data }, { on := 9, ground := Ground.guard }], some (9, true)⟩) rfl (by rfl) ?_
                  simp only [Act.put, List.setIfInBounds_toArray, List.set_cons_zero, List.set_cons_succ]
                  refine wpT_skip (o := ⟨some 70, Op.load 4 (Operand.tmp 69), 4, "l05_sparse.go:279", #[{ on := 12, ground := Ground.data }, { on := 9, ground := Ground.guard }], some (9, true)⟩) rfl (by rfl) ?_
                  simp only [Act.put, List.setIfInBounds_toArray, List.set_cons_zero, List.set_cons_succ]
                  refine wpT_skip (o := ⟨some 71, Op.unOp UnOp.not 4 (Operand.tmp 70), 4, "l05_sparse.go:279", #[{ on := 13, ground := Ground.data }, { on := 9, ground := Ground.guard }], some (9, true)⟩) rfl (by rfl) ?_
                  simp only [Act.put, List.setIfInBounds_toArray, List.set_cons_zero, List.set_cons_succ]
                  refine' wpT_det (o := ⟨some 72, Op.pick (Operand.tmp 66) (Operand.tmp 71) (Operand.const (Value.bool false)), 4, "l05_sparse.go:279", #[{ on := 9, ground := Ground.data }, { on := 14, ground := Ground.data }], none⟩) rfl (by rfl) (by rfl) (fun w' hw' => ?_) ?_; rotate_left
                  · go_simp <;> first | rfl | exact ⟨rfl, rfl⟩
                  simp only [Act.put, List.setIfInBounds_toArray, List.set_cons_zero, List.set_cons_succ]
                  refine' wpT_det (o := ⟨some 73, Op.move (Operand.tmp 72), 4, "l05_sparse.go:279", #[{ on := 15, ground := Ground.data }, { on := 9, ground := Ground.chain }], none⟩) rfl (by rfl) (by rfl) (fun w' hw' => ?_) ?_; rotate_left
                  · go_simp <;> first | rfl | exact ⟨rfl, rfl⟩
                  simp only [Act.put, List.setIfInBounds_toArray, List.set_cons_zero, List.set_cons_succ]
                  refine wpT_skip (o := ⟨some 74, Op.move (Operand.tmp 11), 2, "l05_sparse.go:279", #[{ on := 16, ground := Ground.guard }], some (16, true)⟩) rfl (by rfl) ?_
                  simp only [Act.put, List.setIfInBounds_toArray, List.set_cons_zero, List.set_cons_succ]
                  refine wpT_skip (o := ⟨some 75, Op.binOp BinOp.lss 2 (Operand.tmp 74) (Operand.const (Value.int IntKind.i64 0)) 2, 4, "l05_sparse.go:279", #[{ on := 17, ground := Ground.data }, { on := 16, ground := Ground.guard }], some (16, true)⟩) rfl (by rfl) ?_
                  simp only [Act.put, List.setIfInBounds_toArray, List.set_cons_zero, List.set_cons_succ]
                  refine wpT_skip (o := ⟨some 76, Op.move (Operand.tmp 75), 4, "l05_sparse.go:279", #[{ on := 18, ground := Ground.data }, { on := 16, ground := Ground.chain }, { on := 16, ground := Ground.guard }], some (16, true)⟩) rfl (by rfl) ?_
                  simp only [Act.put, List.setIfInBounds_toArray, List.set_cons_zero, List.set_cons_succ]
                  refine wpT_skip (o := ⟨some 77, Op.move (Operand.tmp 5), 22, "l05_sparse.go:279", #[{ on := 19, ground := Ground.guard }], some (19, false)⟩) rfl (by rfl) ?_
                  simp only [Act.put, List.setIfInBounds_toArray, List.set_cons_zero, List.set_cons_succ]
                  refine wpT_skip (o := ⟨some 78, Op.move (Operand.tmp 12), 2, "l05_sparse.go:279", #[{ on := 19, ground := Ground.guard }], some (19, false)⟩) rfl (by rfl) ?_
                  simp only [Act.put, List.setIfInBounds_toArray, List.set_cons_zero, List.set_cons_succ]
                  refine wpT_skip (o := ⟨some 79, Op.indexAddr 22 (Operand.tmp 77) (Operand.tmp 78), 0, "l05_sparse.go:279", #[{ on := 20, ground := Ground.data }, { on := 21, ground := Ground.data }, { on := 19, ground := Ground.guard }], some (19, false)⟩) rfl (by rfl) ?_
                  simp only [Act.put, List.setIfInBounds_toArray, List.set_cons_zero, List.set_cons_succ]
                  refine wpT_skip (o := ⟨some 80, Op.load 2 (Operand.tmp 79), 2, "l05_sparse.go:279", #[{ on := 22, ground := Ground.data }, { on := 19, ground := Ground.guard }], some (19, false)⟩) rfl (by rfl) ?_
                  simp only [Act.put, List.setIfInBounds_toArray, List.set_cons_zero, List.set_cons_succ]
                  refine wpT_skip (o := ⟨some 81, Op.move (Operand.tmp 5), 22, "l05_sparse.go:279", #[{ on := 19, ground := Ground.guard }], some (19, false)⟩) rfl (by rfl) ?_
                  simp only [Act.put, List.setIfInBounds_toArray, List.set_cons_zero, List.set_cons_succ]
                  refine wpT_skip (o := ⟨some 82, Op.move (Operand.tmp 11), 2, "l05_sparse.go:279", #[{ on := 19, ground := Ground.guard }], some (19, false)⟩) rfl (by rfl) ?_
                  simp only [Act.put, List.setIfInBounds_toArray, List.set_cons_zero, List.set_cons_succ]
                  refine wpT_skip (o := ⟨some 83, Op.indexAddr 22 (Operand.tmp 81) (Operand.tmp 82), 0, "l05_sparse.go:279", #[{ on := 24, ground := Ground.data }, { on := 25, ground := Ground.data }, { on := 19, ground := Ground.guard }], some (19, false)⟩) rfl (by rfl) ?_
                  simp only [Act.put, List.setIfInBounds_toArray, List.set_cons_zero, List.set_cons_succ]
                  refine wpT_skip (o := ⟨some 84, Op.load 2 (Operand.tmp 83), 2, "l05_sparse.go:279", #[{ on := 26, ground := Ground.data }, { on := 19, ground := Ground.guard }], some (19, false)⟩) rfl (by rfl) ?_
                  simp only [Act.put, List.setIfInBounds_toArray, List.set_cons_zero, List.set_cons_succ]
                  refine wpT_skip (o := ⟨some 85, Op.binOp BinOp.lss 2 (Operand.tmp 80) (Operand.tmp 84) 2, 4, "l05_sparse.go:279", #[{ on := 23, ground := Ground.data }, { on := 27, ground := Ground.data }, { on := 19, ground := Ground.guard }], some (19, false)⟩) rfl (by rfl) ?_
                  simp only [Act.put, List.setIfInBounds_toArray, List.set_cons_zero, List.set_cons_succ]
                  refine wpT_skip (o := ⟨some 86, Op.pick (Operand.tmp 76) (Operand.const (Value.bool true)) (Operand.tmp 85), 4, "l05_sparse.go:279", #[{ on := 19, ground := Ground.data }, { on := 28, ground := Ground.data }, { on := 16, ground := Ground.guard }], some (16, true)⟩) rfl (by rfl) ?_
                  simp only [Act.put, List.setIfInBounds_toArray, List.set_cons_zero, List.set_cons_succ]
                  refine' wpT_det (o := ⟨some 87, Op.pick (Operand.tmp 73) (Operand.tmp 86) (Operand.const (Value.bool false)), 4, "l05_sparse.go:279", #[{ on := 16, ground := Ground.data }, { on := 29, ground := Ground.data }], none⟩) rfl (by rfl) (by rfl) (fun w' hw' => ?_) ?_; rotate_left
                  · go_simp <;> first | rfl | exact ⟨rfl, rfl⟩
                  simp only [Act.put, List.setIfInBounds_toArray, List.set_cons_zero, List.set_cons_succ]
                  refine wpT_nil (fun w5 hw' hF => ?_)
                  refine wpList_nil ?_
                  have hx5 := hw'.undrew
                  go_wp2_with fail
                  go_roundw
                  case rel => exact ⟨k + 1, by omega, by go_num, by rw [HZ.out], hy.trans hx5⟩
                  case measure => simp [intOf]; omega
                | true =>
                  rw [b1] at hd1 hFk
                  cases b2 : notIn LP k with
                  | false =>
                    rw [b2] at hd2 hFk
                    simp only [Bool.not_false] at hd2
                    have HE := Lib.hid (lsB_no (f := f) hFk)
                    obtain ⟨z, hz⟩ : ∃ z, z = lowI (lowB (degB N G) (lsB k f)) := ⟨_, rfl⟩
                    rw [← HE.out] at hz
                    rw [← HE.out, ← hz]
                    have HZ := Lib.hid hz
                    clear hz hFk hmem b1 b2 hd3
                    go_wp2_with fail
                    refine wp_region_T (cs := []) [0, 1, 2, 3, 4, 5, 6, 7, 8, 9, 10, 11, 12, 13, 14, 15, 16, 17, 18, 19, 20, 21, 22, 23, 24, 25, 26, 27, 28, 29, 30] [] [] [] (fun _ _ => False) (fun _ _ _ => True) (by kernel_rfl) (by kernel_rfl) (fun _ _ _ _ _ _ => trivial) ?_
                    refine' wpT_det (o := ⟨some 57, Op.move (Operand.tmp 4), 69, "l05_sparse.go:279", #[], none⟩) rfl (by rfl) (by rfl) (fun w' hw' => ?_) ?_; rotate_left
                    · go_simp <;> first | rfl | exact ⟨rfl, rfl⟩
                    simp only [Act.put, List.setIfInBounds_toArray, List.set_cons_zero, List.set_cons_succ]
                    refine' wpT_det (o := ⟨some 58, Op.move (Operand.tmp 10), 2, "l05_sparse.go:279", #[], none⟩) rfl (by rfl) (by rfl) (fun w' hw' => ?_) ?_; rotate_left
                    · go_simp <;> first | rfl | exact ⟨rfl, rfl⟩
                    simp only [Act.put, List.setIfInBounds_toArray, List.set_cons_zero, List.set_cons_succ]
                    refine' wpT_det (o := ⟨some 59, Op.fieldAddr 27 (Operand.tmp 1) 0, 0, "l05_sparse.go:279", #[], none⟩) rfl (by rfl) (by rfl) (fun w' hw' => ?_) ?_; rotate_left
                    · go_simp <;> first | rfl | exact ⟨rfl, rfl⟩
                    simp only [Act.put, List.setIfInBounds_toArray, List.set_cons_zero, List.set_cons_succ]
                    refine' wpT_det (o := ⟨some 60, Op.load 2 (Operand.tmp 59), 2, "l05_sparse.go:279", #[{ on := 2, ground := Ground.data }], none⟩) rfl (by rfl) (by rfl) (fun w' hw' => ?_) ?_; rotate_left
                    · have c0_ := Ext.cell hw' c0; have hd1_ := Ext.cell hw' hd1; have hd2_ := Ext.cell hw' hd2; go_simp <;> first | rfl | exact ⟨rfl, rfl⟩
                    simp only [Act.put, List.setIfInBounds_toArray, List.set_cons_zero, List.set_cons_succ]
                    refine' wpT_det (o := ⟨some 61, Op.binOp BinOp.mul 2 (Operand.tmp 58) (Operand.tmp 60) 2, 2, "l05_sparse.go:279", #[{ on := 1, ground := Ground.data }, { on := 3, ground := Ground.data }], none⟩) rfl (by rfl) (by rfl) (fun w' hw' => ?_) ?_; rotate_left
                    · go_simp <;> first | rfl | exact ⟨rfl, rfl⟩
                    simp only [Act.put, List.setIfInBounds_toArray, List.set_cons_zero, List.set_cons_succ]
                    refine' wpT_det (o := ⟨some 62, Op.move (Operand.tmp 12), 2, "l05_sparse.go:279", #[], none⟩) rfl (by rfl) (by rfl) (fun w' hw' => ?_) ?_; rotate_left
                    · go_simp <;> first | rfl | exact ⟨rfl, rfl⟩
                    simp only [Act.put, List.setIfInBounds_toArray, List.set_cons_zero, List.set_cons_succ]
                    refine' wpT_det (o := ⟨some 63, Op.binOp BinOp.add 2 (Operand.tmp 61) (Operand.tmp 62) 2, 2, "l05_sparse.go:279", #[{ on := 4, ground := Ground.data }, { on := 5, ground := Ground.data }], none⟩) rfl (by rfl) (by rfl) (fun w' hw' => ?_) ?_; rotate_left
                    · go_simp <;> first | rfl | exact ⟨rfl, rfl⟩
                    simp only [Act.put, List.setIfInBounds_toArray, List.set_cons_zero, List.set_cons_succ]
                    refine' wpT_det (o := ⟨some 64, Op.indexAddr 69 (Operand.tmp 57) (Operand.tmp 63), 0, "l05_sparse.go:279", #[{ on := 0, ground := Ground.data }, { on := 6, ground := Ground.data }], none⟩) rfl (by rfl) (by rfl) (fun w' hw' => ?_) ?_; rotate_left
                    · go_simp <;> first | rfl | exact ⟨rfl, rfl⟩
                    simp only [Act.put, List.setIfInBounds_toArray, List.set_cons_zero, List.set_cons_succ]
                    refine' wpT_det (o := ⟨some 65, Op.load 4 (Operand.tmp 64), 4, "l05_sparse.go:279", #[{ on := 7, ground := Ground.data }], none⟩) rfl (by rfl) (by rfl) (fun w' hw' => ?_) ?_; rotate_left
                    · have c0_ := Ext.cell hw' c0; have hd1_ := Ext.cell hw' hd1; have hd2_ := Ext.cell hw' hd2; go_simp <;> first | rfl | exact ⟨rfl, rfl⟩
                    simp only [Act.put, List.setIfInBounds_toArray, List.set_cons_zero, List.set_cons_succ]
                    refine' wpT_det (o := ⟨some 66, Op.move (Operand.tmp 65), 4, "l05_sparse.go:279", #[{ on := 8, ground := Ground.data }], none⟩) rfl (by rfl) (by rfl) (fun w' hw' => ?_) ?_; rotate_left
                    · go_simp <;> first | rfl | exact ⟨rfl, rfl⟩
                    simp only [Act.put, List.setIfInBounds_toArray, List.set_cons_zero, List.set_cons_succ]
                    refine' wpT_det (o := ⟨some 67, Op.move (Operand.tmp 6), 69, "l05_sparse.go:279", #[{ on := 9, ground := Ground.guard }], some (9, true)⟩) rfl (by rfl) (by rfl) (fun w' hw' => ?_) ?_; rotate_left
                    · go_simp <;> first | rfl | exact ⟨rfl, rfl⟩
                    simp only [Act.put, List.setIfInBounds_toArray, List.set_cons_zero, List.set_cons_succ]
                    refine' wpT_det (o := ⟨some 68, Op.move (Operand.tmp 12), 2, "l05_sparse.go:279", #[{ on := 9, ground := Ground.guard }], some (9, true)⟩) rfl (by rfl) (by rfl) (fun w' hw' => ?_) ?_; rotate_left
                    · go_simp <;> first | rfl | exact ⟨rfl, rfl⟩
                    simp only [Act.put, List.setIfInBounds_toArray, List.set_cons_zero, List.set_cons_succ]
                    refine' wpT_det (o := ⟨some 69, Op.indexAddr 69 (Operand.tmp 67) (Operand.tmp 68), 0, "l05_sparse.go:279", #[{ on := 10, ground := Ground.data }, { on := 11, ground := Ground.data }, { on := 9, ground := Ground.guard }], some (9, true)⟩) rfl (by rfl) (by rfl) (fun w' hw' => ?_) ?_; rotate_left
                    · go_simp <;> first | rfl | exact ⟨rfl, rfl⟩
                    simp only [Act.put, List.setIfInBounds_toArray, List.set_cons_zero, List.set_cons_succ]
                    refine' wpT_det (o := ⟨some 70, Op.load 4 (Operand.tmp 69), 4, "l05_sparse.go:279", #[{ on := 12, ground := Ground.data }, { on := 9, ground := Ground.guard }], some (9, true)⟩) rfl (by rfl) (by rfl) (fun w' hw' => ?_) ?_; rotate_left
                    · have c0_ := Ext.cell hw' c0; have hd1_ := Ext.cell hw' hd1; have hd2_ := Ext.cell hw' hd2; go_simp <;> first | rfl | exact ⟨rfl, rfl⟩
                    simp only [Act.put, List.setIfInBounds_toArray, List.set_cons_zero, List.set_cons_succ]
                    refine' wpT_det (o := ⟨some 71, Op.unOp UnOp.not 4 (Operand.tmp 70), 4, "l05_sparse.go:279", #[{ on := 13, ground := Ground.data }, { on := 9, ground := Ground.guard }], some (9, true)⟩) rfl (by rfl) (by rfl) (fun w' hw' => ?_) ?_; rotate_left
                    · go_simp <;> first | rfl | exact ⟨rfl, rfl⟩
                    simp only [Act.put, List.setIfInBounds_toArray, List.set_cons_zero, List.set_cons_succ]
                    refine' wpT_det (o := ⟨some 72, Op.pick (Operand.tmp 66) (Operand.tmp 71) (Operand.const (Value.bool false)), 4, "l05_sparse.go:279", #[{ on := 9, ground := Ground.data }, { on := 14, ground := Ground.data }], none⟩) rfl (by rfl) (by rfl) (fun w' hw' => ?_) ?_; rotate_left
                    · go_simp <;> first | rfl | exact ⟨rfl, rfl⟩
                    simp only [Act.put, List.setIfInBounds_toArray, List.set_cons_zero, List.set_cons_succ]
                    refine' wpT_det (o := ⟨some 73, Op.move (Operand.tmp 72), 4, "l05_sparse.go:279", #[{ on := 15, ground := Ground.data }, { on := 9, ground := Ground.chain }], none⟩) rfl (by rfl) (by rfl) (fun w' hw' => ?_) ?_; rotate_left
                    · go_simp <;> first | rfl | exact ⟨rfl, rfl⟩
                    simp only [Act.put, List.setIfInBounds_toArray, List.set_cons_zero, List.set_cons_succ]
                    refine wpT_skip (o := ⟨some 74, Op.move (Operand.tmp 11), 2, "l05_sparse.go:279", #[{ on := 16, ground := Ground.guard }], some (16, true)⟩) rfl (by rfl) ?_
                    simp only [Act.put, List.setIfInBounds_toArray, List.set_cons_zero, List.set_cons_succ]
                    refine wpT_skip (o := ⟨some 75, Op.binOp BinOp.lss 2 (Operand.tmp 74) (Operand.const (Value.int IntKind.i64 0)) 2, 4, "l05_sparse.go:279", #[{ on := 17, ground := Ground.data }, { on := 16, ground := Ground.guard }], some (16, true)⟩) rfl (by rfl) ?_
                    simp only [Act.put, List.setIfInBounds_toArray, List.set_cons_zero, List.set_cons_succ]
                    refine wpT_skip (o := ⟨some 76, Op.move (Operand.tmp 75), 4, "l05_sparse.go:279", #[{ on := 18, ground := Ground.data }, { on := 16, ground := Ground.chain }, { on := 16, ground := Ground.guard }], some (16, true)⟩) rfl (by rfl) ?_
                    simp only [Act.put, List.setIfInBounds_toArray, List.set_cons_zero, List.set_cons_succ]
                    refine wpT_skip (o := ⟨some 77, Op.move (Operand.tmp 5), 22, "l05_sparse.go:279", #[{ on := 19, ground := Ground.guard }], some (19, false)⟩) rfl (by rfl) ?_
                    simp only [Act.put, List.setIfInBounds_toArray, List.set_cons_zero, List.set_cons_succ]
                    refine wpT_skip (o := ⟨some 78, Op.move (Operand.tmp 12), 2, "l05_sparse.go:279", #[{ on := 19, ground := Ground.guard }], some (19, false)⟩) rfl (by rfl) ?_
                    simp only [Act.put, List.setIfInBounds_toArray, List.set_cons_zero, List.set_cons_succ]
                    refine wpT_skip (o := ⟨some 79, Op.indexAddr 22 (Operand.tmp 77) (Operand.tmp 78), 0, "l05_sparse.go:279", #[{ on := 20, ground := Ground.data }, { on := 21, ground := Ground.data }, { on := 19, ground := Ground.guard }], some (19, false)⟩) rfl (by rfl) ?_
                    simp only [Act.put, List.setIfInBounds_toArray, List.set_cons_zero, List.set_cons_succ]
                    refine wpT_skip (o := ⟨some 80, Op.load 2 (Operand.tmp 79), 2, "l05_sparse.go:279", #[{ on := 22, ground := Ground.data }, { on := 19, ground := Ground.guard }], some (19, false)⟩) rfl (by rfl) ?_
                    simp only [Act.put, List.setIfInBounds_toArray, List.set_cons_zero, List.set_cons_succ]
                    refine wpT_skip (o := ⟨some 81, Op.move (Operand.tmp 5), 22, "l05_sparse.go:279", #[{ on := 19, ground := Ground.guard }], some (19, false)⟩) rfl (by rfl) ?_
                    simp only [Act.put, List.setIfInBounds_toArray, List.set_cons_zero, List.set_cons_succ]
                    refine wpT_skip (o := ⟨some 82, Op.move (Operand.tmp 11), 2, "l05_sparse.go:279", #[{ on := 19, ground := Ground.guard }], some (19, false)⟩) rfl (by rfl) ?_
                    simp only [Act.put, List.setIfInBounds_toArray, List.set_cons_zero, List.set_cons_succ]
                    refine wpT_skip (o := ⟨some 83, Op.indexAddr 22 (Operand.tmp 81) (Operand.tmp 82), 0, "l05_sparse.go:279", #[{ on := 24, ground := Ground.data }, { on := 25, ground := Ground.data }, { on := 19, ground := Ground.guard }], some (19, false)⟩) rfl (by rfl) ?_
                    simp only [Act.put, List.setIfInBounds_toArray, List.set_cons_zero, List.set_cons_succ]
                    refine wpT_skip (o := ⟨some 84, Op.load 2 (Operand.tmp 83), 2, "l05_sparse.go:279", #[{ on := 26, ground := Ground.data }, { on := 19, ground := Ground.guard }], some (19, false)⟩) rfl (by rfl) ?_
                    simp only [Act.put, List.setIfInBounds_toArray, List.set_cons_zero, List.set_cons_succ]
                    refine wpT_skip (o := ⟨some 85, Op.binOp BinOp.lss 2 (Operand.tmp 80) (Operand.tmp 84) 2, 4, "l05_sparse.go:279", #[{ on := 23, ground := Ground.data }, { on := 27, ground := Ground.data }, { on := 19, ground := Ground.guard }], some (19, false)⟩) rfl (by rfl) ?_
                    simp only [Act.put, List.setIfInBounds_toArray, List.set_cons_zero, List.set_cons_succ]
                    refine wpT_skip (o := ⟨some 86, Op.pick (Operand.tmp 76) (Operand.const (Value.bool true)) (Operand.tmp 85), 4, "l05_sparse.go:279", #[{ on := 19, ground := Ground.data }, { on := 28, ground := Ground.data }, { on := 16, ground := Ground.guard }], some (16, true)⟩) rfl (by rfl) ?_
                    simp only [Act.put, List.setIfInBounds_toArray, List.set_cons_zero, List.set_cons_succ]
                    refine' wpT_det (o := ⟨some 87, Op.pick (Operand.tmp 73) (Operand.tmp 86) (Operand.const (Value.bool false)), 4, "l05_sparse.go:279", #[{ on := 16, ground := Ground.data }, { on := 29, ground := Ground.data }], none⟩) rfl (by rfl) (by rfl) (fun w' hw' => ?_) ?_; rotate_left
                    · go_simp <;> first | rfl | exact ⟨rfl, rfl⟩
                    simp only [Act.put, List.setIfInBounds_toArray, List.set_cons_zero, List.set_cons_succ]
                    refine wpT_nil (fun w5 hw' hF => ?_)
                    refine wpList_nil ?_
                    have hx5 := hw'.undrew
                    go_wp2_with fail
                    go_roundw
                    case rel => exact ⟨k + 1, by omega, by go_num, by rw [HZ.out], hy.trans hx5⟩
                    case measure => simp [intOf]; omega
                  | true =>
                    rw [b2] at hd2 hFk
                    simp only [Bool.not_true] at hd2
                    have HE : Hid (lowB (degB N G) (lsB (k + 1) f) = pick (degB N G) (lowB (degB N G) (lsB k f)) k) := by show _ = _; rw [lsB_yes hFk, lowB_snoc]
                    clear hFk b1 b2
                    cases hb : lowB (degB N G) (lsB k f) with
                    | none =>
                      rw [hb] at HE
                      have HF2 : Hid (lowB (degB N G) (lsB (k + 1) f) = some k) := HE
                      clear HE hb hmem
                      simp only [lowI]
                      go_wp2_with fail
                      refine wp_region_T (cs := []) [0, 1, 2, 3, 4, 5, 6, 7, 8, 9, 10, 11, 12, 13, 14, 15, 16, 17, 18, 19, 20, 21, 22, 23, 24, 25, 26, 27, 28, 29, 30] [] [] [] (fun _ _ => False) (fun _ _ _ => True) (by kernel_rfl) (by kernel_rfl) (fun _ _ _ _ _ _ => trivial) ?_
                      refine' wpT_det (o := ⟨some 57, Op.move (Operand.tmp 4), 69, "l05_sparse.go:279", #[], none⟩) rfl (by rfl) (by rfl) (fun w' hw' => ?_) ?_; rotate_left
                      · go_simp <;> first | rfl | exact ⟨rfl, rfl⟩
                      simp only [Act.put, List.setIfInBounds_toArray, List.set_cons_zero, List.set_cons_succ]
                      refine' wpT_det (o := ⟨some 58, Op.move (Operand.tmp 10), 2, "l05_sparse.go:279", #[], none⟩) rfl (by rfl) (by rfl) (fun w' hw' => ?_) ?_; rotate_left
                      · go_simp <;> first | rfl | exact ⟨rfl, rfl⟩
                      simp only [Act.put, List.setIfInBounds_toArray, List.set_cons_zero, List.set_cons_succ]
                      refine' wpT_det (o := ⟨some 59, Op.fieldAddr 27 (Operand.tmp 1) 0, 0, "l05_sparse.go:279", #[], none⟩) rfl (by rfl) (by rfl) (fun w' hw' => ?_) ?_; rotate_left
                      · go_simp <;> first | rfl | exact ⟨rfl, rfl⟩
                      simp only [Act.put, List.setIfInBounds_toArray, List.set_cons_zero, List.set_cons_succ]
                      refine' wpT_det (o := ⟨some 60, Op.load 2 (Operand.tmp 59), 2, "l05_sparse.go:279", #[{ on := 2, ground := Ground.data }], none⟩) rfl (by rfl) (by rfl) (fun w' hw' => ?_) ?_; rotate_left
                      · have c0_ := Ext.cell hw' c0; have hd1_ := Ext.cell hw' hd1; have hd2_ := Ext.cell hw' hd2; have hd3_ := Ext.cell hw' hd3; go_simp <;> first | rfl | exact ⟨rfl, rfl⟩
                      simp only [Act.put, List.setIfInBounds_toArray, List.set_cons_zero, List.set_cons_succ]
                      refine' wpT_det (o := ⟨some 61, Op.binOp BinOp.mul 2 (Operand.tmp 58) (Operand.tmp 60) 2, 2, "l05_sparse.go:279", #[{ on := 1, ground := Ground.data }, { on := 3, ground := Ground.data }], none⟩) rfl (by rfl) (by rfl) (fun w' hw' => ?_) ?_; rotate_left
                      · go_simp <;> first | rfl | exact ⟨rfl, rfl⟩
                      simp only [Act.put, List.setIfInBounds_toArray, List.set_cons_zero, List.set_cons_succ]
                      refine' wpT_det (o := ⟨some 62, Op.move (Operand.tmp 12), 2, "l05_sparse.go:279", #[], none⟩) rfl (by rfl) (by rfl) (fun w' hw' => ?_) ?_; rotate_left
                      · go_simp <;> first | rfl | exact ⟨rfl, rfl⟩
                      simp only [Act.put, List.setIfInBounds_toArray, List.set_cons_zero, List.set_cons_succ]
                      refine' wpT_det (o := ⟨some 63, Op.binOp BinOp.add 2 (Operand.tmp 61) (Operand.tmp 62) 2, 2, "l05_sparse.go:279", #[{ on := 4, ground := Ground.data }, { on := 5, ground := Ground.data }], none⟩) rfl (by rfl) (by rfl) (fun w' hw' => ?_) ?_; rotate_left
                      · go_simp <;> first | rfl | exact ⟨rfl, rfl⟩
                      simp only [Act.put, List.setIfInBounds_toArray, List.set_cons_zero, List.set_cons_succ]
                      refine' wpT_det (o := ⟨some 64, Op.indexAddr 69 (Operand.tmp 57) (Operand.tmp 63), 0, "l05_sparse.go:279", #[{ on := 0, ground := Ground.data }, { on := 6, ground := Ground.data }], none⟩) rfl (by rfl) (by rfl) (fun w' hw' => ?_) ?_; rotate_left
                      · go_simp <;> first | rfl | exact ⟨rfl, rfl⟩
                      simp only [Act.put, List.setIfInBounds_toArray, List.set_cons_zero, List.set_cons_succ]
                      refine' wpT_det (o := ⟨some 65, Op.load 4 (Operand.tmp 64), 4, "l05_sparse.go:279", #[{ on := 7, ground := Ground.data }], none⟩) rfl (by rfl) (by rfl) (fun w' hw' => ?_) ?_; rotate_left
                      · have c0_ := Ext.cell hw' c0; have hd1_ := Ext.cell hw' hd1; have hd2_ := Ext.cell hw' hd2; have hd3_ := Ext.cell hw' hd3; go_simp <;> first | rfl | exact ⟨rfl, rfl⟩
                      simp only [Act.put, List.setIfInBounds_toArray, List.set_cons_zero, List.set_cons_succ]
                      refine' wpT_det (o := ⟨some 66, Op.move (Operand.tmp 65), 4, "l05_sparse.go:279", #[{ on := 8, ground := Ground.data }], none⟩) rfl (by rfl) (by rfl) (fun w' hw' => ?_) ?_; rotate_left
                      · go_simp <;> first | rfl | exact ⟨rfl, rfl⟩
                      simp only [Act.put, List.setIfInBounds_toArray, List.set_cons_zero, List.set_cons_succ]
                      refine' wpT_det (o := ⟨some 67, Op.move (Operand.tmp 6), 69, "l05_sparse.go:279", #[{ on := 9, ground := Ground.guard }], some (9, true)⟩) rfl (by rfl) (by rfl) (fun w' hw' => ?_) ?_; rotate_left
                      · go_simp <;> first | rfl | exact ⟨rfl, rfl⟩
                      simp only [Act.put, List.setIfInBounds_toArray, List.set_cons_zero, List.set_cons_succ]
                      refine' wpT_det (o := ⟨some 68, Op.move (Operand.tmp 12), 2, "l05_sparse.go:279", #[{ on := 9, ground := Ground.guard }], some (9, true)⟩) rfl (by rfl) (by rfl) (fun w' hw' => ?_) ?_; rotate_left
                      · go_simp <;> first | rfl | exact ⟨rfl, rfl⟩
                      simp only [Act.put, List.setIfInBounds_toArray, List.set_cons_zero, List.set_cons_succ]
                      refine' wpT_det (o := ⟨some 69, Op.indexAddr 69 (Operand.tmp 67) (Operand.tmp 68), 0, "l05_sparse.go:279", #[{ on := 10, ground := Ground.data }, { on := 11, ground := Ground.data }, { on := 9, ground := Ground.guard }], some (9, true)⟩) rfl (by rfl) (by rfl) (fun w' hw' => ?_) ?_; rotate_left
                      · go_simp <;> first | rfl | exact ⟨rfl, rfl⟩
                      simp only [Act.put, List.setIfInBounds_toArray, List.set_cons_zero, List.set_cons_succ]
                      refine' wpT_det (o := ⟨some 70, Op.load 4 (Operand.tmp 69), 4, "l05_sparse.go:279", #[{ on := 12, ground := Ground.data }, { on := 9, ground := Ground.guard }], some (9, true)⟩) rfl (by rfl) (by rfl) (fun w' hw' => ?_) ?_; rotate_left
                      · have c0_ := Ext.cell hw' c0; have hd1_ := Ext.cell hw' hd1; have hd2_ := Ext.cell hw' hd2; have hd3_ := Ext.cell hw' hd3; go_simp <;> first | rfl | exact ⟨rfl, rfl⟩
                      simp only [Act.put, List.setIfInBounds_toArray, List.set_cons_zero, List.set_cons_succ]
                      refine' wpT_det (o := ⟨some 71, Op.unOp UnOp.not 4 (Operand.tmp 70), 4, "l05_sparse.go:279", #[{ on := 13, ground := Ground.data }, { on := 9, ground := Ground.guard }], some (9, true)⟩) rfl (by rfl) (by rfl) (fun w' hw' => ?_) ?_; rotate_left
                      · go_simp <;> first | rfl | exact ⟨rfl, rfl⟩
                      simp only [Act.put, List.setIfInBounds_toArray, List.set_cons_zero, List.set_cons_succ]
                      refine' wpT_det (o := ⟨some 72, Op.pick (Operand.tmp 66) (Operand.tmp 71) (Operand.const (Value.bool false)), 4, "l05_sparse.go:279", #[{ on := 9, ground := Ground.data }, { on := 14, ground := Ground.data }], none⟩) rfl (by rfl) (by rfl) (fun w' hw' => ?_) ?_; rotate_left
                      · go_simp <;> first | rfl | exact ⟨rfl, rfl⟩
                      simp only [Act.put, List.setIfInBounds_toArray, List.set_cons_zero, List.set_cons_succ]
                      refine' wpT_det (o := ⟨some 73, Op.move (Operand.tmp 72), 4, "l05_sparse.go:279", #[{ on := 15, ground := Ground.data }, { on := 9, ground := Ground.chain }], none⟩) rfl (by rfl) (by rfl) (fun w' hw' => ?_) ?_; rotate_left
                      · go_simp <;> first | rfl | exact ⟨rfl, rfl⟩
                      simp only [Act.put, List.setIfInBounds_toArray, List.set_cons_zero, List.set_cons_succ]
                      refine' wpT_det (o := ⟨some 74, Op.move (Operand.tmp 11), 2, "l05_sparse.go:279", #[{ on := 16, ground := Ground.guard }], some (16, true)⟩) rfl (by rfl) (by rfl) (fun w' hw' => ?_) ?_; rotate_left
                      · go_simp <;> first | rfl | exact ⟨rfl, rfl⟩
                      simp only [Act.put, List.setIfInBounds_toArray, List.set_cons_zero, List.set_cons_succ]
                      refine' wpT_det (o := ⟨some 75, Op.binOp BinOp.lss 2 (Operand.tmp 74) (Operand.const (Value.int IntKind.i64 0)) 2, 4, "l05_sparse.go:279", #[{ on := 17, ground := Ground.data }, { on := 16, ground := Ground.guard }], some (16, true)⟩) rfl (by rfl) (by rfl) (fun w' hw' => ?_) ?_; rotate_left
                      · go_simp <;> first | rfl | exact ⟨rfl, rfl⟩
                      simp only [Act.put, List.setIfInBounds_toArray, List.set_cons_zero, List.set_cons_succ]
                      refine' wpT_det (o := ⟨some 76, Op.move (Operand.tmp 75), 4, "l05_sparse.go:279", #[{ on := 18, ground := Ground.data }, { on := 16, ground := Ground.chain }, { on := 16, ground := Ground.guard }], some (16, true)⟩) rfl (by rfl) (by rfl) (fun w' hw' => ?_) ?_; rotate_left
                      · go_simp <;> first | rfl | exact ⟨rfl, rfl⟩
                      simp only [Act.put, List.setIfInBounds_toArray, List.set_cons_zero, List.set_cons_succ]
                      refine wpT_skip (o := ⟨some 77, Op.move (Operand.tmp 5), 22, "l05_sparse.go:279", #[{ on := 19, ground := Ground.guard }], some (19, false)⟩) rfl (by rfl) ?_
                      simp only [Act.put, List.setIfInBounds_toArray, List.set_cons_zero, List.set_cons_succ]
                      refine wpT_skip (o := ⟨some 78, Op.move (Operand.tmp 12), 2, "l05_sparse.go:279", #[{ on := 19, ground := Ground.guard }], some (19, false)⟩) rfl (by rfl) ?_
                      simp only [Act.put, List.setIfInBounds_toArray, List.set_cons_zero, List.set_cons_succ]
                      refine wpT_skip (o := ⟨some 79, Op.indexAddr 22 (Operand.tmp 77) (Operand.tmp 78), 0, "l05_sparse.go:279", #[{ on := 20, ground := Ground.data }, { on := 21, ground := Ground.data }, { on := 19, ground := Ground.guard }], some (19, false)⟩) rfl (by rfl) ?_
                      simp only [Act.put, List.setIfInBounds_toArray, List.set_cons_zero, List.set_cons_succ]
                      refine wpT_skip (o := ⟨some 80, Op.load 2 (Operand.tmp 79), 2, "l05_sparse.go:279", #[{ on := 22, ground := Ground.data }, { on := 19, ground := Ground.guard }], some (19, false)⟩) rfl (by rfl) ?_
                      simp only [Act.put, List.setIfInBounds_toArray, List.set_cons_zero, List.set_cons_succ]
                      refine wpT_skip (o := ⟨some 81, Op.move (Operand.tmp 5), 22, "l05_sparse.go:279", #[{ on := 19, ground := Ground.guard }], some (19, false)⟩) rfl (by rfl) ?_
                      simp only [Act.put, List.setIfInBounds_toArray, List.set_cons_zero, List.set_cons_succ]
                      refine wpT_skip (o := ⟨some 82, Op.move (Operand.tmp 11), 2, "l05_sparse.go:279", #[{ on := 19, ground := Ground.guard }], some (19, false)⟩) rfl (by rfl) ?_
                      simp only [Act.put, List.setIfInBounds_toArray, List.set_cons_zero, List.set_cons_succ]
                      refine wpT_skip (o := ⟨some 83, Op.indexAddr 22 (Operand.tmp 81) (Operand.tmp 82), 0, "l05_sparse.go:279", #[{ on := 24, ground := Ground.data }, { on := 25, ground := Ground.data }, { on := 19, ground := Ground.guard }], some (19, false)⟩) rfl (by rfl) ?_
                      simp only [Act.put, List.setIfInBounds_toArray, List.set_cons_zero, List.set_cons_succ]
                      refine wpT_skip (o := ⟨some 84, Op.load 2 (Operand.tmp 83), 2, "l05_sparse.go:279", #[{ on := 26, ground := Ground.data }, { on := 19, ground := Ground.guard }], some (19, false)⟩) rfl (by rfl) ?_
                      simp only [Act.put, List.setIfInBounds_toArray, List.set_cons_zero, List.set_cons_succ]
                      refine wpT_skip (o := ⟨some 85, Op.binOp BinOp.lss 2 (Operand.tmp 80) (Operand.tmp 84) 2, 4, "l05_sparse.go:279", #[{ on := 23, ground := Ground.data }, { on := 27, ground := Ground.data }, { on := 19, ground := Ground.guard }], some (19, false)⟩) rfl (by rfl) ?_
                      simp only [Act.put, List.setIfInBounds_toArray, List.set_cons_zero, List.set_cons_succ]
                      refine' wpT_det (o := ⟨some 86, Op.pick (Operand.tmp 76) (Operand.const (Value.bool true)) (Operand.tmp 85), 4, "l05_sparse.go:279", #[{ on := 19, ground := Ground.data }, { on := 28, ground := Ground.data }, { on := 16, ground := Ground.guard }], some (16, true)⟩) rfl (by rfl) (by rfl) (fun w' hw' => ?_) ?_; rotate_left
                      · go_simp <;> first | rfl | exact ⟨rfl, rfl⟩
                      simp only [Act.put, List.setIfInBounds_toArray, List.set_cons_zero, List.set_cons_succ]
                      refine' wpT_det (o := ⟨some 87, Op.pick (Operand.tmp 73) (Operand.tmp 86) (Operand.const (Value.bool false)), 4, "l05_sparse.go:279", #[{ on := 16, ground := Ground.data }, { on := 29, ground := Ground.data }], none⟩) rfl (by rfl) (by rfl) (fun w' hw' => ?_) ?_; rotate_left
                      · go_simp <;> first | rfl | exact ⟨rfl, rfl⟩
                      simp only [Act.put, List.setIfInBounds_toArray, List.set_cons_zero, List.set_cons_succ]
                      refine wpT_nil (fun w5 hw' hF => ?_)
                      refine wpList_nil ?_
                      have hx5 := hw'.undrew
                      go_wp2_with fail
                      go_roundw
                      case rel => exact ⟨k + 1, by omega, by go_num, by rw [HF2.out], hy.trans hx5⟩
                      case measure => simp [intOf]; omega
                    | some mb =>
                      have hmk := hmem mb hb
                      rw [hb] at HE
                      have HF1 : Hid (lowB (degB N G) (lsB (k + 1) f) = if degB N G k < degB N G mb then some k else some mb) := HE
                      clear HE hb hmem
                      simp only [lowI]
                      have hmN : mb < N := by omega
                      have hd4 := ((oDB.ext hy).at_ mb hmN).1
                      rw [ints_nat_get (by unfold degL; rw [dgk_len]; exact hmN), show (degL N G).getD mb 0 = degB N G mb by simp [degL, dgk, hmN]] at hd4
                      have hmI : (mb : Int) < N := by omega
                      have hm0 : ¬ (mb : Int) < 0 := by omega
                      have hm0' : decide ((mb : Int) < 0) = false := decide_eq_false hm0
                      obtain ⟨dk, hdk⟩ : ∃ dk, dk = degB N G k := ⟨_, rfl⟩
                      obtain ⟨dm, hdm⟩ : ∃ dm, dm = degB N G mb := ⟨_, rfl⟩
                      rw [← hdk] at hd3 HF1
                      rw [← hdm] at hd4 HF1
                      clear hdk hdm
                      by_cases hdd : dk < dm
                      · have hddI : (dk : Int) < dm := by omega
                        have hdd' : decide ((dk : Int) < dm) = true := decide_eq_true hddI
                        have HF2 : Hid (lowB (degB N G) (lsB (k + 1) f) = some k) := by show _ = _; rw [HF1.out, if_pos hdd]
                        clear HF1
                        go_wp2_with fail
                        refine wp_region_T (cs := []) [0, 1, 2, 3, 4, 5, 6, 7, 8, 9, 10, 11, 12, 13, 14, 15, 16, 17, 18, 19, 20, 21, 22, 23, 24, 25, 26, 27, 28, 29, 30] [] [] [] (fun _ _ => False) (fun _ _ _ => True) (by kernel_rfl) (by kernel_rfl) (fun _ _ _ _ _ _ => trivial) ?_
                        refine' wpT_det (o := ⟨some 57, Op.move (Operand.tmp 4), 69, "l05_sparse.go:279", #[], none⟩) rfl (by rfl) (by rfl) (fun w' hw' => ?_) ?_; rotate_left
                        · go_simp <;> first | rfl | exact ⟨rfl, rfl⟩
                        simp only [Act.put, List.setIfInBounds_toArray, List.set_cons_zero, List.set_cons_succ]
                        refine' wpT_det (o := ⟨some 58, Op.move (Operand.tmp 10), 2, "l05_sparse.go:279", #[], none⟩) rfl (by rfl) (by rfl) (fun w' hw' => ?_) ?_; rotate_left
                        · go_simp <;> first | rfl | exact ⟨rfl, rfl⟩
                        simp only [Act.put, List.setIfInBounds_toArray, List.set_cons_zero, List.set_cons_succ]
                        refine' wpT_det (o := ⟨some 59, Op.fieldAddr 27 (Operand.tmp 1) 0, 0, "l05_sparse.go:279", #[], none⟩) rfl (by rfl) (by rfl) (fun w' hw' => ?_) ?_; rotate_left
                        · go_simp <;> first | rfl | exact ⟨rfl, rfl⟩
                        simp only [Act.put, List.setIfInBounds_toArray, List.set_cons_zero, List.set_cons_succ]
                        refine' wpT_det (o := ⟨some 60, Op.load 2 (Operand.tmp 59), 2, "l05_sparse.go:279", #[{ on := 2, ground := Ground.data }], none⟩) rfl (by rfl) (by rfl) (fun w' hw' => ?_) ?_; rotate_left
                        · have c0_ := Ext.cell hw' c0; have hd1_ := Ext.cell hw' hd1; have hd2_ := Ext.cell hw' hd2; have hd3_ := Ext.cell hw' hd3; have hd4_ := Ext.cell hw' hd4; go_simp <;> first | rfl | exact ⟨rfl, rfl⟩
                        simp only [Act.put, List.setIfInBounds_toArray, List.set_cons_zero, List.set_cons_succ]
                        refine' wpT_det (o := ⟨some 61, Op.binOp BinOp.mul 2 (Operand.tmp 58) (Operand.tmp 60) 2, 2, "l05_sparse.go:279", #[{ on := 1, ground := Ground.data }, { on := 3, ground := Ground.data }], none⟩) rfl (by rfl) (by rfl) (fun w' hw' => ?_) ?_; rotate_left
                        · go_simp <;> first | rfl | exact ⟨rfl, rfl⟩
                        simp only [Act.put, List.setIfInBounds_toArray, List.set_cons_zero, List.set_cons_succ]
                        refine' wpT_det (o := ⟨some 62, Op.move (Operand.tmp 12), 2, "l05_sparse.go:279", #[], none⟩) rfl (by rfl) (by rfl) (fun w' hw' => ?_) ?_; rotate_left
                        · go_simp <;> first | rfl | exact ⟨rfl, rfl⟩
                        simp only [Act.put, List.setIfInBounds_toArray, List.set_cons_zero, List.set_cons_succ]
                        refine' wpT_det (o := ⟨some 63, Op.binOp BinOp.add 2 (Operand.tmp 61) (Operand.tmp 62) 2, 2, "l05_sparse.go:279", #[{ on := 4, ground := Ground.data }, { on := 5, ground := Ground.data }], none⟩) rfl (by rfl) (by rfl) (fun w' hw' => ?_) ?_; rotate_left
                        · go_simp <;> first | rfl | exact ⟨rfl, rfl⟩
                        simp only [Act.put, List.setIfInBounds_toArray, List.set_cons_zero, List.set_cons_succ]
                        refine' wpT_det (o := ⟨some 64, Op.indexAddr 69 (Operand.tmp 57) (Operand.tmp 63), 0, "l05_sparse.go:279", #[{ on := 0, ground := Ground.data }, { on := 6, ground := Ground.data }], none⟩) rfl (by rfl) (by rfl) (fun w' hw' => ?_) ?_; rotate_left
                        · go_simp <;> first | rfl | exact ⟨rfl, rfl⟩
                        simp only [Act.put, List.setIfInBounds_toArray, List.set_cons_zero, List.set_cons_succ]
                        refine' wpT_det (o := ⟨some 65, Op.load 4 (Operand.tmp 64), 4, "l05_sparse.go:279", #[{ on := 7, ground := Ground.data }], none⟩) rfl (by rfl) (by rfl) (fun w' hw' => ?_) ?_; rotate_left
                        · have c0_ := Ext.cell hw' c0; have hd1_ := Ext.cell hw' hd1; have hd2_ := Ext.cell hw' hd2; have hd3_ := Ext.cell hw' hd3; have hd4_ := Ext.cell hw' hd4; go_simp <;> first | rfl | exact ⟨rfl, rfl⟩
                        simp only [Act.put, List.setIfInBounds_toArray, List.set_cons_zero, List.set_cons_succ]
                        refine' wpT_det (o := ⟨some 66, Op.move (Operand.tmp 65), 4, "l05_sparse.go:279", #[{ on := 8, ground := Ground.data }], none⟩) rfl (by rfl) (by rfl) (fun w' hw' => ?_) ?_; rotate_left
                        · go_simp <;> first | rfl | exact ⟨rfl, rfl⟩
                        simp only [Act.put, List.setIfInBounds_toArray, List.set_cons_zero, List.set_cons_succ]
                        refine' wpT_det (o := ⟨some 67, Op.move (Operand.tmp 6), 69, "l05_sparse.go:279", #[{ on := 9, ground := Ground.guard }], some (9, true)⟩) rfl (by rfl) (by rfl) (fun w' hw' => ?_) ?_; rotate_left
                        · go_simp <;> first | rfl | exact ⟨rfl, rfl⟩
                        simp only [Act.put, List.setIfInBounds_toArray, List.set_cons_zero, List.set_cons_succ]
                        refine' wpT_det (o := ⟨some 68, Op.move (Operand.tmp 12), 2, "l05_sparse.go:279", #[{ on := 9, ground := Ground.guard }], some (9, true)⟩) rfl (by rfl) (by rfl) (fun w' hw' => ?_) ?_; rotate_left
                        · go_simp <;> first | rfl | exact ⟨rfl, rfl⟩
                        simp only [Act.put, List.setIfInBounds_toArray, List.set_cons_zero, List.set_cons_succ]
                        refine' wpT_det (o := ⟨some 69, Op.indexAddr 69 (Operand.tmp 67) (Operand.tmp 68), 0, "l05_sparse.go:279", #[{ on := 10, ground := Ground.data }, { on := 11, ground := Ground.data }, { on := 9, ground := Ground.guard }], some (9, true)⟩) rfl (by rfl) (by rfl) (fun w' hw' => ?_) ?_; rotate_left
                        · go_simp <;> first | rfl | exact ⟨rfl, rfl⟩
                        simp only [Act.put, List.setIfInBounds_toArray, List.set_cons_zero, List.set_cons_succ]
                        refine' wpT_det (o := ⟨some 70, Op.load 4 (Operand.tmp 69), 4, "l05_sparse.go:279", #[{ on := 12, ground := Ground.data }, { on := 9, ground := Ground.guard }], some (9, true)⟩) rfl (by rfl) (by rfl) (fun w' hw' => ?_) ?_; rotate_left
                        · have c0_ := Ext.cell hw' c0; have hd1_ := Ext.cell hw' hd1; have hd2_ := Ext.cell hw' hd2; have hd3_ := Ext.cell hw' hd3; have hd4_ := Ext.cell hw' hd4; go_simp <;> first | rfl | exact ⟨rfl, rfl⟩
                        simp only [Act.put, List.setIfInBounds_toArray, List.set_cons_zero, List.set_cons_succ]
                        refine' wpT_det (o := ⟨some 71, Op.unOp UnOp.not 4 (Operand.tmp 70), 4, "l05_sparse.go:279", #[{ on := 13, ground := Ground.data }, { on := 9, ground := Ground.guard }], some (9, true)⟩) rfl (by rfl) (by rfl) (fun w' hw' => ?_) ?_; rotate_left
                        · go_simp <;> first | rfl | exact ⟨rfl, rfl⟩
                        simp only [Act.put, List.setIfInBounds_toArray, List.set_cons_zero, List.set_cons_succ]
                        refine' wpT_det (o := ⟨some 72, Op.pick (Operand.tmp 66) (Operand.tmp 71) (Operand.const (Value.bool false)), 4, "l05_sparse.go:279", #[{ on := 9, ground := Ground.data }, { on := 14, ground := Ground.data }], none⟩) rfl (by rfl) (by rfl) (fun w' hw' => ?_) ?_; rotate_left
                        · go_simp <;> first | rfl | exact ⟨rfl, rfl⟩
                        simp only [Act.put, List.setIfInBounds_toArray, List.set_cons_zero, List.set_cons_succ]
                        refine' wpT_det (o := ⟨some 73, Op.move (Operand.tmp 72), 4, "l05_sparse.go:279", #[{ on := 15, ground := Ground.data }, { on := 9, ground := Ground.chain }], none⟩) rfl (by rfl) (by rfl) (fun w' hw' => ?_) ?_; rotate_left
                        · go_simp <;> first | rfl | exact ⟨rfl, rfl⟩
                        simp only [Act.put, List.setIfInBounds_toArray, List.set_cons_zero, List.set_cons_succ]
                        refine' wpT_det (o := ⟨some 74, Op.move (Operand.tmp 11), 2, "l05_sparse.go:279", #[{ on := 16, ground := Ground.guard }], some (16, true)⟩) rfl (by rfl) (by rfl) (fun w' hw' => ?_) ?_; rotate_left
                        · go_simp <;> first | rfl | exact ⟨rfl, rfl⟩
                        simp only [Act.put, List.setIfInBounds_toArray, List.set_cons_zero, List.set_cons_succ]
                        refine' wpT_det (o := ⟨some 75, Op.binOp BinOp.lss 2 (Operand.tmp 74) (Operand.const (Value.int IntKind.i64 0)) 2, 4, "l05_sparse.go:279", #[{ on := 17, ground := Ground.data }, { on := 16, ground := Ground.guard }], some (16, true)⟩) rfl (by rfl) (by rfl) (fun w' hw' => ?_) ?_; rotate_left
                        · go_simp <;> first | rfl | exact ⟨rfl, rfl⟩
                        simp only [Act.put, List.setIfInBounds_toArray, List.set_cons_zero, List.set_cons_succ]
                        refine' wpT_det (o := ⟨some 76, Op.move (Operand.tmp 75), 4, "l05_sparse.go:279", #[{ on := 18, ground := Ground.data }, { on := 16, ground := Ground.chain }, { on := 16, ground := Ground.guard }], some (16, true)⟩) rfl (by rfl) (by rfl) (fun w' hw' => ?_) ?_; rotate_left
                        · go_simp <;> first | rfl | exact ⟨rfl, rfl⟩
                        simp only [Act.put, List.setIfInBounds_toArray, List.set_cons_zero, List.set_cons_succ]
                        refine' wpT_det (o := ⟨some 77, Op.move (Operand.tmp 5), 22, "l05_sparse.go:279", #[{ on := 19, ground := Ground.guard }], some (19, false)⟩) rfl (by rfl) (by rfl) (fun w' hw' => ?_) ?_; rotate_left
                        · go_simp <;> first | rfl | exact ⟨rfl, rfl⟩
                        simp only [Act.put, List.setIfInBounds_toArray, List.set_cons_zero, List.set_cons_succ]
                        refine' wpT_det (o := ⟨some 78, Op.move (Operand.tmp 12), 2, "l05_sparse.go:279", #[{ on := 19, ground := Ground.guard }], some (19, false)⟩) rfl (by rfl) (by rfl) (fun w' hw' => ?_) ?_; rotate_left
                        · go_simp <;> first | rfl | exact ⟨rfl, rfl⟩
                        simp only [Act.put, List.setIfInBounds_toArray, List.set_cons_zero, List.set_cons_succ]
                        refine' wpT_det (o := ⟨some 79, Op.indexAddr 22 (Operand.tmp 77) (Operand.tmp 78), 0, "l05_sparse.go:279", #[{ on := 20, ground := Ground.data }, { on := 21, ground := Ground.data }, { on := 19, ground := Ground.guard }], some (19, false)⟩) rfl (by rfl) (by rfl) (fun w' hw' => ?_) ?_; rotate_left
                        · go_simp <;> first | rfl | exact ⟨rfl, rfl⟩
                        simp only [Act.put, List.setIfInBounds_toArray, List.set_cons_zero, List.set_cons_succ]
                        refine' wpT_det (o := ⟨some 80, Op.load 2 (Operand.tmp 79), 2, "l05_sparse.go:279", #[{ on := 22, ground := Ground.data }, { on := 19, ground := Ground.guard }], some (19, false)⟩) rfl (by rfl) (by rfl) (fun w' hw' => ?_) ?_; rotate_left
                        · have c0_ := Ext.cell hw' c0; have hd1_ := Ext.cell hw' hd1; have hd2_ := Ext.cell hw' hd2; have hd3_ := Ext.cell hw' hd3; have hd4_ := Ext.cell hw' hd4; go_simp <;> first | rfl | exact ⟨rfl, rfl⟩
                        simp only [Act.put, List.setIfInBounds_toArray, List.set_cons_zero, List.set_cons_succ]
                        refine' wpT_det (o := ⟨some 81, Op.move (Operand.tmp 5), 22, "l05_sparse.go:279", #[{ on := 19, ground := Ground.guard }], some (19, false)⟩) rfl (by rfl) (by rfl) (fun w' hw' => ?_) ?_; rotate_left
                        · go_simp <;> first | rfl | exact ⟨rfl, rfl⟩
                        simp only [Act.put, List.setIfInBounds_toArray, List.set_cons_zero, List.set_cons_succ]
                        refine' wpT_det (o := ⟨some 82, Op.move (Operand.tmp 11), 2, "l05_sparse.go:279", #[{ on := 19, ground := Ground.guard }], some (19, false)⟩) rfl (by rfl) (by rfl) (fun w' hw' => ?_) ?_; rotate_left
                        · go_simp <;> first | rfl | exact ⟨rfl, rfl⟩
                        simp only [Act.put, List.setIfInBounds_toArray, List.set_cons_zero, List.set_cons_succ]
                        refine' wpT_det (o := ⟨some 83, Op.indexAddr 22 (Operand.tmp 81) (Operand.tmp 82), 0, "l05_sparse.go:279", #[{ on := 24, ground := Ground.data }, { on := 25, ground := Ground.data }, { on := 19, ground := Ground.guard }], some (19, false)⟩) rfl (by rfl) (by rfl) (fun w' hw' => ?_) ?_; rotate_left
                        · go_simp <;> first | rfl | exact ⟨rfl, rfl⟩
                        simp only [Act.put, List.setIfInBounds_toArray, List.set_cons_zero, List.set_cons_succ]
                        refine' wpT_det (o := ⟨some 84, Op.load 2 (Operand.tmp 83), 2, "l05_sparse.go:279", #[{ on := 26, ground := Ground.data }, { on := 19, ground := Ground.guard }], some (19, false)⟩) rfl (by rfl) (by rfl) (fun w' hw' => ?_) ?_; rotate_left
                        · have c0_ := Ext.cell hw' c0; have hd1_ := Ext.cell hw' hd1; have hd2_ := Ext.cell hw' hd2; have hd3_ := Ext.cell hw' hd3; have hd4_ := Ext.cell hw' hd4; go_simp <;> first | rfl | exact ⟨rfl, rfl⟩
                        simp only [Act.put, List.setIfInBounds_toArray, List.set_cons_zero, List.set_cons_succ]
                        refine' wpT_det (o := ⟨some 85, Op.binOp BinOp.lss 2 (Operand.tmp 80) (Operand.tmp 84) 2, 4, "l05_sparse.go:279", #[{ on := 23, ground := Ground.data }, { on := 27, ground := Ground.data }, { on := 19, ground := Ground.guard }], some (19, false)⟩) rfl (by rfl) (by rfl) (fun w' hw' => ?_) ?_; rotate_left
                        · go_simp <;> first | rfl | exact ⟨rfl, rfl⟩
                        simp only [Act.put, List.setIfInBounds_toArray, List.set_cons_zero, List.set_cons_succ]
                        refine' wpT_det (o := ⟨some 86, Op.pick (Operand.tmp 76) (Operand.const (Value.bool true)) (Operand.tmp 85), 4, "l05_sparse.go:279", #[{ on := 19, ground := Ground.data }, { on := 28, ground := Ground.data }, { on := 16, ground := Ground.guard }], some (16, true)⟩) rfl (by rfl) (by rfl) (fun w' hw' => ?_) ?_; rotate_left
                        · go_simp <;> first | rfl | exact ⟨rfl, rfl⟩
                        simp only [Act.put, List.setIfInBounds_toArray, List.set_cons_zero, List.set_cons_succ]
                        refine' wpT_det (o := ⟨some 87, Op.pick (Operand.tmp 73) (Operand.tmp 86) (Operand.const (Value.bool false)), 4, "l05_sparse.go:279", #[{ on := 16, ground := Ground.data }, { on := 29, ground := Ground.data }], none⟩) rfl (by rfl) (by rfl) (fun w' hw' => ?_) ?_; rotate_left
                        · go_simp <;> first | rfl | exact ⟨rfl, rfl⟩
                        simp only [Act.put, List.setIfInBounds_toArray, List.set_cons_zero, List.set_cons_succ]
                        refine wpT_nil (fun w5 hw' hF => ?_)
                        refine wpList_nil ?_
                        have hx5 := hw'.undrew
                        go_wp2_with fail
                        go_roundw
                        case rel => exact ⟨k + 1, by omega, by go_num, by rw [HF2.out], hy.trans hx5⟩
                        case measure => simp [intOf]; omega
                      · have hddI : ¬ (dk : Int) < dm := by omega
                        have hdd' : decide ((dk : Int) < dm) = false := decide_eq_false hddI
                        have HF2 : Hid (lowB (degB N G) (lsB (k + 1) f) = some mb) := by show _ = _; rw [HF1.out, if_neg hdd]
                        clear HF1
                        go_wp2_with fail
                        refine wp_region_T (cs := []) [0, 1, 2, 3, 4, 5, 6, 7, 8, 9, 10, 11, 12, 13, 14, 15, 16, 17, 18, 19, 20, 21, 22, 23, 24, 25, 26, 27, 28, 29, 30] [] [] [] (fun _ _ => False) (fun _ _ _ => True) (by kernel_rfl) (by kernel_rfl) (fun _ _ _ _ _ _ => trivial) ?_
                        refine' wpT_det (o := ⟨some 57, Op.move (Operand.tmp 4), 69, "l05_sparse.go:279", #[], none⟩) rfl (by rfl) (by rfl) (fun w' hw' => ?_) ?_; rotate_left
                        · go_simp <;> first | rfl | exact ⟨rfl, rfl⟩
                        simp only [Act.put, List.setIfInBounds_toArray, List.set_cons_zero, List.set_cons_succ]
                        refine' wpT_det (o := ⟨some 58, Op.move (Operand.tmp 10), 2, "l05_sparse.go:279", #[], none⟩) rfl (by rfl) (by rfl) (fun w' hw' => ?_) ?_; rotate_left
                        · go_simp <;> first | rfl | exact ⟨rfl, rfl⟩
                        simp only [Act.put, List.setIfInBounds_toArray, List.set_cons_zero, List.set_cons_succ]
                        refine' wpT_det (o := ⟨some 59, Op.fieldAddr 27 (Operand.tmp 1) 0, 0, "l05_sparse.go:279", #[], none⟩) rfl (by rfl) (by rfl) (fun w' hw' => ?_) ?_; rotate_left
                        · go_simp <;> first | rfl | exact ⟨rfl, rfl⟩
                        simp only [Act.put, List.setIfInBounds_toArray, List.set_cons_zero, List.set_cons_succ]
                        refine' wpT_det (o := ⟨some 60, Op.load 2 (Operand.tmp 59), 2, "l05_sparse.go:279", #[{ on := 2, ground := Ground.data }], none⟩) rfl (by rfl) (by rfl) (fun w' hw' => ?_) ?_; rotate_left
                        · have c0_ := Ext.cell hw' c0; have hd1_ := Ext.cell hw' hd1; have hd2_ := Ext.cell hw' hd2; have hd3_ := Ext.cell hw' hd3; have hd4_ := Ext.cell hw' hd4; go_simp <;> first | rfl | exact ⟨rfl, rfl⟩
                        simp only [Act.put, List.setIfInBounds_toArray, List.set_cons_zero, List.set_cons_succ]
                        refine' wpT_det (o := ⟨some 61, Op.binOp BinOp.mul 2 (Operand.tmp 58) (Operand.tmp 60) 2, 2, "l05_sparse.go:279", #[{ on := 1, ground := Ground.data }, { on := 3, ground := Ground.data }], none⟩) rfl (by rfl) (by rfl) (fun w' hw' => ?_) ?_; rotate_left
                        · go_simp <;> first | rfl | exact ⟨rfl, rfl⟩
                        simp only [Act.put, List.setIfInBounds_toArray, List.set_cons_zero, List.set_cons_succ]
                        refine' wpT_det (o := ⟨some 62, Op.move (Operand.tmp 12), 2, "l05_sparse.go:279", #[], none⟩) rfl (by rfl) (by rfl) (fun w' hw' => ?_) ?_; rotate_left
                        · go_simp <;> first | rfl | exact ⟨rfl, rfl⟩
                        simp only [Act.put, List.setIfInBounds_toArray, List.set_cons_zero, List.set_cons_succ]
                        refine' wpT_det (o := ⟨some 63, Op.binOp BinOp.add 2 (Operand.tmp 61) (Operand.tmp 62) 2, 2, "l05_sparse.go:279", #[{ on := 4, ground := Ground.data }, { on := 5, ground := Ground.data }], none⟩) rfl (by rfl) (by rfl) (fun w' hw' => ?_) ?_; rotate_left
                        · go_simp <;> first | rfl | exact ⟨rfl, rfl⟩
                        simp only [Act.put, List.setIfInBounds_toArray, List.set_cons_zero, List.set_cons_succ]
                        refine' wpT_det (o := ⟨some 64, Op.indexAddr 69 (Operand.tmp 57) (Operand.tmp 63), 0, "l05_sparse.go:279", #[{ on := 0, ground := Ground.data }, { on := 6, ground := Ground.data }], none⟩) rfl (by rfl) (by rfl) (fun w' hw' => ?_) ?_; rotate_left
                        · go_simp <;> first | rfl | exact ⟨rfl, rfl⟩
                        simp only [Act.put, List.setIfInBounds_toArray, List.set_cons_zero, List.set_cons_succ]
                        refine' wpT_det (o := ⟨some 65, Op.load 4 (Operand.tmp 64), 4, "l05_sparse.go:279", #[{ on := 7, ground := Ground.data }], none⟩) rfl (by rfl) (by rfl) (fun w' hw' => ?_) ?_; rotate_left
                        · have c0_ := Ext.cell hw' c0; have hd1_ := Ext.cell hw' hd1; have hd2_ := Ext.cell hw' hd2; have hd3_ := Ext.cell hw' hd3; have hd4_ := Ext.cell hw' hd4; go_simp <;> first | rfl | exact ⟨rfl, rfl⟩
                        simp only [Act.put, List.setIfInBounds_toArray, List.set_cons_zero, List.set_cons_succ]
                        refine' wpT_det (o := ⟨some 66, Op.move (Operand.tmp 65), 4, "l05_sparse.go:279", #[{ on := 8, ground := Ground.data }], none⟩) rfl (by rfl) (by rfl) (fun w' hw' => ?_) ?_; rotate_left
                        · go_simp <;> first | rfl | exact ⟨rfl, rfl⟩
                        simp only [Act.put, List.setIfInBounds_toArray, List.set_cons_zero, List.set_cons_succ]
                        refine' wpT_det (o := ⟨some 67, Op.move (Operand.tmp 6), 69, "l05_sparse.go:279", #[{ on := 9, ground := Ground.guard }], some (9, true)⟩) rfl (by rfl) (by rfl) (fun w' hw' => ?_) ?_; rotate_left
                        · go_simp <;> first | rfl | exact ⟨rfl, rfl⟩
                        simp only [Act.put, List.setIfInBounds_toArray, List.set_cons_zero, List.set_cons_succ]
                        refine' wpT_det (o := ⟨some 68, Op.move (Operand.tmp 12), 2, "l05_sparse.go:279", #[{ on := 9, ground := Ground.guard }], some (9, true)⟩) rfl (by rfl) (by rfl) (fun w' hw' => ?_) ?_; rotate_left
                        · go_simp <;> first | rfl | exact ⟨rfl, rfl⟩
                        simp only [Act.put, List.setIfInBounds_toArray, List.set_cons_zero, List.set_cons_succ]
                        refine' wpT_det (o := ⟨some 69, Op.indexAddr 69 (Operand.tmp 67) (Operand.tmp 68), 0, "l05_sparse.go:279", #[{ on := 10, ground := Ground.data }, { on := 11, ground := Ground.data }, { on := 9, ground := Ground.guard }], some (9, true)⟩) rfl (by rfl) (by rfl) (fun w' hw' => ?_) ?_; rotate_left
                        · go_simp <;> first | rfl | exact ⟨rfl, rfl⟩
                        simp only [Act.put, List.setIfInBounds_toArray, List.set_cons_zero, List.set_cons_succ]
                        refine' wpT_det (o := ⟨some 70, Op.load 4 (Operand.tmp 69), 4, "l05_sparse.go:279", #[{ on := 12, ground := Ground.data }, { on := 9, ground := Ground.guard }], some (9, true)⟩) rfl (by rfl) (by rfl) (fun w' hw' => ?_) ?_; rotate_left
                        · have c0_ := Ext.cell hw' c0; have hd1_ := Ext.cell hw' hd1; have hd2_ := Ext.cell hw' hd2; have hd3_ := Ext.cell hw' hd3; have hd4_ := Ext.cell hw' hd4; go_simp <;> first | rfl | exact ⟨rfl, rfl⟩
                        simp only [Act.put, List.setIfInBounds_toArray, List.set_cons_zero, List.set_cons_succ]
                        refine' wpT_det (o := ⟨some 71, Op.unOp UnOp.not 4 (Operand.tmp 70), 4, "l05_sparse.go:279", #[{ on := 13, ground := Ground.data }, { on := 9, ground := Ground.guard }], some (9, true)⟩) rfl (by rfl) (by rfl) (fun w' hw' => ?_) ?_; rotate_left
                        · go_simp <;> first | rfl | exact ⟨rfl, rfl⟩
                        simp only [Act.put, List.setIfInBounds_toArray, List.set_cons_zero, List.set_cons_succ]
                        refine' wpT_det (o := ⟨some 72, Op.pick (Operand.tmp 66) (Operand.tmp 71) (Operand.const (Value.bool false)), 4, "l05_sparse.go:279", #[{ on := 9, ground := Ground.data }, { on := 14, ground := Ground.data }], none⟩) rfl (by rfl) (by rfl) (fun w' hw' => ?_) ?_; rotate_left
                        · go_simp <;> first | rfl | exact ⟨rfl, rfl⟩
                        simp only [Act.put, List.setIfInBounds_toArray, List.set_cons_zero, List.set_cons_succ]
                        refine' wpT_det (o := ⟨some 73, Op.move (Operand.tmp 72), 4, "l05_sparse.go:279", #[{ on := 15, ground := Ground.data }, { on := 9, ground := Ground.chain }], none⟩) rfl (by rfl) (by rfl) (fun w' hw' => ?_) ?_; rotate_left
                        · go_simp <;> first | rfl | exact ⟨rfl, rfl⟩
                        simp only [Act.put, List.setIfInBounds_toArray, List.set_cons_zero, List.set_cons_succ]
                        refine' wpT_det (o := ⟨some 74, Op.move (Operand.tmp 11), 2, "l05_sparse.go:279", #[{ on := 16, ground := Ground.guard }], some (16, true)⟩) rfl (by rfl) (by rfl) (fun w' hw' => ?_) ?_; rotate_left
                        · go_simp <;> first | rfl | exact ⟨rfl, rfl⟩
                        simp only [Act.put, List.setIfInBounds_toArray, List.set_cons_zero, List.set_cons_succ]
                        refine' wpT_det (o := ⟨some 75, Op.binOp BinOp.lss 2 (Operand.tmp 74) (Operand.const (Value.int IntKind.i64 0)) 2, 4, "l05_sparse.go:279", #[{ on := 17, ground := Ground.data }, { on := 16, ground := Ground.guard }], some (16, true)⟩) rfl (by rfl) (by rfl) (fun w' hw' => ?_) ?_; rotate_left
                        · go_simp <;> first | rfl | exact ⟨rfl, rfl⟩
                        simp only [Act.put, List.setIfInBounds_toArray, List.set_cons_zero, List.set_cons_succ]
                        refine' wpT_det (o := ⟨some 76, Op.move (Operand.tmp 75), 4, "l05_sparse.go:279", #[{ on := 18, ground := Ground.data }, { on := 16, ground := Ground.chain }, { on := 16, ground := Ground.guard }], some (16, true)⟩) rfl (by rfl) (by rfl) (fun w' hw' => ?_) ?_; rotate_left
                        · go_simp <;> first | rfl | exact ⟨rfl, rfl⟩
                        simp only [Act.put, List.setIfInBounds_toArray, List.set_cons_zero, List.set_cons_succ]
                        refine' wpT_det (o := ⟨some 77, Op.move (Operand.tmp 5), 22, "l05_sparse.go:279", #[{ on := 19, ground := Ground.guard }], some (19, false)⟩) rfl (by rfl) (by rfl) (fun w' hw' => ?_) ?_; rotate_left
                        · go_simp <;> first | rfl | exact ⟨rfl, rfl⟩
                        simp only [Act.put, List.setIfInBounds_toArray, List.set_cons_zero, List.set_cons_succ]
                        refine' wpT_det (o := ⟨some 78, Op.move (Operand.tmp 12), 2, "l05_sparse.go:279", #[{ on := 19, ground := Ground.guard }], some (19, false)⟩) rfl (by rfl) (by rfl) (fun w' hw' => ?_) ?_; rotate_left
                        · go_simp <;> first | rfl | exact ⟨rfl, rfl⟩
                        simp only [Act.put, List.setIfInBounds_toArray, List.set_cons_zero, List.set_cons_succ]
                        refine' wpT_det (o := ⟨some 79, Op.indexAddr 22 (Operand.tmp 77) (Operand.tmp 78), 0, "l05_sparse.go:279", #[{ on := 20, ground := Ground.data }, { on := 21, ground := Ground.data }, { on := 19, ground := Ground.guard }], some (19, false)⟩) rfl (by rfl) (by rfl) (fun w' hw' => ?_) ?_; rotate_left
                        · go_simp <;> first | rfl | exact ⟨rfl, rfl⟩
                        simp only [Act.put, List.setIfInBounds_toArray, List.set_cons_zero, List.set_cons_succ]
                        refine' wpT_det (o := ⟨some 80, Op.load 2 (Operand.tmp 79), 2, "l05_sparse.go:279", #[{ on := 22, ground := Ground.data }, { on := 19, ground := Ground.guard }], some (19, false)⟩) rfl (by rfl) (by rfl) (fun w' hw' => ?_) ?_; rotate_left
                        · have c0_ := Ext.cell hw' c0; have hd1_ := Ext.cell hw' hd1; have hd2_ := Ext.cell hw' hd2; have hd3_ := Ext.cell hw' hd3; have hd4_ := Ext.cell hw' hd4; go_simp <;> first | rfl | exact ⟨rfl, rfl⟩
                        simp only [Act.put, List.setIfInBounds_toArray, List.set_cons_zero, List.set_cons_succ]
                        refine' wpT_det (o := ⟨some 81, Op.move (Operand.tmp 5), 22, "l05_sparse.go:279", #[{ on := 19, ground := Ground.guard }], some (19, false)⟩) rfl (by rfl) (by rfl) (fun w' hw' => ?_) ?_; rotate_left
                        · go_simp <;> first | rfl | exact ⟨rfl, rfl⟩
                        simp only [Act.put, List.setIfInBounds_toArray, List.set_cons_zero, List.set_cons_succ]
                        refine' wpT_det (o := ⟨some 82, Op.move (Operand.tmp 11), 2, "l05_sparse.go:279", #[{ on := 19, ground := Ground.guard }], some (19, false)⟩) rfl (by rfl) (by rfl) (fun w' hw' => ?_) ?_; rotate_left
                        · go_simp <;> first | rfl | exact ⟨rfl, rfl⟩
                        simp only [Act.put, List.setIfInBounds_toArray, List.set_cons_zero, List.set_cons_succ]
                        refine' wpT_det (o := ⟨some 83, Op.indexAddr 22 (Operand.tmp 81) (Operand.tmp 82), 0, "l05_sparse.go:279", #[{ on := 24, ground := Ground.data }, { on := 25, ground := Ground.data }, { on := 19, ground := Ground.guard }], some (19, false)⟩) rfl (by rfl) (by rfl) (fun w' hw' => ?_) ?_; rotate_left
                        · go_simp <;> first | rfl | exact ⟨rfl, rfl⟩
                        simp only [Act.put, List.setIfInBounds_toArray, List.set_cons_zero, List.set_cons_succ]
                        refine' wpT_det (o := ⟨some 84, Op.load 2 (Operand.tmp 83), 2, "l05_sparse.go:279", #[{ on := 26, ground := Ground.data }, { on := 19, ground := Ground.guard }], some (19, false)⟩) rfl (by rfl) (by rfl) (fun w' hw' => ?_) ?_; rotate_left
                        · have c0_ := Ext.cell hw' c0; have hd1_ := Ext.cell hw' hd1; have hd2_ := Ext.cell hw' hd2; have hd3_ := Ext.cell hw' hd3; have hd4_ := Ext.cell hw' hd4; go_simp <;> first | rfl | exact ⟨rfl, rfl⟩
                        simp only [Act.put, List.setIfInBounds_toArray, List.set_cons_zero, List.set_cons_succ]
                        refine' wpT_det (o := ⟨some 85, Op.binOp BinOp.lss 2 (Operand.tmp 80) (Operand.tmp 84) 2, 4, "l05_sparse.go:279", #[{ on := 23, ground := Ground.data }, { on := 27, ground := Ground.data }, { on := 19, ground := Ground.guard }], some (19, false)⟩) rfl (by rfl) (by rfl) (fun w' hw' => ?_) ?_; rotate_left
                        · go_simp <;> first | rfl | exact ⟨rfl, rfl⟩
                        simp only [Act.put, List.setIfInBounds_toArray, List.set_cons_zero, List.set_cons_succ]
                        refine' wpT_det (o := ⟨some 86, Op.pick (Operand.tmp 76) (Operand.const (Value.bool true)) (Operand.tmp 85), 4, "l05_sparse.go:279", #[{ on := 19, ground := Ground.data }, { on := 28, ground := Ground.data }, { on := 16, ground := Ground.guard }], some (16, true)⟩) rfl (by rfl) (by rfl) (fun w' hw' => ?_) ?_; rotate_left
                        · go_simp <;> first | rfl | exact ⟨rfl, rfl⟩
                        simp only [Act.put, List.setIfInBounds_toArray, List.set_cons_zero, List.set_cons_succ]
                        refine' wpT_det (o := ⟨some 87, Op.pick (Operand.tmp 73) (Operand.tmp 86) (Operand.const (Value.bool false)), 4, "l05_sparse.go:279", #[{ on := 16, ground := Ground.data }, { on := 29, ground := Ground.data }], none⟩) rfl (by rfl) (by rfl) (fun w' hw' => ?_) ?_; rotate_left
                        · go_simp <;> first | rfl | exact ⟨rfl, rfl⟩
                        simp only [Act.put, List.setIfInBounds_toArray, List.set_cons_zero, List.set_cons_succ]
                        refine wpT_nil (fun w5 hw' hF => ?_)
                        refine wpList_nil ?_
                        have hx5 := hw'.undrew
                        go_wp2_with fail
                        go_roundw
                        case rel => exact ⟨k + 1, by omega, by go_num, by rw [HF2.out], hy.trans hx5⟩
                        case measure => simp [intOf]; omega
              · obtain rfl : k = N := by omega
                replace oo := oo.ext hy
                replace oi := oi.ext hy
                replace W := W.trans (Wr.of_ext hy _)
                clear hy o1B oDB
                by_cases hpn : p < nl
                · have hyN := HYN.out hpn
                  have hap := HAP.out hpn
                  have HAP1 := Lib.hid hap
                  rw [HPK1.out hpn]
                  simp only [lowI]
                  have hyI : (y : Int) < k := by omega
                  have hy0 : ¬ (y : Int) < 0 := by omega
                  obtain ⟨hc, hf⟩ := oi.at_ y hyN
                  rw [bools_get (by rw [gnL_length]; exact hyN)] at hc
                  have hsb := store_bool Try.prog true hc hf
                  obtain ⟨s1, s2⟩ := oi.stored y (.bool true)
                  rw [← bools_set, gnL_snoc LP hyN] at s1
                  have oo2 := oo.other s2 (oo.apart oi (by decide)).1
                  have W2 := W.trans s2
                  clear hap
                  go_upto_region 23 with (fail)
                  obtain ⟨w6, hw6⟩ : ∃ v : World, v = wC.setCell ⟨g2, y, none⟩ (.bool true) := ⟨_, rfl⟩
                  rw [← hw6] at s1 oo2 W2
                  rw [← hw6]
                  clear hw6 s2 hsb hc hf oo oi W
                  have xg : Ext w6 (w6.alloc (.cells #[.int .i64 y] 2)) := (Ext.refl _).alloc _
                  have ho' := oo2.ext xg
                  have hl := oo2.len
                  have hsz := W2.size
                  go_wp2_with (at_builtin; go_loud (refine wpList_app1 rfl _ _ _ rfl (w6.alloc (.cells #[.int .i64 y] 2)) w4.heap.size 2 (.int .i64 0) 8 Try.underlying22 info_i64 rfl (by decide) (.slice A4 (lc + p) c4) (ints (natI LP)) rfl w6.heap.size (.int .i64 y) rfl (One.new _ _ _) ho' rfl (by omega) (by simp; omega) ?_); rw [hl]; intro A' c' w9 h5 h6 h7)
                  go_roundg (nl - (p + 1))
                  case measure => omega
                  case rel =>
                    refine ⟨p + 1, A', c', by omega, rfl, ?_, ?_, (W2.trans (Wr.of_ext xg _)).new h6 ho'⟩
                    · rw [HAP1.out, natI_append, ints_append]
                      exact h5
                    · rw [HAP1.out]
                      exact (s1.ext xg).other h6 ((s1.ext xg).apart ho' (by decide)).1
                · rw [HPE1.out hpn]
                  obtain rfl : p = nl := by omega
                  have hes := HES1.out hpn
                  rw [hes] at oo oi
                  clear hes
                  simp only [lowI]
                  go_wp2_with fail
                  go_roundg (k - (t + 1))
                  case measure => omega
                  case rel => exact ⟨t + 1, lc + p, A4, c4, by omega, by go_num, rfl, HLEN, oo, oi, W⟩
        · have hteI : ((t : Int) == (l : Int)) = false := by rw [beq_eq_false_iff_ne]; omega
          have HLc : Hid ((bsSt N G t).L = (bsSt N G t).more N G) := by show _ = _; rw [bs_more_lt (by rw [bsSt_at, HLN.out]; omega)]
          obtain ⟨Lc, hLc⟩ : ∃ Lc, Lc = (bsSt N G t).L := ⟨_, rfl⟩
          have HLL : Hid (Lc.length = l) := by show _ = _; rw [hLc]; exact HLN.out
          have HLc2 : Hid (Lc = (bsSt N G t).more N G) := by show _ = _; rw [hLc]; exact HLc.out
          rw [← hLc] at oo oi
          clear hLc HLc HLN
          have HLc := HLc2
          clear HLc2
          go_upto_region 13 with (fail)
          clear c0
          obtain ⟨lc, hlc⟩ : ∃ lc, lc = l := ⟨_, rfl⟩
          rw [← hlc] at oo HLL ⊢
          obtain ⟨wR, hwR⟩ : ∃ v : World, v = wA := ⟨_, rfl⟩
          rw [← hwR] at oo oi W
          rw [← hwR]
          obtain ⟨A', hA'⟩ : ∃ v, v = A3 := ⟨_, rfl⟩
          obtain ⟨c', hc'⟩ : ∃ v, v = c3 := ⟨_, rfl⟩
          rw [← hA', ← hc'] at oo
          rw [← hA', ← hc']
          clear hlc hwR hA' hc'
          obtain ⟨hrow, htl, hnext⟩ := brow htlt HLc.out HLL.out
          obtain ⟨gl, rfl, _⟩ := oo.head (by omega)
          obtain ⟨hd1, _⟩ := oo.at_ t htl
          rw [ints_nat_get (by rw [HLL.out]; exact htl)] at hd1
          obtain ⟨r, hr'⟩ : ∃ r, r = Lc.getD t 0 := ⟨_, rfl⟩
          rw [← hr'] at hrow hd1
          obtain ⟨nl, hnl⟩ : ∃ nl, (srt (degB N G) (nxt N G Lc r)).length = nl := ⟨_, rfl⟩
          obtain ⟨hlnN, hlen2, hes⟩ := hnext r nl hr' hnl
          have hPK := fun p (hp : p < nl) => pick_at (N := N) (r := r) (G := G) (Lc := Lc) (p := p) (by rw [hnl]; exact hp)
          have hPE := pick_end (N := N) (r := r) (G := G) (Lc := Lc)
          have hSN := srt_lt (N := N) (r := r) (G := G) (Lc := Lc)
          obtain ⟨S, hS⟩ : ∃ S, S = srt (degB N G) (nxt N G Lc r) := ⟨_, rfl⟩
          rw [← hS] at hnl hes hPE hSN
          have HPK : Hid (∀ p, p < nl → lowB (degB N G) (lsB N fun k => G r k && notIn (Lc ++ S.take p) k) = some (S.getD p 0)) := by show ∀ p, _; intro p hp; rw [hS]; exact hPK p hp
          have HPE := Lib.hid hPE
          have HSN := Lib.hid hSN
          have HNL := Lib.hid hnl
          have HLEN := Lib.hid hlen2
          have HES := Lib.hid hes
          have hrI : (r : Int) < N := by omega
          have htI : (t : Int) < lc := by omega
          clear hr' hnl hnext hS hPK hPE hSN hlen2 hes HLL HLc
          have gt1 : IntKind.i64.wrap ((t : Int) + 1) = (t : Int) + 1 := IntWalk.i64_in _ (by omega)
          have oo0 : Own wR w4.heap.size 2 (.slice (some ⟨gl, 0, none⟩) (lc + 0) c') (ints (natI (Lc ++ S.take 0))) := by rw [List.take_zero, List.append_nil]; exact oo
          have oi0 : Own wR w1.heap.size 4 (.slice (some ⟨g2, 0, none⟩) N N) (bools (gnL N fun a => !notIn (Lc ++ S.take 0) a)) := by rw [List.take_zero, List.append_nil]; exact oi
          go_wp2_with fail
          clear hd1 oo oi
          go_loopg [7] nl (fun k u wr => ∃ (p : Nat) (A : Option Addr) (c : Nat), p + k = nl ∧ u = .slice A (lc + p) c ∧ Own wr w4.heap.size 2 (.slice A (lc + p) c) (ints (natI (Lc ++ S.take p))) ∧ Own wr w1.heap.size 4 (.slice (some ⟨g2, 0, none⟩) N N) (bools (gnL N fun a => !notIn (Lc ++ S.take p) a)) ∧ Wr w4 wr (.slice (some ⟨g2, 0, none⟩) N N))
          case atStart => exact ⟨0, _, _, by omega, rfl, oo0, oi0, W⟩
          case round =>
            rename World => wB
            clear oo0 oi0 W
            obtain ⟨p, A4, c4, hpk, rfl, oo, oi, W⟩ := hrel
            have hpl : p ≤ nl := by omega
            have c0 : wB.cell? ⟨w.heap.size, 0, none⟩ = some (.int .i64 N) := (bb.wr W o2 (by decide)).cell 0 rfl
            have o1B := o1.other W (.inr (by show some g1 ≠ some g2; simpa using HNE.out))
            have oDB := oD.other W (oD.apart o2 (by decide)).1
            have hPK := HPK.out p
            have hPE : ¬ p < nl → lowB (degB N G) (lsB N fun k => G r k && notIn (Lc ++ S.take p) k) = none := by
              intro h
              have e : S.take p = S := List.take_of_length_le (by rw [HNL.out]; omega)
              rw [e]
              exact HPE.out
            have hTK : p < nl → S.take (p + 1) = S.take p ++ [S.getD p 0] := fun h => takeS_next (by rw [HNL.out]; exact h)
            have hES : ¬ p < nl → Lc ++ S.take p = (bsSt N G (t + 1)).L := by
              intro h
              have e : S.take p = S := List.take_of_length_le (by rw [HNL.out]; omega)
              rw [e]
              exact HES.out
            have hAP : p < nl → Lc ++ S.take (p + 1) = (Lc ++ S.take p) ++ [S.getD p 0] := fun h => by rw [hTK h, List.append_assoc]
            have hyN : p < nl → S.getD p 0 < N := fun h => HSN.out _ (by rw [List.getD_eq_getElem?_getD, List.getElem?_eq_getElem (by rw [HNL.out]; exact h)]; exact List.getElem_mem _)
            obtain ⟨LP, hLP⟩ : ∃ LP, LP = Lc ++ S.take p := ⟨_, rfl⟩
            rw [← hLP] at oo oi hPK hPE hES hAP
            obtain ⟨y, hy'⟩ : ∃ y, y = S.getD p 0 := ⟨_, rfl⟩
            rw [← hy'] at hPK hAP hyN
            obtain ⟨f, hff⟩ : ∃ f : Nat → Bool, f = fun k => G r k && notIn LP k := ⟨_, rfl⟩
            have HF : Hid (∀ k, f k = (G r k && notIn LP k)) := by show ∀ k, _; intro k; rw [hff]
            rw [← hff] at hPK hPE
            have HPK1 := Lib.hid hPK
            have HPE1 := Lib.hid hPE
            have HES1 := Lib.hid hES
            have HAP := Lib.hid hAP
            have HYN := Lib.hid hyN
            clear hLP hy' hff hPK hPE hTK hES hAP hyN
            go_wp2_with fail
            go_loopw [11, 12] (fun u v wr => ∃ k : Nat, k ≤ N ∧ v = .int .i64 k ∧ u = .int .i64 (lowI (lowB (degB N G) (lsB k f))) ∧ Ext wB wr) (fun _ v _ => N - (intOf v).toNat)
            case atStart => exact ⟨0, Nat.zero_le _, rfl, rfl, Ext.refl _⟩
            case round =>
              rename World => wC
              obtain ⟨k, hkN, rfl, rfl, hy⟩ := hrel
              replace c0 := hy.cell c0
              by_cases hlk : k < N
              · obtain ⟨i1, i2, i3, i4, i5, i6⟩ := ix32 hrow hlk hn32
                rw [← HNN.out] at i4 i6
                have i7 : r * N + k < NN := by omega
                have g4 : IntKind.i64.wrap ((k : Int) + 1) = (k : Int) + 1 := IntWalk.i64_in _ (by omega)
                have hkI : (k : Int) < N := by omega
                have hd1 := ((o1B.ext hy).at_ (r * N + k) i7).1
                have hd2 := ((oi.ext hy).at_ k hlk).1
                have hd3 := ((oDB.ext hy).at_ k hlk).1
                rw [bools_get (by rw [gb_length, ← HNN.out]; exact i7), gb_at _ hrow hlk] at hd1
                rw [bools_get (by rw [gnL_length]; exact hlk), gnL_at _ hlk] at hd2
                rw [ints_nat_get (by unfold degL; rw [dgk_len]; exact hlk), show (degL N G).getD k 0 = degB N G k by simp [degL, dgk, hlk]] at hd3
                have hFk := HF.out k
                have hmem : ∀ m, lowB (degB N G) (lsB k f) = some m → m < k := by
                  intro m hm
                  rcases lowB_spec (deg := degB N G) (lsB_sorted k f) with ⟨_, h⟩ | ⟨r', h, hr', _⟩
                  · rw [hm] at h; cases h
                  · rw [hm] at h
                    obtain rfl := Option.some.inj h
                    exact (lsB_mem.1 hr').1
                cases b1 : G r k with
                | false =>
                  rw [b1] at hd1 hFk
                  have HE := Lib.hid (lsB_no (f := f) hFk)
                  obtain ⟨z, hz⟩ : ∃ z, z = lowI (lowB (degB N G) (lsB k f)) := ⟨_, rfl⟩
                  rw [← HE.out] at hz
                  rw [← HE.out, ← hz]
                  have HZ := Lib.hid hz
                  clear hz hFk hmem b1 hd2 hd3
                  go_wp2_with fail
                  refine wp_region_T (cs := []) [0, 1, 2, 3, 4, 5, 6, 7, 8, 9, 10, 11, 12, 13, 14, 15, 16, 17, 18, 19, 20, 21, 22, 23, 24, 25, 26, 27, 28, 29, 30] [] [] [] (fun _ _ => False) (fun _ _ _ => True) (by kernel_rfl) (by kernel_rfl) (fun _ _ _ _ _ _ => trivial) ?_
                  refine' wpT_det (o := ⟨some 57, Op.move (Operand.tmp 4), 69, "l05_sparse.go:279", #[], none⟩) rfl (by rfl) (by rfl) (fun w' hw' => ?_) ?_; rotate_left
                  · go_simp <;> first | rfl | exact ⟨rfl, rfl⟩
                  simp only [Act.put, List.setIfInBounds_toArray, List.set_cons_zero, List.set_cons_succ]
                  refine' wpT_det (o := ⟨some 58, Op.move (Operand.tmp 10), 2, "l05_sparse.go:279", #[], none⟩) rfl (by rfl) (by rfl) (fun w' hw' => ?_) ?_; rotate_left
                  · go_simp <;> first | rfl | exact ⟨rfl, rfl⟩
                  simp only [Act.put, List.setIfInBounds_toArray, List.set_cons_zero, List.set_cons_succ]
                  refine' wpT_det (o := ⟨some 59, Op.fieldAddr 27 (Operand.tmp 1) 0, 0, "l05_sparse.go:279", #[], none⟩) rfl (by rfl) (by rfl) (fun w' hw' => ?_) ?_; rotate_left
                  · go_simp <;> first | rfl | exact ⟨rfl, rfl⟩
                  simp only [Act.put, List.setIfInBounds_toArray, List.set_cons_zero, List.set_cons_succ]
                  refine' wpT_det (o := ⟨some 60, Op.load 2 (Operand.tmp 59), 2, "l05_sparse.go:279", #[{ on := 2, ground := Ground.data }], none⟩) rfl (by rfl) (by rfl) (fun w' hw' => ?_) ?_; rotate_left
                  · have c0_ := Ext.cell hw' c0; have hd1_ := Ext.cell hw' hd1; go_simp <;> first | rfl | exact ⟨rfl, rfl⟩
                  simp only [Act.put, List.setIfInBounds_toArray, List.set_cons_zero, List.set_cons_succ]
                  refine' wpT_det (o := ⟨some 61, Op.binOp BinOp.mul 2 (Operand.tmp 58) (Operand.tmp 60) 2, 2, "l05_sparse.go:279", #[{ on := 1, ground := Ground.data }, { on := 3, ground := Ground.data }], none⟩) rfl (by rfl) (by rfl) (fun w' hw' => ?_) ?_; rotate_left
                  · go_simp <;> first | rfl | exact ⟨rfl, rfl⟩
                  simp only [Act.put, List.setIfInBounds_toArray, List.set_cons_zero, List.set_cons_succ]
                  refine' wpT_det (o := ⟨some 62, Op.move (Operand.tmp 12), 2, "l05_sparse.go:279", #[], none⟩) rfl (by rfl) (by rfl) (fun w' hw' => ?_) ?_; rotate_left
                  · go_simp <;> first | rfl | exact ⟨rfl, rfl⟩
                  simp only [Act.put, List.setIfInBounds_toArray, List.set_cons_zero, List.set_cons_succ]
                  refine' wpT_det (o := ⟨some 63, Op.binOp BinOp.add 2 (Operand.tmp 61) (Operand.tmp 62) 2, 2, "l05_sparse.go:279", #[{ on := 4, ground := Ground.data }, { on := 5, ground := Ground.data }], none⟩) rfl (by rfl) (by rfl) (fun w' hw' => ?_) ?_; rotate_left
                  · go_simp <;> first | rfl | exact ⟨rfl, rfl⟩
                  simp only [Act.put, List.setIfInBounds_toArray, List.set_cons_zero, List.set_cons_succ]
                  refine' wpT_det (o := ⟨some 64, Op.indexAddr 69 (Operand.tmp 57) (Operand.tmp 63), 0, "l05_sparse.go:279", #[{ on := 0, ground := Ground.data }, { on := 6, ground := Ground.data }], none⟩) rfl (by rfl) (by rfl) (fun w' hw' => ?_) ?_; rotate_left
                  · go_simp <;> first | rfl | exact ⟨rfl, rfl⟩
                  simp only [Act.put, List.setIfInBounds_toArray, List.set_cons_zero, List.set_cons_succ]
                  refine' wpT_det (o := ⟨some 65, Op.load 4 (Operand.tmp 64), 4, "l05_sparse.go:279", #[{ on := 7, ground := Ground.data }], none⟩) rfl (by rfl) (by rfl) (fun w' hw' => ?_) ?_; rotate_left
                  · have c0_ := Ext.cell hw' c0; have hd1_ := Ext.cell hw' hd1; go_simp <;> first | rfl | exact ⟨rfl, rfl⟩
                  simp only [Act.put, List.setIfInBounds_toArray, List.set_cons_zero, List.set_cons_succ]
                  refine' wpT_det (o := ⟨some 66, Op.move (Operand.tmp 65), 4, "l05_sparse.go:279", #[{ on := 8, ground := Ground.data }], none⟩) rfl (by rfl) (by rfl) (fun w' hw' => ?_) ?_; rotate_left
                  · go_simp <;> first | rfl | exact ⟨rfl, rfl⟩
                  simp only [Act.put, List.setIfInBounds_toArray, List.set_cons_zero, List.set_cons_succ]
                  refine wpT_skip (o := ⟨some 67, Op.move (Operand.tmp 6), 69, "l05_sparse.go:279", #[{ on := 9, ground := Ground.guard }], some (9, true)⟩) rfl (by rfl) ?_
                  simp only [Act.put, List.setIfInBounds_toArray, List.set_cons_zero, List.set_cons_succ]
                  refine wpT_skip (o := ⟨some 68, Op.move (Operand.tmp 12), 2, "l05_sparse.go:279", #[{ on := 9, ground := Ground.guard }], some (9, true)⟩) rfl (by rfl) ?_
                  simp only [Act.put, List.setIfInBounds_toArray, List.set_cons_zero, List.set_cons_succ]
                  refine wpT_skip (o := ⟨some 69, Op.indexAddr 69 (Operand.tmp 67) (Operand.tmp 68), 0, "l05_sparse.go:279", #[{ on := 10, ground := Ground.data }, { on := 11, ground := Ground.data }, { on := 9, ground := Ground.guard }], some (9, true)⟩) rfl (by rfl) ?_
                  simp only [Act.put, List.setIfInBounds_toArray, List.set_cons_zero, List.set_cons_succ]
                  refine wpT_skip (o := ⟨some 70, Op.load 4 (Operand.tmp 69), 4, "l05_sparse.go:279", #[{ on := 12, ground := Ground.data }, { on := 9, ground := Ground.guard }], some (9, true)⟩) rfl (by rfl) ?_
                  simp only [Act.put, List.setIfInBounds_toArray, List.set_cons_zero, List.set_cons_succ]
                  refine wpT_skip (o := ⟨some 71, Op.unOp UnOp.not 4 (Operand.tmp 70), 4, "l05_sparse.go:279", #[{ on := 13, ground := Ground.data }, { on := 9, ground := Ground.guard }], some (9, true)⟩) rfl (by rfl) ?_
                  simp only [Act.put, List.setIfInBounds_toArray, List.set_cons_zero, List.set_cons_succ]
                  refine' wpT_det (o := ⟨some 72, Op.pick (Operand.tmp 66) (Operand.tmp 71) (Operand.const (Value.bool false)), 4, "l05_sparse.go:279", #[{ on := 9, ground := Ground.data }, { on := 14, ground := Ground.data }], none⟩) rfl (by rfl) (by rfl) (fun w' hw' => ?_) ?_; rotate_left
                  · go_simp <;> first | rfl | exact ⟨rfl, rfl⟩
                  simp only [Act.put, List.setIfInBounds_toArray, List.set_cons_zero, List.set_cons_succ]
                  refine' wpT_det (o := ⟨some 73, Op.move (Operand.tmp 72), 4, "l05_sparse.go:279", #[{ on := 15, ground := Ground.data }, { on := 9, ground := Ground.chain }], none⟩) rfl (by rfl) (by rfl) (fun w' hw' => ?_) ?_; rotate_left
                  · go_simp <;> first | rfl | exact ⟨rfl, rfl⟩
                  simp only [Act.put, List.setIfInBounds_toArray, List.set_cons_zero, List.set_cons_succ]
                  refine wpT_skip (o := ⟨some 74, Op.move (Operand.tmp 11), 2, "l05_sparse.go:279", #[{ on := 16, ground := Ground.guard }], some (16, true)⟩) rfl (by rfl) ?_
                  simp only [Act.put, List.setIfInBounds_toArray, List.set_cons_zero, List.set_cons_succ]
                  refine wpT_skip (o := ⟨some 75, Op.binOp BinOp.lss 2 (Operand.tmp 74) (Operand.const (Value.int IntKind.i64 0)) 2, 4, "l05_sparse.go:279", #[{ on := 17, ground := Ground.data }, { on := 16, ground := Ground.guard }], some (16, true)⟩) rfl (by rfl) ?_
                  simp only [Act.put, List.setIfInBounds_toArray, List.set_cons_zero, List.set_cons_succ]
                  refine wpT_skip (o := ⟨some 76, Op.move (Operand.tmp 75), 4, "l05_sparse.go:279", #[{ on := 18, ground := Ground.data }, { on := 16, ground := Ground.chain }, { on := 16, ground := Ground.guard }], some (16, true)⟩) rfl (by rfl) ?_
                  simp only [Act.put, List.setIfInBounds_toArray, List.set_cons_zero, List.set_cons_succ]
                  refine wpT_skip (o := ⟨some 77, Op.move (Operand.tmp 5), 22, "l05_sparse.go:279", #[{ on := 19, ground := Ground.guard }], some (19, false)⟩) rfl (by rfl) ?_
                  simp only [Act.put, List.setIfInBounds_toArray, List.set_cons_zero, List.set_cons_succ]
                  refine wpT_skip (o := ⟨some 78, Op.move (Operand.tmp 12), 2, "l05_sparse.go:279", #[{ on := 19, ground := Ground.guard }], some (19, false)⟩) rfl (by rfl) ?_
                  simp only [Act.put, List.setIfInBounds_toArray, List.set_cons_zero, List.set_cons_succ]
                  refine wpT_skip (o := ⟨some 79, Op.indexAddr 22 (Operand.tmp 77) (Operand.tmp 78), 0, "l05_sparse.go:279", #[{ on := 20, ground := Ground.data }, { on := 21, ground := Ground.data }, { on := 19, ground := Ground.guard }], some (19, false)⟩) rfl (by rfl) ?_
                  simp only [Act.put, List.setIfInBounds_toArray, List.set_cons_zero, List.set_cons_succ]
                  refine wpT_skip (o := ⟨some 80, Op.load 2 (Operand.tmp 79), 2, "l05_sparse.go:279", #[{ on := 22, ground := Ground.data }, { on := 19, ground := Ground.guard }], some (19, false)⟩) rfl (by rfl) ?_
                  simp only [Act.put, List.setIfInBounds_toArray, List.set_cons_zero, List.set_cons_succ]
                  refine wpT_skip (o := ⟨some 81, Op.move (Operand.tmp 5), 22, "l05_sparse.go:279", #[{ on := 19, ground := Ground.guard }], some (19, false)⟩) rfl (by rfl) ?_
                  simp only [Act.put, List.setIfInBounds_toArray, List.set_cons_zero, List.set_cons_succ]
                  refine wpT_skip (o := ⟨some 82, Op.move (Operand.tmp 11), 2, "l05_sparse.go:279", #[{ on := 19, ground := Ground.guard }], some (19, false)⟩) rfl (by rfl) ?_
                  simp only [Act.put, List.setIfInBounds_toArray, List.set_cons_zero, List.set_cons_succ]
                  refine wpT_skip (o := ⟨some 83, Op.indexAddr 22 (Operand.tmp 81) (Operand.tmp 82), 0, "l05_sparse.go:279", #[{ on := 24, ground := Ground.data }, { on := 25, ground := Ground.data }, { on := 19, ground := Ground.guard }], some (19, false)⟩) rfl (by rfl) ?_
                  simp only [Act.put, List.setIfInBounds_toArray, List.set_cons_zero, List.set_cons_succ]
                  refine wpT_skip (o := ⟨some 84, Op.load 2 (Operand.tmp 83), 2, "l05_sparse.go:279", #[{ on := 26, ground := Ground.data }, { on := 19, ground := Ground.guard }], some (19, false)⟩) rfl (by rfl) ?_
                  simp only [Act.put, List.setIfInBounds_toArray, List.set_cons_zero, List.set_cons_succ]
                  refine wpT_skip (o := ⟨some 85, Op.binOp BinOp.lss 2 (Operand.tmp 80) (Operand.tmp 84) 2, 4, "l05_sparse.go:279", #[{ on := 23, ground := Ground.data }, { on := 27, ground := Ground.data }, { on := 19, ground := Ground.guard }], some (19, false)⟩) rfl (by rfl) ?_
                  simp only [Act.put, List.setIfInBounds_toArray, List.set_cons_zero, List.set_cons_succ]
                  refine wpT_skip (o := ⟨some 86, Op.pick (Operand.tmp 76) (Operand.const (Value.bool true)) (Operand.tmp 85), 4, "l05_sparse.go:279", #[{ on := 19, ground := Ground.data }, { on := 28, ground := Ground.data }, { on := 16, ground := Ground.guard }], some (16, true)⟩) rfl (by rfl) ?_
                  simp only [Act.put, List.setIfInBounds_toArray, List.set_cons_zero, List.set_cons_succ]
                  refine' wpT_det (o := ⟨some 87, Op.pick (Operand.tmp 73) (Operand.tmp 86) (Operand.const (Value.bool false)), 4, "l05_sparse.go:279", #[{ on := 16, ground := Ground.data }, { on := 29, ground := Ground.data }], none⟩) rfl (by rfl) (by rfl) (fun w' hw' => ?_) ?_; rotate_left
                  · go_simp <;> first | rfl | exact ⟨rfl, rfl⟩
                  simp only [Act.put, List.setIfInBounds_toArray, List.set_cons_zero, List.set_cons_succ]
                  refine wpT_nil (fun w5 hw' hF => ?_)
                  refine wpList_nil ?_
                  have hx5 := hw'.undrew
                  go_wp2_with fail
                  go_roundw
                  case rel => exact ⟨k + 1, by omega, by go_num, by rw [HZ.out], hy.trans hx5⟩
                  case measure => simp [intOf]; omega
                | true =>
                  rw [b1] at hd1 hFk
                  cases b2 : notIn LP k with
                  | false =>
                    rw [b2] at hd2 hFk
                    simp only [Bool.not_false] at hd2
                    have HE := Lib.hid (lsB_no (f := f) hFk)
                    obtain ⟨z, hz⟩ : ∃ z, z = lowI (lowB (degB N G) (lsB k f)) := ⟨_, rfl⟩
                    rw [← HE.out] at hz
                    rw [← HE.out, ← hz]
                    have HZ := Lib.hid hz
                    clear hz hFk hmem b1 b2 hd3
                    go_wp2_with fail
                    refine wp_region_T (cs := []) [0, 1, 2, 3, 4, 5, 6, 7, 8, 9, 10, 11, 12, 13, 14, 15, 16, 17, 18, 19, 20, 21, 22, 23, 24, 25, 26, 27, 28, 29, 30] [] [] [] (fun _ _ => False) (fun _ _ _ => True) (by kernel_rfl) (by kernel_rfl) (fun _ _ _ _ _ _ => trivial) ?_
                    refine' wpT_det (o := ⟨some 57, Op.move (Operand.tmp 4), 69, "l05_sparse.go:279", #[], none⟩) rfl (by rfl) (by rfl) (fun w' hw' => ?_) ?_; rotate_left
                    · go_simp <;> first | rfl | exact ⟨rfl, rfl⟩
                    simp only [Act.put, List.setIfInBounds_toArray, List.set_cons_zero, List.set_cons_succ]
                    refine' wpT_det (o := ⟨some 58, Op.move (Operand.tmp 10), 2, "l05_sparse.go:279", #[], none⟩) rfl (by rfl) (by rfl) (fun w' hw' => ?_) ?_; rotate_left
                    · go_simp <;> first | rfl | exact ⟨rfl, rfl⟩
                    simp only [Act.put, List.setIfInBounds_toArray, List.set_cons_zero, List.set_cons_succ]
                    refine' wpT_det (o := ⟨some 59, Op.fieldAddr 27 (Operand.tmp 1) 0, 0, "l05_sparse.go:279", #[], none⟩) rfl (by rfl) (by rfl) (fun w' hw' => ?_) ?_; rotate_left
                    · go_simp <;> first | rfl | exact ⟨rfl, rfl⟩
                    simp only [Act.put, List.setIfInBounds_toArray, List.set_cons_zero, List.set_cons_succ]
                    refine' wpT_det (o := ⟨some 60, Op.load 2 (Operand.tmp 59), 2, "l05_sparse.go:279", #[{ on := 2, ground := Ground.data }], none⟩) rfl (by rfl) (by rfl) (fun w' hw' => ?_) ?_; rotate_left
                    · have c0_ := Ext.cell hw' c0; have hd1_ := Ext.cell hw' hd1; have hd2_ := Ext.cell hw' hd2; go_simp <;> first | rfl | exact ⟨rfl, rfl⟩
                    simp only [Act.put, List.setIfInBounds_toArray, List.set_cons_zero, List.set_cons_succ]
                    refine' wpT_det (o := ⟨some 61, Op.binOp BinOp.mul 2 (Operand.tmp 58) (Operand.tmp 60) 2, 2, "l05_sparse.go:279", #[{ on := 1, ground := Ground.data }, { on := 3, ground := Ground.data }], none⟩) rfl (by rfl) (by rfl) (fun w' hw' => ?_) ?_; rotate_left
                    · go_simp <;> first | rfl | exact ⟨rfl, rfl⟩
                    simp only [Act.put, List.setIfInBounds_toArray, List.set_cons_zero, List.set_cons_succ]
                    refine' wpT_det (o := ⟨some 62, Op.move (Operand.tmp 12), 2, "l05_sparse.go:279", #[], none⟩) rfl (by rfl) (by rfl) (fun w' hw' => ?_) ?_; rotate_left
                    · go_simp <;> first | rfl | exact ⟨rfl, rfl⟩
                    simp only [Act.put, List.setIfInBounds_toArray, List.set_cons_zero, List.set_cons_succ]
                    refine' wpT_det (o := ⟨some 63, Op.binOp BinOp.add 2 (Operand.tmp 61) (Operand.tmp 62) 2, 2, "l05_sparse.go:279", #[{ on := 4, ground := Ground.data }, { on := 5, ground := Ground.data }], none⟩) rfl (by rfl) (by rfl) (fun w' hw' => ?_) ?_; rotate_left
                    · go_simp <;> first | rfl | exact ⟨rfl, rfl⟩
                    simp only [Act.put, List.setIfInBounds_toArray, List.set_cons_zero, List.set_cons_succ]
                    refine' wpT_det (o := ⟨some 64, Op.indexAddr 69 (Operand.tmp 57) (Operand.tmp 63), 0, "l05_sparse.go:279", #[{ on := 0, ground := Ground.data }, { on := 6, ground := Ground.data }], none⟩) rfl (by rfl) (by rfl) (fun w' hw' => ?_) ?_; rotate_left
                    · go_simp <;> first | rfl | exact ⟨rfl, rfl⟩
                    simp only [Act.put, List.setIfInBounds_toArray, List.set_cons_zero, List.set_cons_succ]
                    refine' wpT_det (o := ⟨some 65, Op.load 4 (Operand.tmp 64), 4, "l05_sparse.go:279", #[{ on := 7, ground := Ground.data }], none⟩) rfl (by rfl) (by rfl) (fun w' hw' => ?_) ?_; rotate_left
                    · have c0_ := Ext.cell hw' c0; have hd1_ := Ext.cell hw' hd1; have hd2_ := Ext.cell hw' hd2; go_simp <;> first | rfl | exact ⟨rfl, rfl⟩
                    simp only [Act.put, List.setIfInBounds_toArray, List.set_cons_zero, List.set_cons_succ]
                    refine' wpT_det (o := ⟨some 66, Op.move (Operand.tmp 65), 4, "l05_sparse.go:279", #[{ on := 8, ground := Ground.data }], none⟩) rfl (by rfl) (by rfl) (fun w' hw' => ?_) ?_; rotate_left
                    · go_simp <;> first | rfl | exact ⟨rfl, rfl⟩
                    simp only [Act.put, List.setIfInBounds_toArray, List.set_cons_zero, List.set_cons_succ]
                    refine' wpT_det (o := ⟨some 67, Op.move (Operand.tmp 6), 69, "l05_sparse.go:279", #[{ on := 9, ground := Ground.guard }], some (9, true)⟩) rfl (by rfl) (by rfl) (fun w' hw' => ?_) ?_; rotate_left
                    · go_simp <;> first | rfl | exact ⟨rfl, rfl⟩
                    simp only [Act.put, List.setIfInBounds_toArray, List.set_cons_zero, List.set_cons_succ]
                    refine' wpT_det (o := ⟨some 68, Op.move (Operand.tmp 12), 2, "l05_sparse.go:279", #[{ on := 9, ground := Ground.guard }], some (9, true)⟩) rfl (by rfl) (by rfl) (fun w' hw' => ?_) ?_; rotate_left
                    · go_simp <;> first | rfl | exact ⟨rfl, rfl⟩
                    simp only [Act.put, List.setIfInBounds_toArray, List.set_cons_zero, List.set_cons_succ]
                    refine' wpT_det (o := ⟨some 69, Op.indexAddr 69 (Operand.tmp 67) (Operand.tmp 68), 0, "l05_sparse.go:279", #[{ on := 10, ground := Ground.data }, { on := 11, ground := Ground.data }, { on := 9, ground := Ground.guard }], some (9, true)⟩) rfl (by rfl) (by rfl) (fun w' hw' => ?_) ?_; rotate_left
                    · go_simp <;> first | rfl | exact ⟨rfl, rfl⟩
                    simp only [Act.put, List.setIfInBounds_toArray, List.set_cons_zero, List.set_cons_succ]
                    refine' wpT_det (o := ⟨some 70, Op.load 4 (Operand.tmp 69), 4, "l05_sparse.go:279", #[{ on := 12, ground := Ground.data }, { on := 9, ground := Ground.guard }], some (9, true)⟩) rfl (by rfl) (by rfl) (fun w' hw' => ?_) ?_; rotate_left
                    · have c0_ := Ext.cell hw' c0; have hd1_ := Ext.cell hw' hd1; have hd2_ := Ext.cell hw' hd2; go_simp <;> first | rfl | exact ⟨rfl, rfl⟩
                    simp only [Act.put, List.setIfInBounds_toArray, List.set_cons_zero, List.set_cons_succ]
                    refine' wpT_det (o := ⟨some 71, Op.unOp UnOp.not 4 (Operand.tmp 70), 4, "l05_sparse.go:279", #[{ on := 13, ground := Ground.data }, { on := 9, ground := Ground.guard }], some (9, true)⟩) rfl (by rfl) (by rfl) (fun w' hw' => ?_) ?_; rotate_left
                    · go_simp <;> first | rfl | exact ⟨rfl, rfl⟩
                    simp only [Act.put, List.setIfInBounds_toArray, List.set_cons_zero, List.set_cons_succ]
                    refine' wpT_det (o := ⟨some 72, Op.pick (Operand.tmp 66) (Operand.tmp 71) (Operand.const (Value.bool false)), 4, "l05_sparse.go:279", #[{ on := 9, ground := Ground.data }, { on := 14, ground := Ground.data }], none⟩) rfl (by rfl) (by rfl) (fun w' hw' => ?_) ?_; rotate_left
                    · go_simp <;> first | rfl | exact ⟨rfl, rfl⟩
                    simp only [Act.put, List.setIfInBounds_toArray, List.set_cons_zero, List.set_cons_succ]
                    refine' wpT_det (o := ⟨some 73, Op.move (Operand.tmp 72), 4, "l05_sparse.go:279", #[{ on := 15, ground := Ground.data }, { on := 9, ground := Ground.chain }], none⟩) rfl (by rfl) (by rfl) (fun w' hw' => ?_) ?_; rotate_left
                    · go_simp <;> first | rfl | exact ⟨rfl, rfl⟩
                    simp only [Act.put, List.setIfInBounds_toArray, List.set_cons_zero, List.set_cons_succ]
                    refine wpT_skip (o := ⟨some 74, Op.move (Operand.tmp 11), 2, "l05_sparse.go:279", #[{ on := 16, ground := Ground.guard }], some (16, true)⟩) rfl (by rfl) ?_
                    simp only [Act.put, List.setIfInBounds_toArray, List.set_cons_zero, List.set_cons_succ]
                    refine wpT_skip (o := ⟨some 75, Op.binOp BinOp.lss 2 (Operand.tmp 74) (Operand.const (Value.int IntKind.i64 0)) 2, 4, "l05_sparse.go:279", #[{ on := 17, ground := Ground.data }, { on := 16, ground := Ground.guard }], some (16, true)⟩) rfl (by rfl) ?_
                    simp only [Act.put, List.setIfInBounds_toArray, List.set_cons_zero, List.set_cons_succ]
                    refine wpT_skip (o := ⟨some 76, Op.move (Operand.tmp 75), 4, "l05_sparse.go:279", #[{ on := 18, ground := Ground.data }, { on := 16, ground := Ground.chain }, { on := 16, ground := Ground.guard }], some (16, true)⟩) rfl (by rfl) ?_
                    simp only [Act.put, List.setIfInBounds_toArray, List.set_cons_zero, List.set_cons_succ]
                    refine wpT_skip (o := ⟨some 77, Op.move (Operand.tmp 5), 22, "l05_sparse.go:279", #[{ on := 19, ground := Ground.guard }], some (19, false)⟩) rfl (by rfl) ?_
                    simp only [Act.put, List.setIfInBounds_toArray, List.set_cons_zero, List.set_cons_succ]
                    refine wpT_skip (o := ⟨some 78, Op.move (Operand.tmp 12), 2, "l05_sparse.go:279", #[{ on := 19, ground := Ground.guard }], some (19, false)⟩) rfl (by rfl) ?_
                    simp only [Act.put, List.setIfInBounds_toArray, List.set_cons_zero, List.set_cons_succ]
                    refine wpT_skip (o := ⟨some 79, Op.indexAddr 22 (Operand.tmp 77) (Operand.tmp 78), 0, "l05_sparse.go:279", #[{ on := 20, ground := Ground.data }, { on := 21, ground := Ground.data }, { on := 19, ground := Ground.guard }], some (19, false)⟩) rfl (by rfl) ?_
                    simp only [Act.put, List.setIfInBounds_toArray, List.set_cons_zero, List.set_cons_succ]
                    refine wpT_skip (o := ⟨some 80, Op.load 2 (Operand.tmp 79), 2, "l05_sparse.go:279", #[{ on := 22, ground := Ground.data }, { on := 19, ground := Ground.guard }], some (19, false)⟩) rfl (by rfl) ?_
                    simp only [Act.put, List.setIfInBounds_toArray, List.set_cons_zero, List.set_cons_succ]
                    refine wpT_skip (o := ⟨some 81, Op.move (Operand.tmp 5), 22, "l05_sparse.go:279", #[{ on := 19, ground := Ground.guard }], some (19, false)⟩) rfl (by rfl) ?_
                    simp only [Act.put, List.setIfInBounds_toArray, List.set_cons_zero, List.set_cons_succ]
                    refine wpT_skip (o := ⟨some 82, Op.move (Operand.tmp 11), 2, "l05_sparse.go:279", #[{ on := 19, ground := Ground.guard }], some (19, false)⟩) rfl (by rfl) ?_
                    simp only [Act.put, List.setIfInBounds_toArray, List.set_cons_zero, List.set_cons_succ]
                    refine wpT_skip (o := ⟨some 83, Op.indexAddr 22 (Operand.tmp 81) (Operand.tmp 82), 0, "l05_sparse.go:279", #[{ on := 24, ground := Ground.data }, { on := 25, ground := Ground.data }, { on := 19, ground := Ground.guard }], some (19, false)⟩) rfl (by rfl) ?_
                    simp only [Act.put, List.setIfInBounds_toArray, List.set_cons_zero, List.set_cons_succ]
                    refine wpT_skip (o := ⟨some 84, Op.load 2 (Operand.tmp 83), 2, "l05_sparse.go:279", #[{ on := 26, ground := Ground.data }, { on := 19, ground := Ground.guard }], some (19, false)⟩) rfl (by rfl) ?_
                    simp only [Act.put, List.setIfInBounds_toArray, List.set_cons_zero, List.set_cons_succ]
                    refine wpT_skip (o := ⟨some 85, Op.binOp BinOp.lss 2 (Operand.tmp 80) (Operand.tmp 84) 2, 4, "l05_sparse.go:279", #[{ on := 23, ground := Ground.data }, { on := 27, ground := Ground.data }, { on := 19, ground := Ground.guard }], some (19, false)⟩) rfl (by rfl) ?_
                    simp only [Act.put, List.setIfInBounds_toArray, List.set_cons_zero, List.set_cons_succ]
                    refine wpT_skip (o := ⟨some 86, Op.pick (Operand.tmp 76) (Operand.const (Value.bool true)) (Operand.tmp 85), 4, "l05_sparse.go:279", #[{ on := 19, ground := Ground.data }, { on := 28, ground := Ground.data }, { on := 16, ground := Ground.guard }], some (16, true)⟩) rfl (by rfl) ?_
                    simp only [Act.put, List.setIfInBounds_toArray, List.set_cons_zero, List.set_cons_succ]
                    refine' wpT_det (o := ⟨some 87, Op.pick (Operand.tmp 73) (Operand.tmp 86) (Operand.const (Value.bool false)), 4, "l05_sparse.go:279", #[{ on := 16, ground := Ground.data }, { on := 29, ground := Ground.data }], none⟩) rfl (by rfl) (by rfl) (fun w' hw' => ?_) ?_; rotate_left
                    · go_simp <;> first | rfl | exact ⟨rfl, rfl⟩
                    simp only [Act.put, List.setIfInBounds_toArray, List.set_cons_zero, List.set_cons_succ]
                    refine wpT_nil (fun w5 hw' hF => ?_)
                    refine wpList_nil ?_
                    have hx5 := hw'.undrew
                    go_wp2_with fail
                    go_roundw
                    case rel => exact ⟨k + 1, by omega, by go_num, by rw [HZ.out], hy.trans hx5⟩
                    case measure => simp [intOf]; omega
                  | true =>
                    rw [b2] at hd2 hFk
                    simp only [Bool.not_true] at hd2
                    have HE : Hid (lowB (degB N G) (lsB (k + 1) f) = pick (degB N G) (lowB (degB N G) (lsB k f)) k) := by show _ = _; rw [lsB_yes hFk, lowB_snoc]
                    clear hFk b1 b2
                    cases hb : lowB (degB N G) (lsB k f) with
                    | none =>
                      rw [hb] at HE
                      have HF2 : Hid (lowB (degB N G) (lsB (k + 1) f) = some k) := HE
                      clear HE hb hmem
                      simp only [lowI]
                      go_wp2_with fail
                      refine wp_region_T (cs := []) [0, 1, 2, 3, 4, 5, 6, 7, 8, 9, 10, 11, 12, 13, 14, 15, 16, 17, 18, 19, 20, 21, 22, 23, 24, 25, 26, 27, 28, 29, 30] [] [] [] (fun _ _ => False) (fun _ _ _ => True) (by kernel_rfl) (by kernel_rfl) (fun _ _ _ _ _ _ => trivial) ?_
                      refine' wpT_det (o := ⟨some 57, Op.move (Operand.tmp 4), 69, "l05_sparse.go:279", #[], none⟩) rfl (by rfl) (by rfl) (fun w' hw' => ?_) ?_; rotate_left
                      · go_simp <;> first | rfl | exact ⟨rfl, rfl⟩
                      simp only [Act.put, List.setIfInBounds_toArray, List.set_cons_zero, List.set_cons_succ]
                      refine' wpT_det (o := ⟨some 58, Op.move (Operand.tmp 10), 2, "l05_sparse.go:279", #[], none⟩) rfl (by rfl) (by rfl) (fun w' hw' => ?_) ?_; rotate_left
                      · go_simp <;> first | rfl | exact ⟨rfl, rfl⟩
                      simp only [Act.put, List.setIfInBounds_toArray, List.set_cons_zero, List.set_cons_succ]
                      refine' wpT_det (o := ⟨some 59, Op.fieldAddr 27 (Operand.tmp 1) 0, 0, "l05_sparse.go:279", #[], none⟩) rfl (by rfl) (by rfl) (fun w' hw' => ?_) ?_; rotate_left
                      · go_simp <;> first | rfl | exact ⟨rfl, rfl⟩
                      simp only [Act.put, List.setIfInBounds_toArray, List.set_cons_zero, List.set_cons_succ]
                      refine' wpT_det (o := ⟨some 60, Op.load 2 (Operand.tmp 59), 2, "l05_sparse.go:279", #[{ on := 2, ground := Ground.data }], none⟩) rfl (by rfl) (by rfl) (fun w' hw' => ?_) ?_; rotate_left
                      · have c0_ := Ext.cell hw' c0; have hd1_ := Ext.cell hw' hd1; have hd2_ := Ext.cell hw' hd2; have hd3_ := Ext.cell hw' hd3; go_simp <;> first | rfl | exact ⟨rfl, rfl⟩
                      simp only [Act.put, List.setIfInBounds_toArray, List.set_cons_zero, List.set_cons_succ]
                      refine' wpT_det (o := ⟨some 61, Op.binOp BinOp.mul 2 (Operand.tmp 58) (Operand.tmp 60) 2, 2, "l05_sparse.go:279", #[{ on := 1, ground := Ground.data }, { on := 3, ground := Ground.data }], none⟩) rfl (by rfl) (by rfl) (fun w' hw' => ?_) ?_; rotate_left
                      · go_simp <;> first | rfl | exact ⟨rfl, rfl⟩
                      simp only [Act.put, List.setIfInBounds_toArray, List.set_cons_zero, List.set_cons_succ]
                      refine' wpT_det (o := ⟨some 62, Op.move (Operand.tmp 12), 2, "l05_sparse.go:279", #[], none⟩) rfl (by rfl) (by rfl) (fun w' hw' => ?_) ?_; rotate_left
                      · go_simp <;> first | rfl | exact ⟨rfl, rfl⟩
                      simp only [Act.put, List.setIfInBounds_toArray, List.set_cons_zero, List.set_cons_succ]
                      refine' wpT_det (o := ⟨some 63, Op.binOp BinOp.add 2 (Operand.tmp 61) (Operand.tmp 62) 2, 2, "l05_sparse.go:279", #[{ on := 4, ground := Ground.data }, { on := 5, ground := Ground.data }], none⟩) rfl (by rfl) (by rfl) (fun w' hw' => ?_) ?_; rotate_left
                      · go_simp <;> first | rfl | exact ⟨rfl, rfl⟩
                      simp only [Act.put, List.setIfInBounds_toArray, List.set_cons_zero, List.set_cons_succ]
                      refine' wpT_det (o := ⟨some 64, Op.indexAddr 69 (Operand.tmp 57) (Operand.tmp 63), 0, "l05_sparse.go:279", #[{ on := 0, ground := Ground.data }, { on := 6, ground := Ground.data }], none⟩) rfl (by rfl) (by rfl) (fun w' hw' => ?_) ?_; rotate_left
                      · go_simp <;> first | rfl | exact ⟨rfl, rfl⟩
                      simp only [Act.put, List.setIfInBounds_toArray, List.set_cons_zero, List.set_cons_succ]
                      refine' wpT_det (o := ⟨some 65, Op.load 4 (Operand.tmp 64), 4, "l05_sparse.go:279", #[{ on := 7, ground := Ground.data }], none⟩) rfl (by rfl) (by rfl) (fun w' hw' => ?_) ?_; rotate_left
                      · have c0_ := Ext.cell hw' c0; have hd1_ := Ext.cell hw' hd1; have hd2_ := Ext.cell hw' hd2; have hd3_ := Ext.cell hw' hd3; go_simp <;> first | rfl | exact ⟨rfl, rfl⟩
                      simp only [Act.put, List.setIfInBounds_toArray, List.set_cons_zero, List.set_cons_succ]
                      refine' wpT_det (o := ⟨some 66, Op.move (Operand.tmp 65), 4, "l05_sparse.go:279", #[{ on := 8, ground := Ground.data }], none⟩) rfl (by rfl) (by rfl) (fun w' hw' => ?_) ?_; rotate_left
                      · go_simp <;> first | rfl | exact ⟨rfl, rfl⟩
                      simp only [Act.put, List.setIfInBounds_toArray, List.set_cons_zero, List.set_cons_succ]
                      refine' wpT_det (o := ⟨some 67, Op.move (Operand.tmp 6), 69, "l05_sparse.go:279", #[{ on := 9, ground := Ground.guard }], some (9, true)⟩) rfl (by rfl) (by rfl) (fun w' hw' => ?_) ?_; rotate_left
                      · go_simp <;> first | rfl | exact ⟨rfl, rfl⟩
                      simp only [Act.put, List.setIfInBounds_toArray, List.set_cons_zero, List.set_cons_succ]
                      refine' wpT_det (o := ⟨some 68, Op.move (Operand.tmp 12), 2, "l05_sparse.go:279", #[{ on := 9, ground := Ground.guard }], some (9, true)⟩) rfl (by rfl) (by rfl) (fun w' hw' => ?_) ?_; rotate_left
                      · go_simp <;> first | rfl | exact ⟨rfl, rfl⟩
                      simp only [Act.put, List.setIfInBounds_toArray, List.set_cons_zero, List.set_cons_succ]
                      refine' wpT_det (o := ⟨some 69, Op.indexAddr 69 (Operand.tmp 67) (Operand.tmp 68), 0, "l05_sparse.go:279", #[{ on := 10, ground := Ground.data }, { on := 11, ground := Ground.data }, { on := 9, ground := Ground.guard }], some (9, true)⟩) rfl (by rfl) (by rfl) (fun w' hw' => ?_) ?_; rotate_left
                      · go_simp <;> first | rfl | exact ⟨rfl, rfl⟩
                      simp only [Act.put, List.setIfInBounds_toArray, List.set_cons_zero, List.set_cons_succ]
                      refine' wpT_det (o := ⟨some 70, Op.load 4 (Operand.tmp 69), 4, "l05_sparse.go:279", #[{ on := 12, ground := Ground.data }, { on := 9, ground := Ground.guard }], some (9, true)⟩) rfl (by rfl) (by rfl) (fun w' hw' => ?_) ?_; rotate_left
                      · have c0_ := Ext.cell hw' c0; have hd1_ := Ext.cell hw' hd1; have hd2_ := Ext.cell hw' hd2; have hd3_ := Ext.cell hw' hd3; go_simp <;> first | rfl | exact ⟨rfl, rfl⟩
                      simp only [Act.put, List.setIfInBounds_toArray, List.set_cons_zero, List.set_cons_succ]
                      refine' wpT_det (o := ⟨some 71, Op.unOp UnOp.not 4 (Operand.tmp 70), 4, "l05_sparse.go:279", #[{ on := 13, ground := Ground.data }, { on := 9, ground := Ground.guard }], some (9, true)⟩) rfl (by rfl) (by rfl) (fun w' hw' => ?_) ?_; rotate_left
                      · go_simp <;> first | rfl | exact ⟨rfl, rfl⟩
                      simp only [Act.put, List.setIfInBounds_toArray, List.set_cons_zero, List.set_cons_succ]
                      refine' wpT_det (o := ⟨some 72, Op.pick (Operand.tmp 66) (Operand.tmp 71) (Operand.const (Value.bool false)), 4, "l05_sparse.go:279", #[{ on := 9, ground := Ground.data }, { on := 14, ground := Ground.data }], none⟩) rfl (by rfl) (by rfl) (fun w' hw' => ?_) ?_; rotate_left
                      · go_simp <;> first | rfl | exact ⟨rfl, rfl⟩
                      simp only [Act.put, List.setIfInBounds_toArray, List.set_cons_zero, List.set_cons_succ]
                      refine' wpT_det (o := ⟨some 73, Op.move (Operand.tmp 72), 4, "l05_sparse.go:279", #[{ on := 15, ground := Ground.data }, { on := 9, ground := Ground.chain }], none⟩) rfl (by rfl) (by rfl) (fun w' hw' => ?_) ?_; rotate_left
                      · go_simp <;> first | rfl | exact ⟨rfl, rfl⟩
                      simp only [Act.put, List.setIfInBounds_toArray, List.set_cons_zero, List.set_cons_succ]
                      refine' wpT_det (o := ⟨some 74, Op.move (Operand.tmp 11), 2, "l05_sparse.go:279", #[{ on := 16, ground := Ground.guard }], some (16, true)⟩) rfl (by rfl) (by rfl) (fun w' hw' => ?_) ?_; rotate_left
                      · go_simp <;> first | rfl | exact ⟨rfl, rfl⟩
                      simp only [Act.put, List.setIfInBounds_toArray, List.set_cons_zero, List.set_cons_succ]
                      refine' wpT_det (o := ⟨some 75, Op.binOp BinOp.lss 2 (Operand.tmp 74) (Operand.const (Value.int IntKind.i64 0)) 2, 4, "l05_sparse.go:279", #[{ on := 17, ground := Ground.data }, { on := 16, ground := Ground.guard }], some (16, true)⟩) rfl (by rfl) (by rfl) (fun w' hw' => ?_) ?_; rotate_left
                      · go_simp <;> first | rfl | exact ⟨rfl, rfl⟩
                      simp only [Act.put, List.setIfInBounds_toArray, List.set_cons_zero, List.set_cons_succ]
                      refine' wpT_det (o := ⟨some 76, Op.move (Operand.tmp 75), 4, "l05_sparse.go:279", #[{ on := 18, ground := Ground.data }, { on := 16, ground := Ground.chain }, { on := 16, ground := Ground.guard }], some (16, true)⟩) rfl (by rfl) (by rfl) (fun w' hw' => ?_) ?_; rotate_left
                      · go_simp <;> first | rfl | exact ⟨rfl, rfl⟩
                      simp only [Act.put, List.setIfInBounds_toArray, List.set_cons_zero, List.set_cons_succ]
                      refine wpT_skip (o := ⟨some 77, Op.move (Operand.tmp 5), 22, "l05_sparse.go:279", #[{ on := 19, ground := Ground.guard }], some (19, false)⟩) rfl (by rfl) ?_
                      simp only [Act.put, List.setIfInBounds_toArray, List.set_cons_zero, List.set_cons_succ]
                      refine wpT_skip (o := ⟨some 78, Op.move (Operand.tmp 12), 2, "l05_sparse.go:279", #[{ on := 19, ground := Ground.guard }], some (19, false)⟩) rfl (by rfl) ?_
                      simp only [Act.put, List.setIfInBounds_toArray, List.set_cons_zero, List.set_cons_succ]
                      refine wpT_skip (o := ⟨some 79, Op.indexAddr 22 (Operand.tmp 77) (Operand.tmp 78), 0, "l05_sparse.go:279", #[{ on := 20, ground := Ground.data }, { on := 21, ground := Ground.data }, { on := 19, ground := Ground.guard }], some (19, false)⟩) rfl (by rfl) ?_
                      simp only [Act.put, List.setIfInBounds_toArray, List.set_cons_zero, List.set_cons_succ]
                      refine wpT_skip (o := ⟨some 80, Op.load 2 (Operand.tmp 79), 2, "l05_sparse.go:279", #[{ on := 22, ground := Ground.data }, { on := 19, ground := Ground.guard }], some (19, false)⟩) rfl (by rfl) ?_
                      simp only [Act.put, List.setIfInBounds_toArray, List.set_cons_zero, List.set_cons_succ]
                      refine wpT_skip (o := ⟨some 81, Op.move (Operand.tmp 5), 22, "l05_sparse.go:279", #[{ on := 19, ground := Ground.guard }], some (19, false)⟩) rfl (by rfl) ?_
                      simp only [Act.put, List.setIfInBounds_toArray, List.set_cons_zero, List.set_cons_succ]
                      refine wpT_skip (o := ⟨some 82, Op.move (Operand.tmp 11), 2, "l05_sparse.go:279", #[{ on := 19, ground := Ground.guard }], some (19, false)⟩) rfl (by rfl) ?_
                      simp only [Act.put, List.setIfInBounds_toArray, List.set_cons_zero, List.set_cons_succ]
                      refine wpT_skip (o := ⟨some 83, Op.indexAddr 22 (Operand.tmp 81) (Operand.tmp 82), 0, "l05_sparse.go:279", #[{ on := 24, ground := Ground.data }, { on := 25, ground := Ground.data }, { on := 19, ground := Ground.guard }], some (19, false)⟩) rfl (by rfl) ?_
                      simp only [Act.put, List.setIfInBounds_toArray, List.set_cons_zero, List.set_cons_succ]
                      refine wpT_skip (o := ⟨some 84, Op.load 2 (Operand.tmp 83), 2, "l05_sparse.go:279", #[{ on := 26, ground := Ground.data }, { on := 19, ground := Ground.guard }], some (19, false)⟩) rfl (by rfl) ?_
                      simp only [Act.put, List.setIfInBounds_toArray, List.set_cons_zero, List.set_cons_succ]
                      refine wpT_skip (o := ⟨some 85, Op.binOp BinOp.lss 2 (Operand.tmp 80) (Operand.tmp 84) 2, 4, "l05_sparse.go:279", #[{ on := 23, ground := Ground.data }, { on := 27, ground := Ground.data }, { on := 19, ground := Ground.guard }], some (19, false)⟩) rfl (by rfl) ?_
                      simp only [Act.put, List.setIfInBounds_toArray, List.set_cons_zero, List.set_cons_succ]
                      refine' wpT_det (o := ⟨some 86, Op.pick (Operand.tmp 76) (Operand.const (Value.bool true)) (Operand.tmp 85), 4, "l05_sparse.go:279", #[{ on := 19, ground := Ground.data }, { on := 28, ground := Ground.data }, { on := 16, ground := Ground.guard }], some (16, true)⟩) rfl (by rfl) (by rfl) (fun w' hw' => ?_) ?_; rotate_left
                      · go_simp <;> first | rfl | exact ⟨rfl, rfl⟩
                      simp only [Act.put, List.setIfInBounds_toArray, List.set_cons_zero, List.set_cons_succ]
                      refine' wpT_det (o := ⟨some 87, Op.pick (Operand.tmp 73) (Operand.tmp 86) (Operand.const (Value.bool false)), 4, "l05_sparse.go:279", #[{ on := 16, ground := Ground.data }, { on := 29, ground := Ground.data }], none⟩) rfl (by rfl) (by rfl) (fun w' hw' => ?_) ?_; rotate_left
                      · go_simp <;> first | rfl | exact ⟨rfl, rfl⟩
                      simp only [Act.put, List.setIfInBounds_toArray, List.set_cons_zero, List.set_cons_succ]
                      refine wpT_nil (fun w5 hw' hF => ?_)
                      refine wpList_nil ?_
                      have hx5 := hw'.undrew
                      go_wp2_with fail
                      go_roundw
                      case rel => exact ⟨k + 1, by omega, by go_num, by rw [HF2.out], hy.trans hx5⟩
                      case measure => simp [intOf]; omega
                    | some mb =>
                      have hmk := hmem mb hb
                      rw [hb] at HE
                      have HF1 : Hid (lowB (degB N G) (lsB (k + 1) f) = if degB N G k < degB N G mb then some k else some mb) := HE
                      clear HE hb hmem
                      simp only [lowI]
                      have hmN : mb < N := by omega
                      have hd4 := ((oDB.ext hy).at_ mb hmN).1
                      rw [ints_nat_get (by unfold degL; rw [dgk_len]; exact hmN), show (degL N G).getD mb 0 = degB N G mb by simp [degL, dgk, hmN]] at hd4
                      have hmI : (mb : Int) < N := by omega
                      have hm0 : ¬ (mb : Int) < 0 := by omega
                      have hm0' : decide ((mb : Int) < 0) = false := decide_eq_false hm0
                      obtain ⟨dk, hdk⟩ : ∃ dk, dk = degB N G k := ⟨_, rfl⟩
                      obtain ⟨dm, hdm⟩ : ∃ dm, dm = degB N G mb := ⟨_, rfl⟩
                      rw [← hdk] at hd3 HF1
                      rw [← hdm] at hd4 HF1
                      clear hdk hdm
                      by_cases hdd : dk < dm
                      · have hddI : (dk : Int) < dm := by omega
                        have hdd' : decide ((dk : Int) < dm) = true := decide_eq_true hddI
                        have HF2 : Hid (lowB (degB N G) (lsB (k + 1) f) = some k) := by show _ = _; rw [HF1.out, if_pos hdd]
                        clear HF1
                        go_wp2_with fail
                        refine wp_region_T (cs := []) [0, 1, 2, 3, 4, 5, 6, 7, 8, 9, 10, 11, 12, 13, 14, 15, 16, 17, 18, 19, 20, 21, 22, 23, 24, 25, 26, 27, 28, 29, 30] [] [] [] (fun _ _ => False) (fun _ _ _ => True) (by kernel_rfl) (by kernel_rfl) (fun _ _ _ _ _ _ => trivial) ?_
                        refine' wpT_det (o := ⟨some 57, Op.move (Operand.tmp 4), 69, "l05_sparse.go:279", #[], none⟩) rfl (by rfl) (by rfl) (fun w' hw' => ?_) ?_; rotate_left
                        · go_simp <;> first | rfl | exact ⟨rfl, rfl⟩
                        simp only [Act.put, List.setIfInBounds_toArray, List.set_cons_zero, List.set_cons_succ]
                        refine' wpT_det (o := ⟨some 58, Op.move (Operand.tmp 10), 2, "l05_sparse.go:279", #[], none⟩) rfl (by rfl) (by rfl) (fun w' hw' => ?_) ?_; rotate_left
                        · go_simp <;> first | rfl | exact ⟨rfl, rfl⟩
                        simp only [Act.put, List.setIfInBounds_toArray, List.set_cons_zero, List.set_cons_succ]
                        refine' wpT_det (o := ⟨some 59, Op.fieldAddr 27 (Operand.tmp 1) 0, 0, "l05_sparse.go:279", #[], none⟩) rfl (by rfl) (by rfl) (fun w' hw' => ?_) ?_; rotate_left
                        · go_simp <;> first | rfl | exact ⟨rfl, rfl⟩
                        simp only [Act.put, List.setIfInBounds_toArray, List.set_cons_zero, List.set_cons_succ]
                        refine' wpT_det (o := ⟨some 60, Op.load 2 (Operand.tmp 59), 2, "l05_sparse.go:279", #[{ on := 2, ground := Ground.data }], none⟩) rfl (by rfl) (by rfl) (fun w' hw' => ?_) ?_; rotate_left
                        · have c0_ := Ext.cell hw' c0; have hd1_ := Ext.cell hw' hd1; have hd2_ := Ext.cell hw' hd2; have hd3_ := Ext.cell hw' hd3; have hd4_ := Ext.cell hw' hd4; go_simp <;> first | rfl | exact ⟨rfl, rfl⟩
                        simp only [Act.put, List.setIfInBounds_toArray, List.set_cons_zero, List.set_cons_succ]
                        refine' wpT_det (o := ⟨some 61, Op.binOp BinOp.mul 2 (Operand.tmp 58) (Operand.tmp 60) 2, 2, "l05_sparse.go:279", #[{ on := 1, ground := Ground.data }, { on := 3, ground := Ground.data }], none⟩) rfl (by rfl) (by rfl) (fun w' hw' => ?_) ?_; rotate_left
                        · go_simp <;> first | rfl | exact ⟨rfl, rfl⟩
                        simp only [Act.put, List.setIfInBounds_toArray, List.set_cons_zero, List.set_cons_succ]
                        refine' wpT_det (o := ⟨some 62, Op.move (Operand.tmp 12), 2, "l05_sparse.go:279", #[], none⟩) rfl (by rfl) (by rfl) (fun w' hw' => ?_) ?_; rotate_left
                        · go_simp <;> first | rfl | exact ⟨rfl, rfl⟩
                        simp only [Act.put, List.setIfInBounds_toArray, List.set_cons_zero, List.set_cons_succ]
                        refine' wpT_det (o := ⟨some 63, Op.binOp BinOp.add 2 (Operand.tmp 61) (Operand.tmp 62) 2, 2, "l05_sparse.go:279", #[{ on := 4, ground := Ground.data }, { on := 5, ground := Ground.data }], none⟩) rfl (by rfl) (by rfl) (fun w' hw' => ?_) ?_; rotate_left
                        · go_simp <;> first | rfl | exact ⟨rfl, rfl⟩
                        simp only [Act.put, List.setIfInBounds_toArray, List.set_cons_zero, List.set_cons_succ]
                        refine' wpT_det (o := ⟨some 64, Op.indexAddr 69 (Operand.tmp 57) (Operand.tmp 63), 0, "l05_sparse.go:279", #[{ on := 0, ground := Ground.data }, { on := 6, ground := Ground.data }], none⟩) rfl (by rfl) (by rfl) (fun w' hw' => ?_) ?_; rotate_left
                        · go_simp <;> first | rfl | exact ⟨rfl, rfl⟩
                        simp only [Act.put, List.setIfInBounds_toArray, List.set_cons_zero, List.set_cons_succ]
                        refine' wpT_det (o := ⟨some 65, Op.load 4 (Operand.tmp 64), 4, "l05_sparse.go:279", #[{ on := 7, ground := Ground.data }], none⟩) rfl (by rfl) (by rfl) (fun w' hw' => ?_) ?_; rotate_left
                        · have c0_ := Ext.cell hw' c0; have hd1_ := Ext.cell hw' hd1; have hd2_ := Ext.cell hw' hd2; have hd3_ := Ext.cell hw' hd3; have hd4_ := Ext.cell hw' hd4; go_simp <;> first | rfl | exact ⟨rfl, rfl⟩
                        simp only [Act.put, List.setIfInBounds_toArray, List.set_cons_zero, List.set_cons_succ]
                        refine' wpT_det (o := ⟨some 66, Op.move (Operand.tmp 65), 4, "l05_sparse.go:279", #[{ on := 8, ground := Ground.data }], none⟩) rfl (by rfl) (by rfl) (fun w' hw' => ?_) ?_; rotate_left
                        · go_simp <;> first | rfl | exact ⟨rfl, rfl⟩
                        simp only [Act.put, List.setIfInBounds_toArray, List.set_cons_zero, List.set_cons_succ]
                        refine' wpT_det (o := ⟨some 67, Op.move (Operand.tmp 6), 69, "l05_sparse.go:279", #[{ on := 9, ground := Ground.guard }], some (9, true)⟩) rfl (by rfl) (by rfl) (fun w' hw' => ?_) ?_; rotate_left
                        · go_simp <;> first | rfl | exact ⟨rfl, rfl⟩
                        simp only [Act.put, List.setIfInBounds_toArray, List.set_cons_zero, List.set_cons_succ]
                        refine' wpT_det (o := ⟨some 68, Op.move (Operand.tmp 12), 2, "l05_sparse.go:279", #[{ on := 9, ground := Ground.guard }], some (9, true)⟩) rfl (by rfl) (by rfl) (fun w' hw' => ?_) ?_; rotate_left
                        · go_simp <;> first | rfl | exact ⟨rfl, rfl⟩
                        simp only [Act.put, List.setIfInBounds_toArray, List.set_cons_zero, List.set_cons_succ]
                        refine' wpT_det (o := ⟨some 69, Op.indexAddr 69 (Operand.tmp 67) (Operand.tmp 68), 0, "l05_sparse.go:279", #[{ on := 10, ground := Ground.data }, { on := 11, ground := Ground.data }, { on := 9, ground := Ground.guard }], some (9, true)⟩) rfl (by rfl) (by rfl) (fun w' hw' => ?_) ?_; rotate_left
                        · go_simp <;> first | rfl | exact ⟨rfl, rfl⟩
                        simp only [Act.put, List.setIfInBounds_toArray, List.set_cons_zero, List.set_cons_succ]
                        refine' wpT_det (o := ⟨some 70, Op.load 4 (Operand.tmp 69), 4, "l05_sparse.go:279", #[{ on := 12, ground := Ground.data }, { on := 9, ground := Ground.guard }], some (9, true)⟩) rfl (by rfl) (by rfl) (fun w' hw' => ?_) ?_; rotate_left
                        · have c0_ := Ext.cell hw' c0; have hd1_ := Ext.cell hw' hd1; have hd2_ := Ext.cell hw' hd2; have hd3_ := Ext.cell hw' hd3; have hd4_ := Ext.cell hw' hd4; go_simp <;> first | rfl | exact ⟨rfl, rfl⟩
                        simp only [Act.put, List.setIfInBounds_toArray, List.set_cons_zero, List.set_cons_succ]
                        refine' wpT_det (o := ⟨some 71, Op.unOp UnOp.not 4 (Operand.tmp 70), 4, "l05_sparse.go:279", #[{ on := 13, ground := Ground.data }, { on := 9, ground := Ground.guard }], some (9, true)⟩) rfl (by rfl) (by rfl) (fun w' hw' => ?_) ?_; rotate_left
                        · go_simp <;> first | rfl | exact ⟨rfl, rfl⟩
                        simp only [Act.put, List.setIfInBounds_toArray, List.set_cons_zero, List.set_cons_succ]
                        refine' wpT_det (o := ⟨some 72, Op.pick (Operand.tmp 66) (Operand.tmp 71) (Operand.const (Value.bool false)), 4, "l05_sparse.go:279", #[{ on := 9, ground := Ground.data }, { on := 14, ground := Ground.data }], none⟩) rfl (by rfl) (by rfl) (fun w' hw' => ?_) ?_; rotate_left
                        · go_simp <;> first | rfl | exact ⟨rfl, rfl⟩
                        simp only [Act.put, List.setIfInBounds_toArray, List.set_cons_zero, List.set_cons_succ]
                        refine' wpT_det (o := ⟨some 73, Op.move (Operand.tmp 72), 4, "l05_sparse.go:279", #[{ on := 15, ground := Ground.data }, { on := 9, ground := Ground.chain }], none⟩) rfl (by rfl) (by rfl) (fun w' hw' => ?_) ?_; rotate_left
                        · go_simp <;> first | rfl | exact ⟨rfl, rfl⟩
                        simp only [Act.put, List.setIfInBounds_toArray, List.set_cons_zero, List.set_cons_succ]
                        refine' wpT_det (o := ⟨some 74, Op.move (Operand.tmp 11), 2, "l05_sparse.go:279", #[{ on := 16, ground := Ground.guard }], some (16, true)⟩) rfl (by rfl) (by rfl) (fun w' hw' => ?_) ?_; rotate_left
                        · go_simp <;> first | rfl | exact ⟨rfl, rfl⟩
                        simp only [Act.put, List.setIfInBounds_toArray, List.set_cons_zero, List.set_cons_succ]
                        refine' wpT_det (o := ⟨some 75, Op.binOp BinOp.lss 2 (Operand.tmp 74) (Operand.const (Value.int IntKind.i64 0)) 2, 4, "l05_sparse.go:279", #[{ on := 17, ground := Ground.data }, { on := 16, ground := Ground.guard }], some (16, true)⟩) rfl (by rfl) (by rfl) (fun w' hw' => ?_) ?_; rotate_left
                        · go_simp <;> first | rfl | exact ⟨rfl, rfl⟩
                        simp only [Act.put, List.setIfInBounds_toArray, List.set_cons_zero, List.set_cons_succ]
                        refine' wpT_det (o := ⟨some 76, Op.move (Operand.tmp 75), 4, "l05_sparse.go:279", #[{ on := 18, ground := Ground.data }, { on := 16, ground := Ground.chain }, { on := 16, ground := Ground.guard }], some (16, true)⟩) rfl (by rfl) (by rfl) (fun w' hw' => ?_) ?_; rotate_left
                        · go_simp <;> first | rfl | exact ⟨rfl, rfl⟩
                        simp only [Act.put, List.setIfInBounds_toArray, List.set_cons_zero, List.set_cons_succ]
                        refine' wpT_det (o := ⟨some 77, Op.move (Operand.tmp 5), 22, "l05_sparse.go:279", #[{ on := 19, ground := Ground.guard }], some (19, false)⟩) rfl (by rfl) (by rfl) (fun w' hw' => ?_) ?_; rotate_left
                        · go_simp <;> first | rfl | exact ⟨rfl, rfl⟩
                        simp only [Act.put, List.setIfInBounds_toArray, List.set_cons_zero, List.set_cons_succ]
                        refine' wpT_det (o := ⟨some 78, Op.move (Operand.tmp 12), 2, "l05_sparse.go:279", #[{ on := 19, ground := Ground.guard }], some (19, false)⟩) rfl (by rfl) (by rfl) (fun w' hw' => ?_) ?_; rotate_left
                        · go_simp <;> first | rfl | exact ⟨rfl, rfl⟩
                        simp only [Act.put, List.setIfInBounds_toArray, List.set_cons_zero, List.set_cons_succ]
                        refine' wpT_det (o := ⟨some 79, Op.indexAddr 22 (Operand.tmp 77) (Operand.tmp 78), 0, "l05_sparse.go:279", #[{ on := 20, ground := Ground.data }, { on := 21, ground := Ground.data }, { on := 19, ground := Ground.guard }], some (19, false)⟩) rfl (by rfl) (by rfl) (fun w' hw' => ?_) ?_; rotate_left
                        · go_simp <;> first | rfl | exact ⟨rfl, rfl⟩
                        simp only [Act.put, List.setIfInBounds_toArray, List.set_cons_zero, List.set_cons_succ]
                        refine' wpT_det (o := ⟨some 80, Op.load 2 (Operand.tmp 79), 2, "l05_sparse.go:279", #[{ on := 22, ground := Ground.data }, { on := 19, ground := Ground.guard }], some (19, false)⟩) rfl (by rfl) (by rfl) (fun w' hw' => ?_) ?_; rotate_left
                        · have c0_ := Ext.cell hw' c0; have hd1_ := Ext.cell hw' hd1; have hd2_ := Ext.cell hw' hd2; have hd3_ := Ext.cell hw' hd3; have hd4_ := Ext.cell hw' hd4; go_simp <;> first | rfl | exact ⟨rfl, rfl⟩
                        simp only [Act.put, List.setIfInBounds_toArray, List.set_cons_zero, List.set_cons_succ]
                        refine' wpT_det (o := ⟨some 81, Op.move (Operand.tmp 5), 22, "l05_sparse.go:279", #[{ on := 19, ground := Ground.guard }], some (19, false)⟩) rfl (by rfl) (by rfl) (fun w' hw' => ?_) ?_; rotate_left
                        · go_simp <;> first | rfl | exact ⟨rfl, rfl⟩
                        simp only [Act.put, List.setIfInBounds_toArray, List.set_cons_zero, List.set_cons_succ]
                        refine' wpT_det (o := ⟨some 82, Op.move (Operand.tmp 11), 2, "l05_sparse.go:279", #[{ on := 19, ground := Ground.guard }], some (19, false)⟩) rfl (by rfl) (by rfl) (fun w' hw' => ?_) ?_; rotate_left
                        · go_simp <;> first | rfl | exact ⟨rfl, rfl⟩
                        simp only [Act.put, List.setIfInBounds_toArray, List.set_cons_zero, List.set_cons_succ]
                        refine' wpT_det (o := ⟨some 83, Op.indexAddr 22 (Operand.tmp 81) (Operand.tmp 82), 0, "l05_sparse.go:279", #[{ on := 24, ground := Ground.data }, { on := 25, ground := Ground.data }, { on := 19, ground := Ground.guard }], some (19, false)⟩) rfl (by rfl) (by rfl) (fun w' hw' => ?_) ?_; rotate_left
                        · go_simp <;> first | rfl | exact ⟨rfl, rfl⟩
                        simp only [Act.put, List.setIfInBounds_toArray, List.set_cons_zero, List.set_cons_succ]
                        refine' wpT_det (o := ⟨some 84, Op.load 2 (Operand.tmp 83), 2, "l05_sparse.go:279", #[{ on := 26, ground := Ground.data }, { on := 19, ground := Ground.guard }], some (19, false)⟩) rfl (by rfl) (by rfl) (fun w' hw' => ?_) ?_; rotate_left
                        · have c0_ := Ext.cell hw' c0; have hd1_ := Ext.cell hw' hd1; have hd2_ := Ext.cell hw' hd2; have hd3_ := Ext.cell hw' hd3; have hd4_ := Ext.cell hw' hd4; go_simp <;> first | rfl | exact ⟨rfl, rfl⟩
                        simp only [Act.put, List.setIfInBounds_toArray, List.set_cons_zero, List.set_cons_succ]
                        refine' wpT_det (o := ⟨some 85, Op.binOp BinOp.lss 2 (Operand.tmp 80) (Operand.tmp 84) 2, 4, "l05_sparse.go:279", #[{ on := 23, ground := Ground.data }, { on := 27, ground := Ground.data }, { on := 19, ground := Ground.guard }], some (19, false)⟩) rfl (by rfl) (by rfl) (fun w' hw' => ?_) ?_; rotate_left
                        · go_simp <;> first | rfl | exact ⟨rfl, rfl⟩
                        simp only [Act.put, List.setIfInBounds_toArray, List.set_cons_zero, List.set_cons_succ]
                        refine' wpT_det (o := ⟨some 86, Op.pick (Operand.tmp 76) (Operand.const (Value.bool true)) (Operand.tmp 85), 4, "l05_sparse.go:279", #[{ on := 19, ground := Ground.data }, { on := 28, ground := Ground.data }, { on := 16, ground := Ground.guard }], some (16, true)⟩) rfl (by rfl) (by rfl) (fun w' hw' => ?_) ?_; rotate_left
                        · go_simp <;> first | rfl | exact ⟨rfl, rfl⟩
                        simp only [Act.put, List.setIfInBounds_toArray, List.set_cons_zero, List.set_cons_succ]
                        refine' wpT_det (o := ⟨some 87, Op.pick (Operand.tmp 73) (Operand.tmp 86) (Operand.const (Value.bool false)), 4, "l05_sparse.go:279", #[{ on := 16, ground := Ground.data }, { on := 29, ground := Ground.data }], none⟩) rfl (by rfl) (by rfl) (fun w' hw' => ?_) ?_; rotate_left
                        · go_simp <;> first | rfl | exact ⟨rfl, rfl⟩
                        simp only [Act.put, List.setIfInBounds_toArray, List.set_cons_zero, List.set_cons_succ]
                        refine wpT_nil (fun w5 hw' hF => ?_)
                        refine wpList_nil ?_
                        have hx5 := hw'.undrew
                        go_wp2_with fail
                        go_roundw
                        case rel => exact ⟨k + 1, by omega, by go_num, by rw [HF2.out], hy.trans hx5⟩
                        case measure => simp [intOf]; omega
                      · have hddI : ¬ (dk : Int) < dm := by omega
                        have hdd' : decide ((dk : Int) < dm) = false := decide_eq_false hddI
                        have HF2 : Hid (lowB (degB N G) (lsB (k + 1) f) = some mb) := by show _ = _; rw [HF1.out, if_neg hdd]
                        clear HF1
                        go_wp2_with fail
                        refine wp_region_T (cs := []) [0, 1, 2, 3, 4, 5, 6, 7, 8, 9, 10, 11, 12, 13, 14, 15, 16, 17, 18, 19, 20, 21, 22, 23, 24, 25, 26, 27, 28, 29, 30] [] [] [] (fun _ _ => False) (fun _ _ _ => True) (by kernel_rfl) (by kernel_rfl) (fun _ _ _ _ _ _ => trivial) ?_
                        refine' wpT_det (o := ⟨some 57, Op.move (Operand.tmp 4), 69, "l05_sparse.go:279", #[], none⟩) rfl (by rfl) (by rfl) (fun w' hw' => ?_) ?_; rotate_left
                        · go_simp <;> first | rfl | exact ⟨rfl, rfl⟩
                        simp only [Act.put, List.setIfInBounds_toArray, List.set_cons_zero, List.set_cons_succ]
                        refine' wpT_det (o := ⟨some 58, Op.move (Operand.tmp 10), 2, "l05_sparse.go:279", #[], none⟩) rfl (by rfl) (by rfl) (fun w' hw' => ?_) ?_; rotate_left
                        · go_simp <;> first | rfl | exact ⟨rfl, rfl⟩
                        simp only [Act.put, List.setIfInBounds_toArray, List.set_cons_zero, List.set_cons_succ]
                        refine' wpT_det (o := ⟨some 59, Op.fieldAddr 27 (Operand.tmp 1) 0, 0, "l05_sparse.go:279", #[], none⟩) rfl (by rfl) (by rfl) (fun w' hw' => ?_) ?_; rotate_left
                        · go_simp <;> first | rfl | exact ⟨rfl, rfl⟩
                        simp only [Act.put, List.setIfInBounds_toArray, List.set_cons_zero, List.set_cons_succ]
                        refine' wpT_det (o := ⟨some 60, Op.load 2 (Operand.tmp 59), 2, "l05_sparse.go:279", #[{ on := 2, ground := Ground.data }], none⟩) rfl (by rfl) (by rfl) (fun w' hw' => ?_) ?_; rotate_left
                        · have c0_ := Ext.cell hw' c0; have hd1_ := Ext.cell hw' hd1; have hd2_ := Ext.cell hw' hd2; have hd3_ := Ext.cell hw' hd3; have hd4_ := Ext.cell hw' hd4; go_simp <;> first | rfl | exact ⟨rfl, rfl⟩
                        simp only [Act.put, List.setIfInBounds_toArray, List.set_cons_zero, List.set_cons_succ]
                        refine' wpT_det (o := ⟨some 61, Op.binOp BinOp.mul 2 (Operand.tmp 58) (Operand.tmp 60) 2, 2, "l05_sparse.go:279", #[{ on := 1, ground := Ground.data }, { on := 3, ground := Ground.data }], none⟩) rfl (by rfl) (by rfl) (fun w' hw' => ?_) ?_; rotate_left
                        · go_simp <;> first | rfl | exact ⟨rfl, rfl⟩
                        simp only [Act.put, List.setIfInBounds_toArray, List.set_cons_zero, List.set_cons_succ]
                        refine' wpT_det (o := ⟨some 62, Op.move (Operand.tmp 12), 2, "l05_sparse.go:279", #[], none⟩) rfl (by rfl) (by rfl) (fun w' hw' => ?_) ?_; rotate_left
                        · go_simp <;> first | rfl | exact ⟨rfl, rfl⟩
                        simp only [Act.put, List.setIfInBounds_toArray, List.set_cons_zero, List.set_cons_succ]
                        refine' wpT_det (o := ⟨some 63, Op.binOp BinOp.add 2 (Operand.tmp 61) (Operand.tmp 62) 2, 2, "l05_sparse.go:279", #[{ on := 4, ground := Ground.data }, { on := 5, ground := Ground.data }], none⟩) rfl (by rfl) (by rfl) (fun w' hw' => ?_) ?_; rotate_left
                        · go_simp <;> first | rfl | exact ⟨rfl, rfl⟩
                        simp only [Act.put, List.setIfInBounds_toArray, List.set_cons_zero, List.set_cons_succ]
                        refine' wpT_det (o := ⟨some 64, Op.indexAddr 69 (Operand.tmp 57) (Operand.tmp 63), 0, "l05_sparse.go:279", #[{ on := 0, ground := Ground.data }, { on := 6, ground := Ground.data }], none⟩) rfl (by rfl) (by rfl) (fun w' hw' => ?_) ?_; rotate_left
                        · go_simp <;> first | rfl | exact ⟨rfl, rfl⟩
                        simp only [Act.put, List.setIfInBounds_toArray, List.set_cons_zero, List.set_cons_succ]
                        refine' wpT_det (o := ⟨some 65, Op.load 4 (Operand.tmp 64), 4, "l05_sparse.go:279", #[{ on := 7, ground := Ground.data }], none⟩) rfl (by rfl) (by rfl) (fun w' hw' => ?_) ?_; rotate_left
                        · have c0_ := Ext.cell hw' c0; have hd1_ := Ext.cell hw' hd1; have hd2_ := Ext.cell hw' hd2; have hd3_ := Ext.cell hw' hd3; have hd4_ := Ext.cell hw' hd4; go_simp <;> first | rfl | exact ⟨rfl, rfl⟩
                        simp only [Act.put, List.setIfInBounds_toArray, List.set_cons_zero, List.set_cons_succ]
                        refine' wpT_det (o := ⟨some 66, Op.move (Operand.tmp 65), 4, "l05_sparse.go:279", #[{ on := 8, ground := Ground.data }], none⟩) rfl (by rfl) (by rfl) (fun w' hw' => ?_) ?_; rotate_left
                        · go_simp <;> first | rfl | exact ⟨rfl, rfl⟩
                        simp only [Act.put, List.setIfInBounds_toArray, List.set_cons_zero, List.set_cons_succ]
                        refine' wpT_det (o := ⟨some 67, Op.move (Operand.tmp 6), 69, "l05_sparse.go:279", #[{ on := 9, ground := Ground.guard }], some (9, true)⟩) rfl (by rfl) (by rfl) (fun w' hw' => ?_) ?_; rotate_left
                        · go_simp <;> first | rfl | exact ⟨rfl, rfl⟩
                        simp only [Act.put, List.setIfInBounds_toArray, List.set_cons_zero, List.set_cons_succ]
                        refine' wpT_det (o := ⟨some 68, Op.move (Operand.tmp 12), 2, "l05_sparse.go:279", #[{ on := 9, ground := Ground.guard }], some (9, true)⟩) rfl (by rfl) (by rfl) (fun w' hw' => ?_) ?_; rotate_left
                        · go_simp <;> first | rfl | exact ⟨rfl, rfl⟩
                        simp only [Act.put, List.setIfInBounds_toArray, List.set_cons_zero, List.set_cons_succ]
                        refine' wpT_det (o := ⟨some 69, Op.indexAddr 69 (Operand.tmp 67) (Operand.tmp 68), 0, "l05_sparse.go:279", #[{ on := 10, ground := Ground.data }, { on := 11, ground := Ground.data }, { on := 9, ground := Ground.guard }], some (9, true)⟩) rfl (by rfl) (by rfl) (fun w' hw' => ?_) ?_; rotate_left
                        · go_simp <;> first | rfl | exact ⟨rfl, rfl⟩
                        simp only [Act.put, List.setIfInBounds_toArray, List.set_cons_zero, List.set_cons_succ]
                        refine' wpT_det (o := ⟨some 70, Op.load 4 (Operand.tmp 69), 4, "l05_sparse.go:279", #[{ on := 12, ground := Ground.data }, { on := 9, ground := Ground.guard }], some (9, true)⟩) rfl (by rfl) (by rfl) (fun w' hw' => ?_) ?_; rotate_left
                        · have c0_ := Ext.cell hw' c0; have hd1_ := Ext.cell hw' hd1; have hd2_ := Ext.cell hw' hd2; have hd3_ := Ext.cell hw' hd3; have hd4_ := Ext.cell hw' hd4; go_simp <;> first | rfl | exact ⟨rfl, rfl⟩
                        simp only [Act.put, List.setIfInBounds_toArray, List.set_cons_zero, List.set_cons_succ]
                        refine' wpT_det (o := ⟨some 71, Op.unOp UnOp.not 4 (Operand.tmp 70), 4, "l05_sparse.go:279", #[{ on := 13, ground := Ground.data }, { on := 9, ground := Ground.guard }], some (9, true)⟩) rfl (by rfl) (by rfl) (fun w' hw' => ?_) ?_; rotate_left
                        · go_simp <;> first | rfl | exact ⟨rfl, rfl⟩
                        simp only [Act.put, List.setIfInBounds_toArray, List.set_cons_zero, List.set_cons_succ]
                        refine' wpT_det (o := ⟨some 72, Op.pick (Operand.tmp 66) (Operand.tmp 71) (Operand.const (Value.bool false)), 4, "l05_sparse.go:279", #[{ on := 9, ground := Ground.data }, { on := 14, ground := Ground.data }], none⟩) rfl (by rfl) (by rfl) (fun w' hw' => ?_) ?_; rotate_left
                        · go_simp <;> first | rfl | exact ⟨rfl, rfl⟩
                        simp only [Act.put, List.setIfInBounds_toArray, List.set_cons_zero, List.set_cons_succ]
                        refine' wpT_det (o := ⟨some 73, Op.move (Operand.tmp 72), 4, "l05_sparse.go:279", #[{ on := 15, ground := Ground.data }, { on := 9, ground := Ground.chain }], none⟩) rfl (by rfl) (by rfl) (fun w' hw' => ?_) ?_; rotate_left
                        · go_simp <;> first | rfl | exact ⟨rfl, rfl⟩
                        simp only [Act.put, List.setIfInBounds_toArray, List.set_cons_zero, List.set_cons_succ]
                        refine' wpT_det (o := ⟨some 74, Op.move (Operand.tmp 11), 2, "l05_sparse.go:279", #[{ on := 16, ground := Ground.guard }], some (16, true)⟩) rfl (by rfl) (by rfl) (fun w' hw' => ?_) ?_; rotate_left
                        · go_simp <;> first | rfl | exact ⟨rfl, rfl⟩
                        simp only [Act.put, List.setIfInBounds_toArray, List.set_cons_zero, List.set_cons_succ]
                        refine' wpT_det (o := ⟨some 75, Op.binOp BinOp.lss 2 (Operand.tmp 74) (Operand.const (Value.int IntKind.i64 0)) 2, 4, "l05_sparse.go:279", #[{ on := 17, ground := Ground.data }, { on := 16, ground := Ground.guard }], some (16, true)⟩) rfl (by rfl) (by rfl) (fun w' hw' => ?_) ?_; rotate_left
                        · go_simp <;> first | rfl | exact ⟨rfl, rfl⟩
                        simp only [Act.put, List.setIfInBounds_toArray, List.set_cons_zero, List.set_cons_succ]
                        refine' wpT_det (o := ⟨some 76, Op.move (Operand.tmp 75), 4, "l05_sparse.go:279", #[{ on := 18, ground := Ground.data }, { on := 16, ground := Ground.chain }, { on := 16, ground := Ground.guard }], some (16, true)⟩) rfl (by rfl) (by rfl) (fun w' hw' => ?_) ?_; rotate_left
                        · go_simp <;> first | rfl | exact ⟨rfl, rfl⟩
                        simp only [Act.put, List.setIfInBounds_toArray, List.set_cons_zero, List.set_cons_succ]
                        refine' wpT_det (o := ⟨some 77, Op.move (Operand.tmp 5), 22, "l05_sparse.go:279", #[{ on := 19, ground := Ground.guard }], some (19, false)⟩) rfl (by rfl) (by rfl) (fun w' hw' => ?_) ?_; rotate_left
                        · go_simp <;> first | rfl | exact ⟨rfl, rfl⟩
                        simp only [Act.put, List.setIfInBounds_toArray, List.set_cons_zero, List.set_cons_succ]
                        refine' wpT_det (o := ⟨some 78, Op.move (Operand.tmp 12), 2, "l05_sparse.go:279", #[{ on := 19, ground := Ground.guard }], some (19, false)⟩) rfl (by rfl) (by rfl) (fun w' hw' => ?_) ?_; rotate_left
                        · go_simp <;> first | rfl | exact ⟨rfl, rfl⟩
                        simp only [Act.put, List.setIfInBounds_toArray, List.set_cons_zero, List.set_cons_succ]
                        refine' wpT_det (o := ⟨some 79, Op.indexAddr 22 (Operand.tmp 77) (Operand.tmp 78), 0, "l05_sparse.go:279", #[{ on := 20, ground := Ground.data }, { on := 21, ground := Ground.data }, { on := 19, ground := Ground.guard }], some (19, false)⟩) rfl (by rfl) (by rfl) (fun w' hw' => ?_) ?_; rotate_left
                        · go_simp <;> first | rfl | exact ⟨rfl, rfl⟩
                        simp only [Act.put, List.setIfInBounds_toArray, List.set_cons_zero, List.set_cons_succ]
                        refine' wpT_det (o := ⟨some 80, Op.load 2 (Operand.tmp 79), 2, "l05_sparse.go:279", #[{ on := 22, ground := Ground.data }, { on := 19, ground := Ground.guard }], some (19, false)⟩) rfl (by rfl) (by rfl) (fun w' hw' => ?_) ?_; rotate_left
                        · have c0_ := Ext.cell hw' c0; have hd1_ := Ext.cell hw' hd1; have hd2_ := Ext.cell hw' hd2; have hd3_ := Ext.cell hw' hd3; have hd4_ := Ext.cell hw' hd4; go_simp <;> first | rfl | exact ⟨rfl, rfl⟩
                        simp only [Act.put, List.setIfInBounds_toArray, List.set_cons_zero, List.set_cons_succ]
                        refine' wpT_det (o := ⟨some 81, Op.move (Operand.tmp 5), 22, "l05_sparse.go:279", #[{ on := 19, ground := Ground.guard }], some (19, false)⟩) rfl (by rfl) (by rfl) (fun w' hw' => ?_) ?_; rotate_left
                        · go_simp <;> first | rfl | exact ⟨rfl, rfl⟩
                        simp only [Act.put, List.setIfInBounds_toArray, List.set_cons_zero, List.set_cons_succ]
                        refine' wpT_det (o := ⟨some 82, Op.move (Operand.tmp 11), 2, "l05_sparse.go:279", #[{ on := 19, ground := Ground.guard }], some (19, false)⟩) rfl (by rfl) (by rfl) (fun w' hw' => ?_) ?_; rotate_left
                        · go_simp <;> first | rfl | exact ⟨rfl, rfl⟩
                        simp only [Act.put, List.setIfInBounds_toArray, List.set_cons_zero, List.set_cons_succ]
                        refine' wpT_det (o := ⟨some 83, Op.indexAddr 22 (Operand.tmp 81) (Operand.tmp 82), 0, "l05_sparse.go:279", #[{ on := 24, ground := Ground.data }, { on := 25, ground := Ground.data }, { on := 19, ground := Ground.guard }], some (19, false)⟩) rfl (by rfl) (by rfl) (fun w' hw' => ?_) ?_; rotate_left
                        · go_simp <;> first | rfl | exact ⟨rfl, rfl⟩
                        simp only [Act.put, List.setIfInBounds_toArray, List.set_cons_zero, List.set_cons_succ]
                        refine' wpT_det (o := ⟨some 84, Op.load 2 (Operand.tmp 83), 2, "l05_sparse.go:279", #[{ on := 26, ground := Ground.data }, { on := 19, ground := Ground.guard }], some (19, false)⟩) rfl (by rfl) (by rfl) (fun w' hw' => ?_) ?_; rotate_left
                        · have c0_ := Ext.cell hw' c0; have hd1_ := Ext.cell hw' hd1; have hd2_ := Ext.cell hw' hd2; have hd3_ := Ext.cell hw' hd3; have hd4_ := Ext.cell hw' hd4; go_simp <;> first | rfl | exact ⟨rfl, rfl⟩
                        simp only [Act.put, List.setIfInBounds_toArray, List.set_cons_zero, List.set_cons_succ]
                        refine' wpT_det (o := ⟨some 85, Op.binOp BinOp.lss 2 (Operand.tmp 80) (Operand.tmp 84) 2, 4, "l05_sparse.go:279", #[{ on := 23, ground := Ground.data }, { on := 27, ground := Ground.data }, { on := 19, ground := Ground.guard }], some (19, false)⟩) rfl (by rfl) (by rfl) (fun w' hw' => ?_) ?_; rotate_left
                        · go_simp <;> first | rfl | exact ⟨rfl, rfl⟩
                        simp only [Act.put, List.setIfInBounds_toArray, List.set_cons_zero, List.set_cons_succ]
                        refine' wpT_det (o := ⟨some 86, Op.pick (Operand.tmp 76) (Operand.const (Value.bool true)) (Operand.tmp 85), 4, "l05_sparse.go:279", #[{ on := 19, ground := Ground.data }, { on := 28, ground := Ground.data }, { on := 16, ground := Ground.guard }], some (16, true)⟩) rfl (by rfl) (by rfl) (fun w' hw' => ?_) ?_; rotate_left
                        · go_simp <;> first | rfl | exact ⟨rfl, rfl⟩
                        simp only [Act.put, List.setIfInBounds_toArray, List.set_cons_zero, List.set_cons_succ]
                        refine' wpT_det (o := ⟨some 87, Op.pick (Operand.tmp 73) (Operand.tmp 86) (Operand.const (Value.bool false)), 4, "l05_sparse.go:279", #[{ on := 16, ground := Ground.data }, { on := 29, ground := Ground.data }], none⟩) rfl (by rfl) (by rfl) (fun w' hw' => ?_) ?_; rotate_left
                        · go_simp <;> first | rfl | exact ⟨rfl, rfl⟩
                        simp only [Act.put, List.setIfInBounds_toArray, List.set_cons_zero, List.set_cons_succ]
                        refine wpT_nil (fun w5 hw' hF => ?_)
                        refine wpList_nil ?_
                        have hx5 := hw'.undrew
                        go_wp2_with fail
                        go_roundw
                        case rel => exact ⟨k + 1, by omega, by go_num, by rw [HF2.out], hy.trans hx5⟩
                        case measure => simp [intOf]; omega
              · obtain rfl : k = N := by omega
                replace oo := oo.ext hy
                replace oi := oi.ext hy
                replace W := W.trans (Wr.of_ext hy _)
                clear hy o1B oDB
                by_cases hpn : p < nl
                · have hyN := HYN.out hpn
                  have hap := HAP.out hpn
                  have HAP1 := Lib.hid hap
                  rw [HPK1.out hpn]
                  simp only [lowI]
                  have hyI : (y : Int) < k := by omega
                  have hy0 : ¬ (y : Int) < 0 := by omega
                  obtain ⟨hc, hf⟩ := oi.at_ y hyN
                  rw [bools_get (by rw [gnL_length]; exact hyN)] at hc
                  have hsb := store_bool Try.prog true hc hf
                  obtain ⟨s1, s2⟩ := oi.stored y (.bool true)
                  rw [← bools_set, gnL_snoc LP hyN] at s1
                  have oo2 := oo.other s2 (oo.apart oi (by decide)).1
                  have W2 := W.trans s2
                  clear hap
                  go_upto_region 23 with (fail)
                  obtain ⟨w6, hw6⟩ : ∃ v : World, v = wC.setCell ⟨g2, y, none⟩ (.bool true) := ⟨_, rfl⟩
                  rw [← hw6] at s1 oo2 W2
                  rw [← hw6]
                  clear hw6 s2 hsb hc hf oo oi W
                  have xg : Ext w6 (w6.alloc (.cells #[.int .i64 y] 2)) := (Ext.refl _).alloc _
                  have ho' := oo2.ext xg
                  have hl := oo2.len
                  have hsz := W2.size
                  go_wp2_with (at_builtin; go_loud (refine wpList_app1 rfl _ _ _ rfl (w6.alloc (.cells #[.int .i64 y] 2)) w4.heap.size 2 (.int .i64 0) 8 Try.underlying22 info_i64 rfl (by decide) (.slice A4 (lc + p) c4) (ints (natI LP)) rfl w6.heap.size (.int .i64 y) rfl (One.new _ _ _) ho' rfl (by omega) (by simp; omega) ?_); rw [hl]; intro A' c' w9 h5 h6 h7)
                  go_roundg (nl - (p + 1))
                  case measure => omega
                  case rel =>
                    refine ⟨p + 1, A', c', by omega, rfl, ?_, ?_, (W2.trans (Wr.of_ext xg _)).new h6 ho'⟩
                    · rw [HAP1.out, natI_append, ints_append]
                      exact h5
                    · rw [HAP1.out]
                      exact (s1.ext xg).other h6 ((s1.ext xg).apart ho' (by decide)).1
                · rw [HPE1.out hpn]
                  obtain rfl : p = nl := by omega
                  have hes := HES1.out hpn
                  rw [hes] at oo oi
                  clear hes
                  simp only [lowI]
                  go_wp2_with fail
                  go_roundg (k - (t + 1))
                  case measure => omega
                  case rel => exact ⟨t + 1, lc + p, A4, c4, by omega, by go_num, rfl, HLEN, oo, oi, W⟩
      · obtain rfl : l = N := by omega
        have eL := bs_end htN HLN.out
        rw [eL] at oo
        clear eL HLN oi hbl1 hbl2
        obtain ⟨gl, rfl, _⟩ := oo.head (by omega)
        have g0 : IntKind.i64.wrap ((l : Int) - 1) = (l : Int) - 1 := IntWalk.i64_in _ (by omega)
        have oR : Own (wA.alloc (.cells #[] 2)) wA.heap.size 2 (.slice (some ⟨wA.heap.size, 0, none⟩) 0 0) (ints (natI ((breL l G).take 0))) := Own.empty wA 2
        have hy : Ext wA (wA.alloc (.cells #[] 2)) := (Ext.refl _).alloc _
        go_wp2_with fail
        go_loopw [13, 14] (fun u v wr => ∃ j : Nat, j ≤ l ∧ v = .int .i64 ((l : Int) - 1 - j) ∧ ∃ A c, u = .slice A j c ∧ Own wr wA.heap.size 2 (.slice A j c) (ints (natI ((breL l G).take j))) ∧ Ext wA wr) (fun _ v _ => (intOf v + 1).toNat)
        case atStart => exact ⟨0, Nat.zero_le _, congrArg (Value.int .i64) (by omega), _, 0, rfl, oR, hy⟩
        case round =>
          rename World => wB
          clear oR hy c0
          obtain ⟨j, hj, rfl, A5, c5, rfl, oR, hy⟩ := hrel
          by_cases hjl : j < l
          · obtain ⟨i, hi⟩ : ∃ i : Nat, (l : Int) - 1 - j = i := ⟨l - 1 - j, by omega⟩
            rw [hi]
            have hil : i < l := by omega
            have hij : i + j + 1 = l := by omega
            have hiI : (i : Int) < l := by omega
            obtain ⟨hd1, _⟩ := (oo.ext hy).at_ i hil
            rw [ints_nat_get (by rw [bsL_len]; exact hil), breL_at hij] at hd1
            have HTK := Lib.hid (takeS_next (S := breL l G) (p := j) (by rw [breL_len]; exact hjl))
            obtain ⟨x, hx'⟩ : ∃ x, x = (breL l G).getD j 0 := ⟨_, rfl⟩
            rw [← hx'] at hd1 HTK
            have HII := Lib.hid hi
            clear hx' hi
            have g1 : IntKind.i64.wrap ((i : Int) - 1) = (i : Int) - 1 := IntWalk.i64_in _ (by omega)
            have xg : Ext wB (wB.alloc (.cells #[.int .i64 x] 2)) := (Ext.refl _).alloc _
            have ho' := oR.ext xg
            have hl := oR.len
            have hsz := hy.size
            have lgl := (oo.ext hy).lt_size gl rfl
            have hd1' := xg.cell hd1
            go_wp2_with (at_builtin; go_loud (refine wpList_app1 rfl _ _ _ rfl (wB.alloc (.cells #[.int .i64 x] 2)) wA.heap.size 2 (.int .i64 0) 8 Try.underlying22 info_i64 rfl (by decide) (.slice A5 (j) c5) (ints (natI ((breL l G).take j))) rfl wB.heap.size (.int .i64 x) rfl (One.new _ _ _) ho' rfl (by omega) (by simp; omega) ?_); rw [hl]; intro A' c' w9 h5 h6 h7)
            go_roundw
            case rel =>
              refine ⟨j + 1, by omega, congrArg (Value.int .i64) (by have := HII.out; omega), A', c', rfl, ?_, h6.ext (hy.trans xg) ho'⟩
              rw [HTK.out, natI_append, ints_append]
              exact h5
            case measure => simp [intOf]
          · obtain rfl : j = l := by omega
            have e1 : (j : Int) - 1 - j = -1 := by omega
            rw [e1]
            have hT : (breL j G).take j = breL j G := List.take_of_length_le (by rw [breL_len]; exact Nat.le_refl _)
            rw [hT] at oR
            have HLL : Hid ((natI (breL j G)).length = j) := by show _ = _; rw [natI_length, breL_len]
            have hxA := W.ext hx o2
            replace oR := oR.base (Nat.le_trans hx0.size hxA.size)
            replace hx0 := (hx0.trans hxA).trans hy
            clear hT e1 hxA oo hy
            go_wp2_with fail
            refine bodyPost_ret (v := .tuple #[.slice A5 j c5, .bool true]) (by simp only [results, Try.results34]; simp [go_sem]) rfl ?_
            refine ⟨A5, c5, ?_, ?_, hx0⟩
            · rw [HLL.out]
            · rw [HLL.out]; exact oR

end Go.Proofs.Ytkifpligpobiaaa
