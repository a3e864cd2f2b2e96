
/- The root, the program. -/

import Derived.Test.YtkifpligpobiaaaN2
set_option linter.unusedVariables false
set_option linter.unusedSimpArgs false

namespace Go.Proofs.Ytkifpligpobiaaa

open Go.RowKit


set_option maxRecDepth 20000 in
set_option maxHeartbeats 8000000 in
theorem rootAt_any (g : Nat) (lb : Array Value) (eg : ∀ args w, (callFunc g args).run Try.prog w = .ok (.enter g args) w) (N : Nat) (A : Option Addr) (n ca : Nat) (B : Option Addr) (m cb : Nat) (V : Option Addr) (p cv : Nat) (st co : List Int) (va : List Nat) (T : Nat → Nat → Bool) (hsp : IsSp N st co va) (w : World) (hr : Rds w A n (ints st)) (hq : Rds w B m (ints co)) (hv : Rds w V p (flts va))
    (hp : Hid (∀ (i j : Nat) (W : World), i < N → j ≤ i → Ext w W → Calls Try.prog g (#[.int .i64 i, .int .i64 j] ++ lb) W fun e w' => e = .returned (.bool (T i j)) ∧ Ext W w')) :
    Calls Try.prog 81 #[.agg #[.int .i64 N, .slice A n ca, .slice B m cb, .slice V p cv], .func (.func g) #[] lb] w (RetSqB w (rtD N T (vw st co va m))) := by
  have HSP := Lib.hid hsp
  have hn1 : 1 ≤ N := by have := hsp.s1; omega
  have hn32 : N ≤ 32 := by have := hsp.s1; omega
  clear hsp
  obtain ⟨M, hM⟩ : ∃ M, M = vw st co va m := ⟨_, rfl⟩
  rw [← hM]
  have HV := Lib.hid hM
  obtain ⟨D, hD⟩ : ∃ D, D = rtD N T M := ⟨_, rfl⟩
  rw [← hD]
  have HD := Lib.hid hD
  clear hM hD
  have hmk := make_map_run
  go_enter Try.func81, Try.ntmps81
  go_upto_region 1 with (fail)
  obtain ⟨w0, hw0⟩ : ∃ w0, w0 = ((w.alloc (.cells #[.int .i64 N, .slice A n ca, .slice B m cb, .slice V p cv] 27)).alloc (.cells #[.int .i64 0, .slice none 0 0, .slice none 0 0, .slice none 0 0] 27)) := ⟨_, rfl⟩
  have hx0 : Ext w w0 := by subst hw0; exact ((Ext.refl _).alloc _).alloc _
  have ba : Blk w0 (w.heap.size) #[.int .i64 N, .slice A n ca, .slice B m cb, .slice V p cv] 27 := by subst hw0; exact (Blk.new w _ _).ext ((Ext.refl _).alloc _)
  have b1 : Blk w0 (w.heap.size + 1) #[.int .i64 0, .slice none 0 0, .slice none 0 0, .slice none 0 0] 27 := by subst hw0; simpa using (Blk.new (w.alloc (.cells #[.int .i64 N, .slice A n ca, .slice B m cb, .slice V p cv] 27)) _ _)
  rw [← hw0]
  clear hw0
  have c0 := ba.cell 0 rfl
  have c1 := ba.cell 1 rfl
  have c2 := ba.cell 2 rfl
  have c3 := ba.cell 3 rfl

  go_wp2_with fail
  refine (numbers_any N A n ca B m cb V p cv st co va HSP.out _ (hr.below hx0) (hq.below hx0) (hv.below hx0)).mono ?_
  rw [← HV.out]
  rintro e w2 ⟨b2, rfl, hm2, _, hx⟩
  replace ba := ba.ext hx
  replace b1 := b1.ext hx
  replace hx0 := hx0.trans hx
  clear hx c0 c1 c2 c3
  go_upto_region 2 with (fail)
  have hm4 : MapV (w2.alloc (.map #[] 0)) w2.heap.size (N * N) N noneM := (MapV.empty w2 N).tight
  have hxx : Ext w2 (w2.alloc (.map #[] 0)) := (Ext.refl _).alloc _
  obtain ⟨w3, hw3⟩ : ∃ v : World, v = w2.alloc (.map #[] 0) := ⟨_, rfl⟩
  obtain ⟨b4, hb⟩ : ∃ b, b = w2.heap.size := ⟨_, rfl⟩
  have hb4 : w2.heap.size ≤ b4 := by omega
  rw [← hw3, ← hb] at hm4
  rw [← hw3] at hxx
  rw [← hw3, ← hb]
  clear hw3 hb hmk
  have c0 := (ba.ext hxx).cell 0 rfl
  go_wp2_with fail
  clear c0
  go_loopw [21] (fun u wr => ∃ i : Nat, i ≤ N ∧ u = .int .i64 i ∧ ∃ L, Hid (rtAll T M i = some L) ∧ Hid (RtI T i 0 L) ∧ MapV wr b4 (N * N) N L ∧ Ext w2 wr) (fun u _ => N - (intOf u).toNat)
  case atStart => exact ⟨0, Nat.zero_le _, rfl, noneM, rfl, RtI.zero, hm4, hxx⟩
  case round =>
    rename World => wA
    clear hm4 hxx
    obtain ⟨i, hi, rfl, L, HL, HI, hm4, hx⟩ := hrel
    by_cases hlt : i < N
    · have hg1 : IntKind.i64.wrap ((i : Int) + 1) = (i : Int) + 1 := IntWalk.i64_in _ (by omega)
      go_wp2_with fail
      go_loopw [26] (fun u wr => ∃ j : Nat, j ≤ i + 1 ∧ u = .int .i64 j ∧ ∃ L, Hid (rtRow T M i j (rtAll T M i) = some L) ∧ Hid (RtI T i j L) ∧ MapV wr b4 (N * N) N L ∧ Ext w2 wr) (fun u _ => i + 1 - (intOf u).toNat)
      case atStart => exact ⟨0, Nat.zero_le _, rfl, L, HL, HI, hm4, hx⟩
      case round =>
        rename World => wB
        clear hm4 hx HL HI
        clear L
        obtain ⟨j, hj, rfl, L, HL, HI, hm4, hx⟩ := hrel
        by_cases hji : j ≤ i
        · have hjn : j < N := by omega
          have hg2 : IntKind.i64.wrap ((j : Int) + 1) = (j : Int) + 1 := IntWalk.i64_in _ (by omega)
          have hji1 : (j : Int) < (i : Int) + 1 := by omega
          go_wp2_with fail
          refine (hp.out i j _ hlt hji (hx0.trans hx)).mono ?_
          rintro e w5 ⟨rfl, hx5⟩
          replace hm4 := hm4.ext hx5
          replace hx := hx.trans hx5
          clear hx5
          cases ht : T i j with
          | false =>
            have HC := Lib.hid (rtC_off (M := M) (L := L) ht)
            clear ht
            go_wp2_with fail
            go_roundw
            case rel => exact ⟨j + 1, by omega, by go_num, L, rtRow_next HL.out HC.out, HI.out.next hji HC.out, hm4, hx⟩
            case measure => simp [intOf]; omega
          | true =>
            have HTT := Lib.hid ht
            obtain ⟨f0, hl0, hc0⟩ := (hm2.ext hx).look1 hn32 hlt hjn
            simp only [placeV] at hl0
            have HF0 : Hid (c32 f0 = sumM M L i j 0) := hc0
            clear hc0 ht
            go_wp2_with fail
            clear hl0
            go_loopw [10, 40] (fun u v wr => ∃ p : Nat, p ≤ j ∧ v = .int .i64 p ∧ ∃ f, u = .float .f32 f ∧ Hid (c32 f = sumM M L i j p) ∧ Ext w5 wr) (fun _ v _ => j - (intOf v).toNat)
            case atStart => exact ⟨0, Nat.zero_le _, rfl, f0, rfl, HF0, Ext.refl _⟩
            case round =>
              rename World => wC
              clear HF0
              obtain ⟨p, hp', rfl, f, rfl, HF, hxc⟩ := hrel
              replace hm4 := hm4.ext hxc
              replace hx := hx.trans hxc
              by_cases hpj : p < j
              · have hpn : p < N := by omega
                have hg3 : IntKind.i64.wrap ((p : Int) + 1) = (p : Int) + 1 := IntWalk.i64_in _ (by omega)
                obtain ⟨e1, e2⟩ := HI.out.both hji hpj
                obtain ⟨x1, hl1, hm1⟩ := hm4.look hn32 hlt hpn
                obtain ⟨x2, hl2, hm2_⟩ := hm4.look hn32 hjn hpn
                rw [e1] at hl1
                rw [e2] at hl2
                simp only [placeV] at hl1 hl2
                have HM1 := Lib.hid hm1
                have HM2 := Lib.hid hm2_
                clear hm1 hm2_ e1 e2
                cases h1p : T i p with
                | false =>
                  rw [h1p] at hl1
                  have HS := Lib.hid (sumM_off1 (M := M) HI.out hji hpj h1p)
                  clear h1p
                  cases h2p : T j p <;> rw [h2p] at hl2 <;> clear h2p
                  all_goals (
                    go_wp2_with fail
                    go_roundw
                    case rel => exact ⟨p + 1, by omega, by go_num, f, rfl, HF.out.trans HS.out.symm, hxc⟩
                    case measure => (simp [intOf]; omega))
                | true =>
                  rw [h1p] at hl1
                  cases h2p : T j p with
                  | false =>
                    rw [h2p] at hl2
                    have HS := Lib.hid (sumM_off2 (M := M) HI.out hji hpj h2p)
                    clear h1p h2p
                    go_wp2_with fail
                    go_roundw
                    case rel => exact ⟨p + 1, by omega, by go_num, f, rfl, HF.out.trans HS.out.symm, hxc⟩
                    case measure => simp [intOf]; omega
                  | true =>
                    rw [h2p] at hl2
                    have HS := Lib.hid (sumM_on (M := M) HI.out hji hpj h1p h2p)
                    clear h1p h2p
                    go_wp2_with fail
                    refine (mul_any x1 x2 _).mono ?_
                    rintro e w7 ⟨r, rfl, hrv, hx7⟩
                    obtain ⟨fr, w8, hrr, hx8, hcr⟩ := run_fop (P := Try.prog) w7 .sub (.inr (.inl rfl)) 43 .f32 f r
                    have HFR : Hid (c32 fr = sumM M L i j (p + 1)) := by
                      have h8 : c32 fr = fop .sub .f32 (c32 f) (c32 r) := hcr
                      show _ = _
                      rw [h8, HF.out, hrv, HM1.out, HM2.out, HS.out]
                    replace hxc := (hxc.trans hx7).trans hx8
                    clear hl1 hl2 hcr hrv
                    go_wp2_with (simp only [hrr])
                    go_roundw
                    case rel => exact ⟨p + 1, by omega, by go_num, fr, rfl, HFR, hxc⟩
                    case measure => simp [intOf]; omega
              · obtain rfl : p = j := by omega
                by_cases hjl : p < i
                · obtain ⟨x1, hl1, hm1⟩ := hm4.look1 hn32 hjn hjn
                  simp only [placeV] at hl1
                  obtain ⟨fr, w7, hrr, hx7, hcr⟩ := run_fop (P := Try.prog) wC .quo (.inr (.inr (.inr rfl))) 43 .f32 f x1
                  have hcr' : c32 fr = fdiv (sumM M L i p p) ((L p p).getD (some 0)) := by rw [← HF.out, ← hm1]; exact hcr
                  have HC := Lib.hid (rtC_div (M := M) (L := L) HTT.out hjl)
                  rw [← hcr'] at HC
                  clear hm1 hcr hcr'
                  obtain ⟨w8, hrun, hm5, hg⟩ := (hm4.ext hx7).update hn32 hlt hjn fr
                  simp only [placeV] at hrun
                  have hx9 := MapV.ge hg (hx.trans hx7) hb4
                  clear hm4
                  go_wp2_with (simp only [hrr])
                  go_roundw
                  case rel => exact ⟨p + 1, by omega, by go_num, _, rtRow_next HL.out HC.out, HI.out.next hji HC.out, hm5, hx9⟩
                  case measure => simp [intOf]; omega

                · have hgt : gt0 (c32 f) = gt0 (sumM M L i p p) := by rw [HF.out]
                  cases hg : gt0 (c32 f) with
                  | true =>
                    have HC := Lib.hid (rtC_root (M := M) (L := L) HTT.out hjl (hgt.symm.trans hg))
                    rw [← gt0_c32] at hg
                    clear hgt
                    go_wp2_with fail
                    refine (RootNumber_any f _).mono ?_
                    rintro e w7 ⟨fr, rfl, hcr, hx7⟩
                    rw [HF.out] at hcr
                    rw [← hcr] at HC
                    clear hcr hg
                    obtain ⟨w8, hrun, hm5, hg⟩ := (hm4.ext hx7).update hn32 hlt hjn fr
                    simp only [placeV] at hrun
                    have hx9 := MapV.ge hg (hx.trans hx7) hb4
                    clear hm4
                    go_wp2_with fail
                    go_roundw
                    case rel => exact ⟨p + 1, by omega, by go_num, _, rtRow_next HL.out HC.out, HI.out.next hji HC.out, hm5, hx9⟩
                    case measure => simp [intOf]; omega

                  | false =>
                    have hd : D = SD.bad := HD.out.trans (rtD_bad hlt hji HL.out (rtC_neg HTT.out hjl (hgt.symm.trans hg)))
                    rw [← gt0_c32] at hg
                    clear hgt hm4
                    replace b1 := b1.ext hx
                    replace hx0 := hx0.trans hx
                    clear hx
                    have y0 := b1.cell 0 rfl
                    have y1 := b1.cell 1 rfl
                    have y2 := b1.cell 2 rfl
                    have y3 := b1.cell 3 rfl
                    have f0 := b1.free 0
                    have f1 := b1.free 1
                    have f2 := b1.free 2
                    have f3 := b1.free 3
                    have hq0 := b1.lt
                    go_wp2_with fail
                    have d0 := b1.set 0 (.int .i64 0)
                    have d1 := d0.set 1 (.slice none 0 0)
                    have d2 := d1.set 2 (.slice none 0 0)
                    have d3 := d2.set 3 (.slice none 0 0)
                    have x2 := ((((hx0.set (p := ⟨w.heap.size + 1, 0, none⟩) (by simp; try omega) (.int .i64 0)).set (p := ⟨w.heap.size + 1, 1, none⟩) (by simp; try omega) (.slice none 0 0)).set (p := ⟨w.heap.size + 1, 2, none⟩) (by simp; try omega) (.slice none 0 0)).set (p := ⟨w.heap.size + 1, 3, none⟩) (by simp; try omega) (.slice none 0 0))
                    have r0 := d3.cell 0 rfl
                    have r1 := d3.cell 1 rfl
                    have r2 := d3.cell 2 rfl
                    have r3 := d3.cell 3 rfl
                    refine bodyPost_ret (v := .tuple #[.agg #[.int .i64 0, .slice none 0 0, .slice none 0 0, .slice none 0 0], .bool false]) (by simp only [results, Try.results81]; simp [go_sem, r0, r1, r2, r3]) rfl (RetSqB.bad hd rfl x2)
        · obtain rfl : j = i + 1 := by omega
          have hnj : ¬ (((i + 1 : Nat) : Int) < (i : Int) + 1) := by omega
          go_wp2_with fail
          go_roundw
          case rel => exact ⟨i + 1, by omega, by go_num, L, HL, HI.out.row, hm4, hx⟩
          case measure => simp [intOf]; omega
    · obtain rfl : i = N := by omega
      have hd := HD.out.trans (rtD_good HL.out)
      have HD2 := Lib.hid hd
      clear hd
      replace ba := ba.ext hx
      replace b1 := b1.ext hx
      replace hx0 := hx0.trans hx
      clear hx
      have c0 := ba.cell 0 rfl
      go_wp2_with fail
      refine (told_any b4 (i * i) i _ hn1 hn32 _ hm4).mono ?_
      rw [← HD2.out]
      rintro e w6 ⟨A'', kA, B'', kB, V'', kV, rfl, p1, p2, p3, n12, n13, n23, hx⟩
      clear c0 hm4 ba
      replace p1 := p1.base hx0.size
      replace p2 := p2.base hx0.size
      replace p3 := p3.base hx0.size
      replace b1 := b1.ext hx
      replace hx0 := hx0.trans hx
      clear hx
      have y0 := b1.cell 0 rfl
      have y1 := b1.cell 1 rfl
      have y2 := b1.cell 2 rfl
      have y3 := b1.cell 3 rfl
      have f0 := b1.free 0
      have f1 := b1.free 1
      have f2 := b1.free 2
      have f3 := b1.free 3
      have hq0 := b1.lt
      go_wp2_with fail
      have d0 := b1.set 0 (.int .i64 D.sd)
      have d1 := d0.set 1 (.slice A'' D.st.length kA)
      have d2 := d1.set 2 (.slice B'' D.co.length kB)
      have d3 := d2.set 3 (.slice V'' D.va.length kV)
      have q1 := ((((p1.setBlk b1 (by decide) 0 (.int .i64 D.sd)).setBlk d0 (by decide) 1 (.slice A'' D.st.length kA)).setBlk d1 (by decide) 2 (.slice B'' D.co.length kB)).setBlk d2 (by decide) 3 (.slice V'' D.va.length kV))
      have q2 := ((((p2.setBlk b1 (by decide) 0 (.int .i64 D.sd)).setBlk d0 (by decide) 1 (.slice A'' D.st.length kA)).setBlk d1 (by decide) 2 (.slice B'' D.co.length kB)).setBlk d2 (by decide) 3 (.slice V'' D.va.length kV))
      have q3 := ((((p3.setBlk b1 (by decide) 0 (.int .i64 D.sd)).setBlk d0 (by decide) 1 (.slice A'' D.st.length kA)).setBlk d1 (by decide) 2 (.slice B'' D.co.length kB)).setBlk d2 (by decide) 3 (.slice V'' D.va.length kV))
      have x2 := ((((hx0.set (p := ⟨w.heap.size + 1, 0, none⟩) (by simp; try omega) (.int .i64 D.sd)).set (p := ⟨w.heap.size + 1, 1, none⟩) (by simp; try omega) (.slice A'' D.st.length kA)).set (p := ⟨w.heap.size + 1, 2, none⟩) (by simp; try omega) (.slice B'' D.co.length kB)).set (p := ⟨w.heap.size + 1, 3, none⟩) (by simp; try omega) (.slice V'' D.va.length kV))
      have r0 := d3.cell 0 rfl
      have r1 := d3.cell 1 rfl
      have r2 := d3.cell 2 rfl
      have r3 := d3.cell 3 rfl
      refine bodyPost_ret (v := .tuple #[.agg #[.int .i64 D.sd, .slice A'' D.st.length kA, .slice B'' D.co.length kB, .slice V'' D.va.length kV], .bool D.ok]) (by simp only [results, Try.results81]; simp [go_sem, r0, r1, r2, r3]) rfl ?_
      exact ⟨A'', kA, B'', kB, V'', kV, rfl, q1, q2, q3, n12, n13, n23, x2⟩
end Go.Proofs.Ytkifpligpobiaaa
