
/- The lower part, the program. -/

import Derived.Test.YtkifpligpobiaaaN6
set_option linter.unusedVariables false
set_option linter.unusedSimpArgs false

namespace Go.Proofs.Ytkifpligpobiaaa

open Go.RowKit


/-- A place is struck from the map. -/
theorem MapV.del {w' : World} {b cnt n i j : Nat} {M : Sqr} {D : DataW Unit} (hn : n ≤ 32) (hi : i < n) (hj : j < n) (h1 : ∀ i j, i < n → j < n → MapAt D i j (M i j)) (h2 : ∀ kl, Maps.has D kl = true → ∃ i j : Nat, i < n ∧ j < n ∧ kl = kp i j)
    (ho : w'.ownsMap Try.prog 95 fltR b cnt (D.del (kp i j))) : MapV w' b cnt n (updM M i j none) := by
  refine ⟨_, ho, fun a c ha hc => ?_, fun kl h => ?_⟩
  · by_cases e : a = i ∧ c = j
    · obtain ⟨rfl, rfl⟩ := e
      rw [updM_same]
      exact Maps.has_del_same
    · rw [updM_other _ e]
      have hne : kp a c ≠ kp i j := fun h => e (kp_inj (by omega) (by omega) (by omega) (by omega) h)
      have h := h1 a c ha hc
      unfold MapAt at h ⊢
      cases hM : M a c with
      | none => rw [hM] at h; rw [Maps.has_del_other hne]; exact h
      | some v =>
        rw [hM] at h
        obtain ⟨g1, y, g2, g3⟩ := h
        exact ⟨by rw [Maps.has_del_other hne]; exact g1, y, fun zd => by rw [Maps.atKey_del_other hne]; exact g2 zd, g3⟩
  · by_cases e : kl = kp i j
    · exact ⟨i, j, hi, hj, e⟩
    · rw [Maps.has_del_other e] at h
      exact h2 kl h
section

variable {w : World} {ops : Array Oper} {rest : List Oper} {o : Oper} {a : Act} {Q : Exit → Act → World → Prop}

theorem wpList_delete_V (hg : o.guard = none) (m x : Operand) (hop : o.op = Op.call { callee := Callee.builtin Builtin.delete, args := #[m, x], argTypes := #[92, 95] })
    (b cnt n i j : Nat) (M : Sqr) (hm : a.eval m = .map (some b)) (h : MapV w b cnt n M) (hn : n ≤ 32) (hi : i < n) (hj : j < n) (hx : a.eval x = placeV i j)
    (hK : ∀ w', MapV w' b cnt n (updM M i j none) → w.grownBy w' (some b) → wpList Try.prog ops Q rest (a.put o.dst (.tuple #[])) w') :
    wpList Try.prog ops Q (o :: rest) a w := by
  obtain ⟨D, ho, h1, h2⟩ := h
  exact wpList_delete_own w hg m x _ _ hop _ place_law Try.underlying92 fltR b cnt D hm ho (placeV i j) (kp i j) hx (kp_key (nat_wf (i := i) (by omega)) (nat_wf (i := j) (by omega))) fun w' h3 h4 => hK w' (MapV.del hn hi hj h1 h2 h3) h4.grown
end

/-- The upper part is being struck. -/
def dlS (M : Sqr) (i j : Nat) : Sqr := fun a b => if (a < i ∧ a < b) ∨ (a = i ∧ a < b ∧ b < j) then none else M a b
theorem dlS_zero (M : Sqr) : dlS M 0 1 = M := by
  funext a b
  unfold dlS
  rw [if_neg (by omega)]
theorem dlS_step {M : Sqr} {i j : Nat} (h : i < j) : updM (dlS M i j) i j none = dlS M i (j + 1) := by
  funext a b
  by_cases e : a = i ∧ b = j
  · obtain ⟨rfl, rfl⟩ := e
    rw [updM_same]
    unfold dlS
    rw [if_pos (by omega)]
  · rw [updM_other _ e]
    unfold dlS
    by_cases k : (a < i ∧ a < b) ∨ (a = i ∧ a < b ∧ b < j)
    · rw [if_pos k, if_pos (by omega)]
    · rw [if_neg k, if_neg (by omega)]
theorem dlS_row {M : Sqr} {n i : Nat} : ∀ a b, a < n → b < n → dlS M i n a b = dlS M (i + 1) (i + 2) a b := by
  intro a b ha hb
  unfold dlS
  by_cases k : (a < i ∧ a < b) ∨ (a = i ∧ a < b ∧ b < n)
  · rw [if_pos k, if_pos (by omega)]
  · rw [if_neg k, if_neg (by omega)]
/-- The lower part. -/
def lowM (M : Sqr) : Sqr := fun a b => if b ≤ a then M a b else none
theorem dlS_end {M : Sqr} {n j : Nat} : ∀ a b, a < n → b < n → dlS M n j a b = lowM M a b := by
  intro a b ha hb
  unfold dlS lowM
  by_cases k : b ≤ a
  · rw [if_pos k, if_neg (by omega)]
  · rw [if_neg k, if_pos (by omega)]
def RetLow (w : World) (d : SD) (e : Ending) (w' : World) : Prop := ∃ A k B l V q, e = .returned (.agg #[.int .i64 d.sd, .slice A d.st.length k, .slice B d.co.length l, .slice V d.va.length q]) ∧ Own w' w.heap.size 2 (.slice A d.st.length k) (ints d.st) ∧ Own w' w.heap.size 2 (.slice B d.co.length l) (ints d.co) ∧ Own w' w.heap.size 43 (.slice V d.va.length q) (flts d.va) ∧ Ext w w'

set_option maxRecDepth 20000 in
set_option maxHeartbeats 8000000 in
theorem lower_any (N : Nat) (A : Option Addr) (n ca : Nat) (B : Option Addr) (m cb : Nat) (V : Option Addr) (p cv : Nat) (st co : List Int) (va : List Nat) (hsp : IsSp N st co va) (w : World) (hr : Rds w A n (ints st)) (hq : Rds w B m (ints co)) (hv : Rds w V p (flts va)) :
    Calls Try.prog 78 #[.agg #[.int .i64 N, .slice A n ca, .slice B m cb, .slice V p cv]] w (RetLow w (giveSp N (lowM (vw st co va m)))) := by
  have HSP := Lib.hid hsp
  have hn1 : 1 ≤ N := by have := hsp.s1; omega
  have hn32 : N ≤ 32 := by have := hsp.s1; omega
  clear hsp
  obtain ⟨M, hM⟩ : ∃ M, M = vw st co va m := ⟨_, rfl⟩
  rw [← hM]
  have HV := Lib.hid hM
  obtain ⟨D, hD⟩ : ∃ D, D = giveSp N (lowM M) := ⟨_, rfl⟩
  rw [← hD]
  have HD := Lib.hid hD
  clear hM hD
  go_enter Try.func78, Try.ntmps78
  go_upto_region 1 with (fail)
  obtain ⟨w0, hw0⟩ : ∃ w0, w0 = ((w.alloc (.cells #[.int .i64 N, .slice A n ca, .slice B m cb, .slice V p cv] 27)).alloc (.cells #[.int .i64 0, .slice none 0 0, .slice none 0 0, .slice none 0 0] 27)) := ⟨_, rfl⟩
  have hx0 : Ext w w0 := by subst hw0; exact ((Ext.refl _).alloc _).alloc _
  have ba : Blk w0 (w.heap.size) #[.int .i64 N, .slice A n ca, .slice B m cb, .slice V p cv] 27 := by subst hw0; exact (Blk.new w _ _).ext ((Ext.refl _).alloc _)
  have b1 : Blk w0 (w.heap.size + 1) #[.int .i64 0, .slice none 0 0, .slice none 0 0, .slice none 0 0] 27 := by subst hw0; simpa using (Blk.new (w.alloc (.cells #[.int .i64 N, .slice A n ca, .slice B m cb, .slice V p cv] 27)) _ _)
  rw [← hw0]
  clear hw0
  have c0 := ba.cell 0 rfl
  have c1 := ba.cell 1 rfl
  have c2 := ba.cell 2 rfl
  have c3 := ba.cell 3 rfl

  go_wp2_with fail
  refine (numbers_any N A n ca B m cb V p cv st co va HSP.out _ (hr.below hx0) (hq.below hx0) (hv.below hx0)).mono ?_
  rw [← HV.out]
  rintro e w2 ⟨b2, rfl, hm2, hb2, hx⟩
  have hsz0 := hx0.size
  replace ba := ba.ext hx
  replace b1 := b1.ext hx
  replace hx0 := hx0.trans hx
  have n1 := hm2.notCells ba
  have n2 := hm2.notCells b1
  replace hb2 := Nat.le_trans hsz0 hb2
  rw [← dlS_zero M] at hm2
  clear hx c0 c1 c2 c3
  have c0 := ba.cell 0 rfl
  go_wp2_with fail
  clear c0
  go_loopw [12] (fun u wr => ∃ i : Nat, i ≤ N ∧ u = .int .i64 i ∧ MapV wr b2 (N * N) N (dlS M i (i + 1)) ∧ Blk wr w.heap.size #[.int .i64 N, .slice A n ca, .slice B m cb, .slice V p cv] 27 ∧ Blk wr (w.heap.size + 1) #[.int .i64 0, .slice none 0 0, .slice none 0 0, .slice none 0 0] 27 ∧ Ext w wr) (fun u _ => N - (intOf u).toNat)
  case atStart => exact ⟨0, Nat.zero_le _, rfl, hm2, ba, b1, hx0⟩
  case round =>
    rename World => wA
    clear hm2 ba b1 hx0
    obtain ⟨i, hi, rfl, hm2, ba, b1, hx0⟩ := hrel
    by_cases hlt : i < N
    · have hg1 : IntKind.i64.wrap ((i : Int) + 1) = (i : Int) + 1 := IntWalk.i64_in _ (by omega)
      go_wp2_with fail
      go_loopw [5] (fun u wr => ∃ j : Nat, i < j ∧ j ≤ N ∧ u = .int .i64 j ∧ MapV wr b2 (N * N) N (dlS M i j) ∧ Blk wr w.heap.size #[.int .i64 N, .slice A n ca, .slice B m cb, .slice V p cv] 27 ∧ Blk wr (w.heap.size + 1) #[.int .i64 0, .slice none 0 0, .slice none 0 0, .slice none 0 0] 27 ∧ Ext w wr) (fun u _ => N - (intOf u).toNat)
      case atStart => exact ⟨i + 1, by omega, by omega, by go_num, hm2, ba, b1, hx0⟩
      case round =>
        rename World => wB
        clear hm2 ba b1 hx0
        obtain ⟨j, hij, hj, rfl, hm2, ba, b1, hx0⟩ := hrel
        have c0 := ba.cell 0 rfl
        by_cases hjn : j < N
        · have hg2 : IntKind.i64.wrap ((j : Int) + 1) = (j : Int) + 1 := IntWalk.i64_in _ (by omega)
          go_wp2_with (at_delete; refine wpList_delete_V rfl _ _ rfl b2 (N * N) N i j _ rfl hm2 hn32 hlt hjn rfl ?_; intro w5 hm5 hg)
          rw [dlS_step hij] at hm5
          have ba5 := ba.grown hg n1
          have b15 := b1.grown hg n2
          have hx5 := MapV.ge hg hx0 hb2
          clear hm2 ba b1 hx0 c0
          go_roundw
          case rel => exact ⟨j + 1, by omega, by omega, by go_num, hm5, ba5, b15, hx5⟩
          case measure => simp [intOf]; omega
        · obtain rfl : j = N := by omega
          replace hm2 := hm2.congr dlS_row
          go_wp2_with fail
          go_roundw
          case rel => exact ⟨i + 1, by omega, by go_num, hm2, ba, b1, hx0⟩
          case measure => simp [intOf]; omega
    · obtain rfl : i = N := by omega
      replace hm2 := hm2.congr dlS_end
      have c0 := ba.cell 0 rfl
      go_wp2_with fail
      refine (told_any b2 (i * i) i _ hn1 hn32 _ hm2).mono ?_
      rw [← HD.out]
      rintro e w6 ⟨A', kA, B', kB, V', kV, rfl, p1, p2, p3, n12, n13, n23, hx⟩
      clear c0 hm2 ba
      replace p1 := p1.base hx0.size
      replace p2 := p2.base hx0.size
      replace p3 := p3.base hx0.size
      replace b1 := b1.ext hx
      replace hx0 := hx0.trans hx
      clear hx
      go_upto_region 11 with (fail)
      have xg : Ext w6 (w6.alloc (.cells #[.int .i64 D.sd, .slice A' D.st.length kA, .slice B' D.co.length kB, .slice V' D.va.length kV] 27)) := (Ext.refl _).alloc _
      have bt := Blk.new w6 #[.int .i64 D.sd, .slice A' D.st.length kA, .slice B' D.co.length kB, .slice V' D.va.length kV] 27
      obtain ⟨w7, hw7⟩ : ∃ v : World, v = w6.alloc (.cells #[.int .i64 D.sd, .slice A' D.st.length kA, .slice B' D.co.length kB, .slice V' D.va.length kV] 27) := ⟨_, rfl⟩
      obtain ⟨tb_, htb⟩ : ∃ tb_, tb_ = w6.heap.size := ⟨_, rfl⟩
      rw [← hw7] at xg
      rw [← hw7, ← htb] at bt
      rw [← hw7, ← htb]
      clear hw7 htb
      replace p1 := p1.ext xg
      replace p2 := p2.ext xg
      replace p3 := p3.ext xg
      replace b1 := b1.ext xg
      replace hx0 := hx0.trans xg
      clear xg
      have t0 := bt.cell 0 rfl
      have t1 := bt.cell 1 rfl
      have t2 := bt.cell 2 rfl
      have t3 := bt.cell 3 rfl
      have y0 := b1.cell 0 rfl
      have y1 := b1.cell 1 rfl
      have y2 := b1.cell 2 rfl
      have y3 := b1.cell 3 rfl
      have f0 := b1.free 0
      have f1 := b1.free 1
      have f2 := b1.free 2
      have f3 := b1.free 3
      have hq0 := b1.lt
      go_wp2_with fail
      have d0 := b1.set 0 (.int .i64 D.sd)
      have d1 := d0.set 1 (.slice A' D.st.length kA)
      have d2 := d1.set 2 (.slice B' D.co.length kB)
      have d3 := d2.set 3 (.slice V' D.va.length kV)
      have q1 := ((((p1.setBlk b1 (by decide) 0 (.int .i64 D.sd)).setBlk d0 (by decide) 1 (.slice A' D.st.length kA)).setBlk d1 (by decide) 2 (.slice B' D.co.length kB)).setBlk d2 (by decide) 3 (.slice V' D.va.length kV))
      have q2 := ((((p2.setBlk b1 (by decide) 0 (.int .i64 D.sd)).setBlk d0 (by decide) 1 (.slice A' D.st.length kA)).setBlk d1 (by decide) 2 (.slice B' D.co.length kB)).setBlk d2 (by decide) 3 (.slice V' D.va.length kV))
      have q3 := ((((p3.setBlk b1 (by decide) 0 (.int .i64 D.sd)).setBlk d0 (by decide) 1 (.slice A' D.st.length kA)).setBlk d1 (by decide) 2 (.slice B' D.co.length kB)).setBlk d2 (by decide) 3 (.slice V' D.va.length kV))
      have x2 := ((((hx0.set (p := ⟨w.heap.size + 1, 0, none⟩) (by simp; try omega) (.int .i64 D.sd)).set (p := ⟨w.heap.size + 1, 1, none⟩) (by simp; try omega) (.slice A' D.st.length kA)).set (p := ⟨w.heap.size + 1, 2, none⟩) (by simp; try omega) (.slice B' D.co.length kB)).set (p := ⟨w.heap.size + 1, 3, none⟩) (by simp; try omega) (.slice V' D.va.length kV))
      have r0 := d3.cell 0 rfl
      have r1 := d3.cell 1 rfl
      have r2 := d3.cell 2 rfl
      have r3 := d3.cell 3 rfl
      refine bodyPost_ret (v := .agg #[.int .i64 D.sd, .slice A' D.st.length kA, .slice B' D.co.length kB, .slice V' D.va.length kV]) (by simp only [results, Try.results78]; simp [go_sem, r0, r1, r2, r3]) rfl ?_
      exact ⟨A', kA, B', kB, V', kV, rfl, q1, q2, q3, x2⟩

end Go.Proofs.Ytkifpligpobiaaa
