
/- SparseFill, the program. -/

import Derived.Test.YtkifpligpobiaaaH7

import Derived.Test.YtkifpligpobiaaaH3
set_option linter.unusedVariables false
set_option linter.unusedSimpArgs false

namespace Go.Proofs.Ytkifpligpobiaaa

open Go.RowKit


def filk (n : Nat) (B : Grf) (k : Nat) : List Nat := (List.range k).map fun i => (lsB n (stB B i i)).length + 1
theorem filk_next (n : Nat) (B : Grf) (k : Nat) : filk n B (k + 1) = filk n B k ++ [(lsB n (stB B k k)).length + 1] := by unfold filk; rw [List.range_succ, List.map_append]; rfl
theorem filk_len (n : Nat) (B : Grf) (k : Nat) : (filk n B k).length = k := by simp [filk]
def fiS (n : Nat) (B : Grf) : Nat → Nat
  | 0 => 0
  | k + 1 => fiS n B k + ((lsB n (stB B k k)).length + 1)
theorem fiS_le (n : Nat) (B : Grf) (hn : n ≤ 32) : ∀ k, fiS n B k ≤ 33 * k
  | 0 => Nat.le_refl _
  | k + 1 => by
    have h1 := fiS_le n B hn k
    have h2 := lsB_len n (stB B k k)
    show fiS n B k + _ ≤ _
    omega
/-- What SparseFill answers. -/
noncomputable def filD (sd : Int) (st co : List Int) (va : List Nat) : List Int × Int × Bool := if isSp sd st co va then (natI (filk sd.toNat (nbM (vw st co va co.length)) sd.toNat), ((fiS sd.toNat (nbM (vw st co va co.length)) sd.toNat : Nat) : Int), true) else ([], 0, false)
def RetLIB (w : World) (d : List Int × Int × Bool) (e : Ending) (w' : World) : Prop := ∃ A c, e = .returned (.tuple #[.slice A d.1.length c, .int .i64 d.2.1, .bool d.2.2]) ∧ Own w' w.heap.size 2 (.slice A d.1.length c) (ints d.1) ∧ Ext w w'

set_option maxRecDepth 20000 in
set_option maxHeartbeats 8000000 in
theorem implSparseFill_any (sd : Int) (A : Option Addr) (n ca : Nat) (B : Option Addr) (m cb : Nat) (V : Option Addr) (p cv : Nat) (st co : List Int) (va : List Nat) (w : World) (hr : Rds w A n (ints st)) (hq : Rds w B m (ints co)) (hv : Rds w V p (flts va)) :
    Calls Try.prog 62 #[.agg #[.int .i64 sd, .slice A n ca, .slice B m cb, .slice V p cv]] w (RetLIB w (filD sd st co va)) := by
  have HM := Lib.hid hq.ilen
  cases hs : isSp sd st co va with
  | false =>
    have hd : filD sd st co va = ([], 0, false) := by unfold filD; rw [hs]; rfl
    rw [hd]
    clear hd
    go_enter Try.func62, Try.ntmps62
    go_upto_region 1 with (fail)
    obtain ⟨w0, hw0⟩ : ∃ w0, w0 = (w.alloc (.cells #[.int .i64 sd, .slice A n ca, .slice B m cb, .slice V p cv] 27)) := ⟨_, rfl⟩
    have hx0 : Ext w w0 := by subst hw0; exact (Ext.refl _).alloc _
    have ba : Blk w0 (w.heap.size) #[.int .i64 sd, .slice A n ca, .slice B m cb, .slice V p cv] 27 := by subst hw0; exact (Blk.new w _ _)
    rw [← hw0]
    clear hw0
    have c0 := ba.cell 0 rfl
    have c1 := ba.cell 1 rfl
    have c2 := ba.cell 2 rfl
    have c3 := ba.cell 3 rfl
    go_wp2_with fail
    refine (implValidSparse_any sd A n ca B m cb V p cv st co va _ (hr.below hx0) (hq.below hx0) (hv.below hx0)).mono ?_
    rintro e w1 ⟨rfl, hx⟩
    rw [hs]
    replace ba := ba.ext hx
    replace hx0 := hx0.trans hx
    clear hx c0 c1 c2 c3
    go_wp2_with fail
    refine bodyPost_ret (v := .tuple #[.slice none 0 0, .int .i64 0, .bool false]) (by simp only [results, Try.results62]; simp [go_sem]) rfl ⟨none, 0, rfl, Own.nil _ _ _, hx0⟩
  | true =>
    have hsp := isSp_iff.1 hs
    obtain ⟨N, rfl⟩ : ∃ N : Nat, sd = N := ⟨sd.toNat, by have := hsp.s1; omega⟩
    have hn1 : 1 ≤ N := by have := hsp.s1; omega
    have hn32 : N ≤ 32 := by have := hsp.s1; omega
    have hd : filD N st co va = (natI (filk N (nbM (vw st co va m)) N), ((fiS N (nbM (vw st co va m)) N : Nat) : Int), true) := by unfold filD; rw [hs, HM.out]; rfl
    rw [hd]
    clear hd
    obtain ⟨G, hG⟩ : ∃ G, G = nbM (vw st co va m) := ⟨_, rfl⟩
    have HSY : Hid (SymB N G) := by rw [hG]; exact nbM_sym N _
    rw [← hG]
    have HG := Lib.hid hG
    have HSP := Lib.hid hsp
    clear hG hsp
    go_enter Try.func62, Try.ntmps62
    go_upto_region 1 with (fail)
    obtain ⟨w0, hw0⟩ : ∃ w0, w0 = (w.alloc (.cells #[.int .i64 N, .slice A n ca, .slice B m cb, .slice V p cv] 27)) := ⟨_, rfl⟩
    have hx0 : Ext w w0 := by subst hw0; exact (Ext.refl _).alloc _
    have ba : Blk w0 (w.heap.size) #[.int .i64 N, .slice A n ca, .slice B m cb, .slice V p cv] 27 := by subst hw0; exact (Blk.new w _ _)
    rw [← hw0]
    clear hw0
    have c0 := ba.cell 0 rfl
    have c1 := ba.cell 1 rfl
    have c2 := ba.cell 2 rfl
    have c3 := ba.cell 3 rfl
    go_wp2_with fail
    refine (implValidSparse_any N A n ca B m cb V p cv st co va _ (hr.below hx0) (hq.below hx0) (hv.below hx0)).mono ?_
    rintro e w1 ⟨rfl, hx⟩
    rw [hs]
    replace ba := ba.ext hx
    replace hx0 := hx0.trans hx
    clear hx c0 c1 c2 c3
    have c0 := ba.cell 0 rfl
    have c1 := ba.cell 1 rfl
    have c2 := ba.cell 2 rfl
    have c3 := ba.cell 3 rfl
    have lA := ba.lt

    go_wp2_with fail
    refine (neighbours_any N A n ca B m cb V p cv st co va HSP.out _ (hr.below (hx0.trans ((Ext.refl _).alloc _))) (hq.below (hx0.trans ((Ext.refl _).alloc _))) (hv.below (hx0.trans ((Ext.refl _).alloc _)))).mono ?_
    rw [← HG.out]
    rintro e w2 ⟨GA, gc, rfl, og, hx⟩
    clear c0 c1 c2 c3 ba lA
    have oo := (Own.empty w1 2).ext hx
    have hx1 : Ext w1 w2 := ((Ext.refl _).alloc _).trans hx
    replace og := og.base (b := w1.heap.size) (by simp)
    obtain ⟨g, rfl, hgb⟩ := og.head (by omega)
    have hgw := og.lt_size g rfl
    clear hx
    go_wp2_with fail
    refine (takenOut_any w1.heap.size g N gc G hn32 _ hgw og).mono ?_
    rintro e w3 ⟨⟨TA, tc, rfl, ot⟩, hw3⟩
    replace oo := oo.other hw3 (oo.apart og (by decide)).1
    replace ot := ot.base (b := w1.heap.size) hx1.size
    replace hx1 := hw3.ext hx1 og
    clear hw3 og hgw hgb
    go_wp2_with fail
    go_loopw [5, 6, 17] (fun u u2 v wr => ∃ i : Nat, i ≤ N ∧ v = .int .i64 i ∧ u2 = .int .i64 (fiS N G i : Nat) ∧ ∃ A c, u = .slice A i c ∧ Own wr w1.heap.size 2 (.slice A i c) (ints (natI (filk N G i))) ∧ Own wr w1.heap.size 86 (.slice TA N tc) (u64s (tkk N G N)) ∧ Ext w1 wr) (fun _ _ v _ => N - (intOf v).toNat)
    case atStart => exact ⟨0, Nat.zero_le _, rfl, rfl, _, _, rfl, oo, ot, hx1⟩
    case round =>
      rename World => wA
      clear ot oo hx1
      obtain ⟨i, hi, rfl, rfl, A1, c1, rfl, oo, ot, hx1⟩ := hrel
      by_cases hlt : i < N
      · have g1 : IntKind.i64.wrap ((i : Int) + 1) = (i : Int) + 1 := IntWalk.i64_in _ (by omega)
        have hltI : (i : Int) < N := by omega
        obtain ⟨ad, hA, hcell⟩ := ot.reads.at' (by omega)
        subst hA
        have hc := hcell i hlt
        rw [u64s_get (by rw [tkk_len]; exact hlt), tkk_at G hlt] at hc
        clear hcell
        have HDE : Hid (∀ W, Calls Try.prog 101 #[.int .u64 (msk N (stB G i i) : Nat)] W fun e w' => e = .returned (.int .i64 (lsB N (stB G i i)).length) ∧ Ext W w') := by show ∀ W, _; exact fun W => degree_any N (stB G i i) hn32 W
        have HFN := Lib.hid (filk_next N G i)
        have HFS : Hid (fiS N G (i + 1) = fiS N G i + ((lsB N (stB G i i)).length + 1)) := by show _ = _; rfl
        have hl32 := lsB_len N (stB G i i)
        have hs32 := fiS_le N G hn32 i
        obtain ⟨mm, hmm⟩ : ∃ mm, mm = msk N (stB G i i) := ⟨_, rfl⟩
        obtain ⟨dd, hdd⟩ : ∃ dd, dd = (lsB N (stB G i i)).length := ⟨_, rfl⟩
        obtain ⟨sm, hsm⟩ : ∃ sm, sm = fiS N G i := ⟨_, rfl⟩
        rw [← hmm] at hc HDE
        rw [← hdd] at HDE HFN HFS hl32
        rw [← hsm] at HFS hs32
        rw [← hsm]
        clear hmm hdd hsm
        have hl := oo.len
        have g5 : IntKind.i64.wrap ((dd : Int) + 1) = (dd : Int) + 1 := IntWalk.i64_in _ (by omega)
        have g6 : IntKind.i64.wrap ((sm : Int) + ((dd : Int) + 1)) = (sm : Int) + ((dd : Int) + 1) := IntWalk.i64_in _ (by omega)
        go_wp2_with fail
        refine (HDE.out _).mono ?_
        rintro e w4 ⟨rfl, hx⟩
        replace oo := oo.ext hx
        replace ot := ot.ext hx
        replace hx1 := hx1.trans hx
        clear hx hc
        have ho' := oo.ext ((Ext.refl w4).alloc (.cells #[.int .i64 ((dd : Int) + 1)] 2))
        have ot' := ot.ext ((Ext.refl w4).alloc (.cells #[.int .i64 ((dd : Int) + 1)] 2))
        have hx2 := hx1.alloc (.cells #[.int .i64 ((dd : Int) + 1)] 2)
        have hsz := hx1.size
        clear oo ot hx1
        go_wp2_with (at_builtin; go_loud (refine wpList_app1 rfl _ _ _ rfl (w4.alloc (.cells #[.int .i64 ((dd : Int) + 1)] 2)) w1.heap.size 2 (.int .i64 0) 8 Try.underlying22 info_i64 rfl (by decide) (.slice A1 i c1) (ints (natI (filk N G i))) rfl w4.heap.size (.int .i64 ((dd : Int) + 1)) rfl (One.new _ _ _) ho' rfl (by omega) (by simp; omega) ?_); rw [hl]; intro A' c' w9 h5 h6 h7)
        have ot9 := ot'.other h6 (ho'.apart ot' (by decide)).2
        have hx9 := h6.ext hx2 ho'
        clear h7 h6 ho' ot' hx2 hsz
        refine (HDE.out _).mono ?_
        rintro e w10 ⟨rfl, hx⟩
        go_wp2_with fail
        go_roundw
        case rel =>
          refine ⟨i + 1, by omega, by go_num, by rw [HFS.out]; go_num, A', c', rfl, ?_, ot9.ext hx, hx9.trans hx⟩
          rw [HFN.out, natI_append, ints_append]
          exact h5.ext hx
        case measure => simp [intOf]; omega
      · obtain rfl : i = N := by omega
        clear ot
        have HL := Lib.hid (show (natI (filk i G i)).length = i by rw [natI_length]; exact filk_len _ _ _)
        replace oo := oo.base hx0.size
        replace hx0 := hx0.trans hx1
        clear hx1
        go_wp2_with fail
        refine bodyPost_ret (v := .tuple #[.slice A1 i c1, .int .i64 (fiS i G i : Nat), .bool true]) (by simp only [results, Try.results62]; simp [go_sem]) rfl ?_
        refine ⟨A1, c1, ?_, ?_, hx0⟩
        · rw [HL.out]
        · rw [HL.out]; exact oo

end Go.Proofs.Ytkifpligpobiaaa
