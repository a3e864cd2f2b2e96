
/- SparseTree, the program. -/

import Derived.Test.YtkifpligpobiaaaH7

import Derived.Test.YtkifpligpobiaaaH3
set_option linter.unusedVariables false
set_option linter.unusedSimpArgs false

namespace Go.Proofs.Ytkifpligpobiaaa

open Go.RowKit


/-- The first of a list; -1. -/
def frI : List Nat → Int
  | [] => -1
  | x :: _ => (x : Int)
def trk (n : Nat) (B : Grf) (k : Nat) : List Int := (List.range k).map fun i => frI (lsB n (stB B i i))
theorem trk_next (n : Nat) (B : Grf) (k : Nat) : trk n B (k + 1) = trk n B k ++ [frI (lsB n (stB B k k))] := by unfold trk; rw [List.range_succ, List.map_append]; rfl
theorem trk_len (n : Nat) (B : Grf) (k : Nat) : (trk n B k).length = k := by simp [trk]
def treL (n : Nat) (B : Grf) : List Int := trk n B n
/-- What SparseTree answers. -/
noncomputable def treD (sd : Int) (st co : List Int) (va : List Nat) : List Int × Bool := if isSp sd st co va then (treL sd.toNat (nbM (vw st co va co.length)), true) else ([], false)
theorem msk_nil {n : Nat} {f : Nat → Bool} (h : lsB n f = []) : msk n f = 0 := by
  rw [← msk_false n]
  apply msk_congr
  intro k hk
  cases hf : f k with
  | false => rfl
  | true =>
    have : k ∈ lsB n f := lsB_mem.2 ⟨hk, hf⟩
    rw [h] at this
    cases this
theorem msk_cons {n x : Nat} {f : Nat → Bool} {l : List Nat} (h : lsB n f = x :: l) : msk n f ≠ 0 := by
  intro h0
  have : x ∈ lsB n f := by rw [h]; exact List.mem_cons_self
  have h1 := lsB_mem.1 this
  have := msk_zero h0 h1.1
  rw [h1.2] at this
  cases this
theorem natI_cons (x : Nat) (l : List Nat) : natI (x :: l) = (x : Int) :: natI l := rfl

set_option maxRecDepth 20000 in
set_option maxHeartbeats 8000000 in
theorem implSparseTree_any (sd : Int) (A : Option Addr) (n ca : Nat) (B : Option Addr) (m cb : Nat) (V : Option Addr) (p cv : Nat) (st co : List Int) (va : List Nat) (w : World) (hr : Rds w A n (ints st)) (hq : Rds w B m (ints co)) (hv : Rds w V p (flts va)) :
    Calls Try.prog 64 #[.agg #[.int .i64 sd, .slice A n ca, .slice B m cb, .slice V p cv]] w (RetLB w (treD sd st co va)) := by
  have HM := Lib.hid hq.ilen
  cases hs : isSp sd st co va with
  | false =>
    have hd : treD sd st co va = ([], false) := by unfold treD; rw [hs]; rfl
    rw [hd]
    clear hd
    go_enter Try.func64, Try.ntmps64
    go_upto_region 1 with (fail)
    obtain ⟨w0, hw0⟩ : ∃ w0, w0 = (w.alloc (.cells #[.int .i64 sd, .slice A n ca, .slice B m cb, .slice V p cv] 27)) := ⟨_, rfl⟩
    have hx0 : Ext w w0 := by subst hw0; exact (Ext.refl _).alloc _
    have ba : Blk w0 (w.heap.size) #[.int .i64 sd, .slice A n ca, .slice B m cb, .slice V p cv] 27 := by subst hw0; exact (Blk.new w _ _)
    rw [← hw0]
    clear hw0
    have c0 := ba.cell 0 rfl
    have c1 := ba.cell 1 rfl
    have c2 := ba.cell 2 rfl
    have c3 := ba.cell 3 rfl
    go_wp2_with fail
    refine (implValidSparse_any sd A n ca B m cb V p cv st co va _ (hr.below hx0) (hq.below hx0) (hv.below hx0)).mono ?_
    rintro e w1 ⟨rfl, hx⟩
    rw [hs]
    replace ba := ba.ext hx
    replace hx0 := hx0.trans hx
    clear hx c0 c1 c2 c3
    go_wp2_with fail
    refine bodyPost_ret (v := .tuple #[.slice none 0 0, .bool false]) (by simp only [results, Try.results64]; simp [go_sem]) rfl ⟨none, 0, rfl, Own.nil _ _ _, hx0⟩
  | true =>
    have hsp := isSp_iff.1 hs
    obtain ⟨N, rfl⟩ : ∃ N : Nat, sd = N := ⟨sd.toNat, by have := hsp.s1; omega⟩
    have hn1 : 1 ≤ N := by have := hsp.s1; omega
    have hn32 : N ≤ 32 := by have := hsp.s1; omega
    have hd : treD N st co va = (treL N (nbM (vw st co va m)), true) := by unfold treD; rw [hs, HM.out]; rfl
    rw [hd]
    clear hd
    obtain ⟨G, hG⟩ : ∃ G, G = nbM (vw st co va m) := ⟨_, rfl⟩
    have HSY : Hid (SymB N G) := by rw [hG]; exact nbM_sym N _
    rw [← hG]
    have HG := Lib.hid hG
    have HSP := Lib.hid hsp
    clear hG hsp
    go_enter Try.func64, Try.ntmps64
    go_upto_region 1 with (fail)
    obtain ⟨w0, hw0⟩ : ∃ w0, w0 = (w.alloc (.cells #[.int .i64 N, .slice A n ca, .slice B m cb, .slice V p cv] 27)) := ⟨_, rfl⟩
    have hx0 : Ext w w0 := by subst hw0; exact (Ext.refl _).alloc _
    have ba : Blk w0 (w.heap.size) #[.int .i64 N, .slice A n ca, .slice B m cb, .slice V p cv] 27 := by subst hw0; exact (Blk.new w _ _)
    rw [← hw0]
    clear hw0
    have c0 := ba.cell 0 rfl
    have c1 := ba.cell 1 rfl
    have c2 := ba.cell 2 rfl
    have c3 := ba.cell 3 rfl
    go_wp2_with fail
    refine (implValidSparse_any N A n ca B m cb V p cv st co va _ (hr.below hx0) (hq.below hx0) (hv.below hx0)).mono ?_
    rintro e w1 ⟨rfl, hx⟩
    rw [hs]
    replace ba := ba.ext hx
    replace hx0 := hx0.trans hx
    clear hx c0 c1 c2 c3
    have c0 := ba.cell 0 rfl
    have c1 := ba.cell 1 rfl
    have c2 := ba.cell 2 rfl
    have c3 := ba.cell 3 rfl
    have lA := ba.lt

    go_wp2_with fail
    refine (neighbours_any N A n ca B m cb V p cv st co va HSP.out _ (hr.below (hx0.trans ((Ext.refl _).alloc _))) (hq.below (hx0.trans ((Ext.refl _).alloc _))) (hv.below (hx0.trans ((Ext.refl _).alloc _)))).mono ?_
    rw [← HG.out]
    rintro e w2 ⟨GA, gc, rfl, og, hx⟩
    clear c0 c1 c2 c3 ba lA
    have oo := (Own.empty w1 2).ext hx
    have hx1 : Ext w1 w2 := ((Ext.refl _).alloc _).trans hx
    replace og := og.base (b := w1.heap.size) (by simp)
    obtain ⟨g, rfl, hgb⟩ := og.head (by omega)
    have hgw := og.lt_size g rfl
    clear hx
    go_wp2_with fail
    refine (takenOut_any w1.heap.size g N gc G hn32 _ hgw og).mono ?_
    rintro e w3 ⟨⟨TA, tc, rfl, ot⟩, hw3⟩
    replace oo := oo.other hw3 (oo.apart og (by decide)).1
    replace ot := ot.base (b := w1.heap.size) hx1.size
    replace hx1 := hw3.ext hx1 og
    clear hw3 og hgw hgb
    go_wp2_with fail
    go_loopw [4, 16] (fun u v wr => ∃ i : Nat, i ≤ N ∧ v = .int .i64 i ∧ ∃ A c, u = .slice A i c ∧ Own wr w1.heap.size 2 (.slice A i c) (ints (trk N G i)) ∧ Own wr w1.heap.size 86 (.slice TA N tc) (u64s (tkk N G N)) ∧ Ext w1 wr) (fun _ v _ => N - (intOf v).toNat)
    case atStart => exact ⟨0, Nat.zero_le _, rfl, _, _, rfl, oo, ot, hx1⟩
    case round =>
      rename World => wA
      clear ot oo hx1
      obtain ⟨i, hi, rfl, A1, c1, rfl, oo, ot, hx1⟩ := hrel
      by_cases hlt : i < N
      · have g1 : IntKind.i64.wrap ((i : Int) + 1) = (i : Int) + 1 := IntWalk.i64_in _ (by omega)
        have hltI : (i : Int) < N := by omega
        obtain ⟨ad, hA, hcell⟩ := ot.reads.at' (by omega)
        subst hA
        have hc := hcell i hlt
        rw [u64s_get (by rw [tkk_len]; exact hlt), tkk_at G hlt] at hc
        clear hcell
        have HLI : Hid (∀ W, Calls Try.prog 104 #[.int .u64 (msk N (stB G i i) : Nat)] W (RetIL W (natI (lsB N (stB G i i))))) := by show ∀ W, _; exact fun W => list_msk N (stB G i i) hn32 W
        have HTR := Lib.hid (trk_next N G i)
        have hnil := msk_nil (n := N) (f := stB G i i)
        have hcons := fun x l => msk_cons (n := N) (f := stB G i i) (x := x) (l := l)
        obtain ⟨mm, hmm⟩ : ∃ mm, mm = msk N (stB G i i) := ⟨_, rfl⟩
        obtain ⟨LL, hLL⟩ : ∃ LL, LL = lsB N (stB G i i) := ⟨_, rfl⟩
        rw [← hmm] at hc HLI hnil hcons
        rw [← hLL] at HLI HTR hnil hcons
        have hl32 : LL.length ≤ N := by rw [hLL]; exact lsB_len _ _
        clear hmm hLL
        have hl := oo.len
        cases LL with
        | nil =>
          have h0 : mm = 0 := hnil rfl
          clear hnil hcons HLI
          subst h0
          have ho' := oo.ext ((Ext.refl wA).alloc (.cells #[.int .i64 (-1)] 2))
          have hsz := hx1.size
          go_wp2_with (at_builtin; go_loud (refine wpList_app1 rfl _ _ _ rfl (wA.alloc (.cells #[.int .i64 (-1)] 2)) w1.heap.size 2 (.int .i64 0) 8 Try.underlying22 info_i64 rfl (by decide) (.slice A1 i c1) (ints (trk N G i)) rfl wA.heap.size (.int .i64 (-1)) rfl (One.new _ _ _) ho' rfl (by omega) (by simp; omega) ?_); rw [hl]; intro A' c' w9 h5 h6 h7)
          go_roundw
          case rel =>
            refine ⟨i + 1, by omega, by go_num, A', c', rfl, ?_, (ot.ext ((Ext.refl _).alloc _)).other h6 (ho'.apart (ot.ext ((Ext.refl _).alloc _)) (by decide)).2, h6.ext (hx1.alloc _) ho'⟩
            rw [HTR.out, ints_append]
            exact h5
          case measure => simp [intOf]; omega
        | cons x l =>
          have h0 : mm ≠ 0 := hcons x l rfl
          have e' : ((mm : Int) != 0) = true := by simp; omega
          clear hnil hcons h0
          go_wp2_with fail
          refine (HLI.out _).mono ?_
          rintro e w4 ⟨LA, lc, rfl, oL, hx⟩
          rw [natI_length] at oL ⊢
          obtain ⟨ad2, hA2, hd⟩ := oL.reads.intN 0 (by simp)
          subst hA2
          have hd0 : rd (natI (x :: l)) ((0 : Nat) : Int) = (x : Int) := rfl
          rw [hd0, show ad2.add 0 = ad2 from by cases ad2; rfl] at hd
          have hlp : (0 : Int) < ((x :: l).length : Int) := by (simp <;> omega)
          replace oo := oo.ext hx
          replace ot := ot.ext hx
          replace hx1 := hx1.trans hx
          obtain ⟨ll, hll⟩ : ∃ ll, ll = (x :: l).length := ⟨_, rfl⟩
          rw [← hll] at hlp hl32 ⊢
          clear oL hd0 hx hc HLI hll
          have ho' := oo.ext ((Ext.refl w4).alloc (.cells #[.int .i64 x] 2))
          have hsz := hx1.size
          go_wp2_with (at_builtin; go_loud (refine wpList_app1 rfl _ _ _ rfl (w4.alloc (.cells #[.int .i64 x] 2)) w1.heap.size 2 (.int .i64 0) 8 Try.underlying22 info_i64 rfl (by decide) (.slice A1 i c1) (ints (trk N G i)) rfl w4.heap.size (.int .i64 x) rfl (One.new _ _ _) ho' rfl (by omega) (by simp; omega) ?_); rw [hl]; intro A' c' w9 h5 h6 h7)
          go_roundw
          case rel =>
            refine ⟨i + 1, by omega, by go_num, A', c', rfl, ?_, (ot.ext ((Ext.refl _).alloc _)).other h6 (ho'.apart (ot.ext ((Ext.refl _).alloc _)) (by decide)).2, h6.ext (hx1.alloc _) ho'⟩
            rw [HTR.out, ints_append]
            exact h5
          case measure => simp [intOf]; omega
      · obtain rfl : i = N := by omega
        have HL := Lib.hid (show (treL i G).length = i from trk_len _ _ _)
        clear ot
        replace oo := oo.base hx0.size
        replace hx0 := hx0.trans hx1
        clear hx1
        go_wp2_with fail
        refine bodyPost_ret (v := .tuple #[.slice A1 i c1, .bool true]) (by simp only [results, Try.results64]; simp [go_sem]) rfl ?_
        refine ⟨A1, c1, ?_, ?_, hx0⟩
        · rw [HL.out]
        · rw [HL.out]; exact oo

end Go.Proofs.Ytkifpligpobiaaa
