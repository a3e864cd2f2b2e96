import Derived.Test.YtgjfdfmbknmpaaaM39
set_option linter.unusedVariables false
set_option linter.unusedSimpArgs false
namespace Go.Proofs.Ytgjfdfmbknmpaaa
open Go.RowKit

/-- The matrix of a chain. -/
def chaF (xs ys : List Nat) (i k : Nat) : Option Nat := if i = k then c32 (rdf xs i) else if i = k + 1 ∨ k = i + 1 then c32 (rdf ys (min i k : Nat)) else some 0
def chaL (xs ys : List Nat) (n : Nat) : List (Option Nat) := tab n (chaF xs ys) (n * n)
def chaD (xs ys : List Nat) : MD := if isCh xs ys then ⟨xs.length, xs.length, wordsL (chaL xs ys xs.length), true⟩ else MD.bad
theorem chaF_mid {xs ys : List Nat} {i k : Nat} (h : i = k) : chaF xs ys i k = c32 (rdf xs i) := by unfold chaF; rw [if_pos h]
theorem chaF_low {xs ys : List Nat} {i k : Nat} (h : i = k + 1) : chaF xs ys i k = c32 (rdf ys k) := by
  unfold chaF
  have e : min i k = k := by omega
  rw [if_neg (by omega), if_pos (.inl h), e]
theorem chaF_up {xs ys : List Nat} {i k : Nat} (h : k = i + 1) : chaF xs ys i k = c32 (rdf ys i) := by
  unfold chaF
  have e : min i k = i := by omega
  rw [if_neg (by omega), if_pos (.inr h), e]
theorem chaF_far {xs ys : List Nat} {i k : Nat} (h : i ≠ k) (h2 : i ≠ k + 1) (h3 : k ≠ i + 1) : chaF xs ys i k = some 0 := by
  unfold chaF
  rw [if_neg h, if_neg (by omega)]
theorem ex_cha (xs ys : List Nat) (i k : Nat) : ∃ r, c32 r = chaF xs ys i k := by
  unfold chaF
  split
  · exact ⟨_, rfl⟩
  · split
    · exact ⟨_, rfl⟩
    · exact ⟨0, c32_0⟩
theorem cha_all {xs ys : List Nat} {n : Nat} (hc : isCh xs ys = true) (hn : xs.length = n) : (chaL xs ys n).all finO = true := by
  obtain ⟨h1, h2⟩ := ch_fin hc
  obtain ⟨h3, h4, h5⟩ := ch_nat hc
  refine tab_all (fun a b ha hb => ?_)
  unfold chaF
  split
  · exact finO_c32 (fin_rdf h1 (by omega) (by omega))
  · split
    · rename_i e1 e2
      exact finO_c32 (fin_rdf h2 (by omega) (by rcases e2 with e | e <;> omega))
    · decide
theorem cha_len (xs ys : List Nat) (n : Nat) : (wordsL (chaL xs ys n)).length = n * n := by unfold wordsL chaL; rw [List.length_map, tab_length]
theorem cD_bad {xs ys : List Nat} (h : isCh xs ys = false) : chaD xs ys = MD.bad := by simp [chaD, h]
theorem cD_good {xs ys : List Nat} {n : Nat} (h : isCh xs ys = true) (hn : xs.length = n) : chaD xs ys = ⟨n, n, wordsL (chaL xs ys n), true⟩ := by simp [chaD, h, hn]

set_option maxRecDepth 20000 in
set_option maxHeartbeats 4000000 in
theorem chain1_any (b i k n m cap cap' : Nat) (A B : Option Addr) (xs ys : List Nat) (w : World) (hi : i < n) (hk : k < n) (hnm : m + 1 = n) (hn : n ≤ 12) (ha : CAt w b A n cap B m cap' xs ys) :
    Calls Try.prog 148 #[.int .i64 i, .int .i64 k, .pointer (some ⟨b, 0, none⟩)] w (RetF w (chaF xs ys i k)) := by
  obtain ⟨c0, c1, hr, hq⟩ := ha
  have g1 : IntKind.i64.wrap ((k : Int) + 1) = (k : Int) + 1 := IntWalk.i64_in _ (by omega)
  have g2 : IntKind.i64.wrap ((i : Int) + 1) = (i : Int) + 1 := IntWalk.i64_in _ (by omega)
  by_cases h1 : i = k
  · have HF := Lib.hid (chaF_mid (xs := xs) (ys := ys) h1)
    have h1' : ((i : Int) == (k : Int)) = true := by simp [h1]
    obtain ⟨ad, rfl, hca⟩ := hr.fltN i hi
    clear h1
    go_enter Try.func148, Try.ntmps148
    go_upto_region 1 with (fail)
    go_wp2_with fail
    go_ret
    exact ⟨_, rfl, HF.out.symm, Ext.refl _⟩
  · have h1' : ((i : Int) == (k : Int)) = false := by simp; omega
    by_cases h2 : i = k + 1
    · have HF := Lib.hid (chaF_low (xs := xs) (ys := ys) h2)
      have h2' : ((i : Int) == (k : Int) + 1) = true := by simp; omega
      have h3 : (k : Int) < i := by omega
      obtain ⟨ad, rfl, hca⟩ := hq.fltN k (by omega)
      have h4 : (k : Int) < m := by omega
      clear h1 h2
      go_enter Try.func148, Try.ntmps148
      go_upto_region 1 with (fail)
      go_wp2_with fail
      go_ret
      exact ⟨_, rfl, HF.out.symm, Ext.refl _⟩
    · have h2' : ((i : Int) == (k : Int) + 1) = false := by simp; omega
      by_cases h3 : k = i + 1
      · have HF := Lib.hid (chaF_up (xs := xs) (ys := ys) h3)
        have h3' : ((k : Int) == (i : Int) + 1) = true := by simp; omega
        have h4 : ¬ (k : Int) < i := by omega
        obtain ⟨ad, rfl, hca⟩ := hq.fltN i (by omega)
        have h5 : (i : Int) < m := by omega
        clear h1 h2 h3
        go_enter Try.func148, Try.ntmps148
        go_upto_region 1 with (fail)
        go_wp2_with fail
        go_ret
        exact ⟨_, rfl, HF.out.symm, Ext.refl _⟩
      · have HF := Lib.hid (chaF_far (xs := xs) (ys := ys) h1 h2 h3)
        have h3' : ((k : Int) == (i : Int) + 1) = false := by simp; omega
        clear h1 h2 h3
        go_enter Try.func148, Try.ntmps148
        go_upto_region 1 with (fail)
        go_wp2_with fail
        go_ret
        exact ⟨_, rfl, by rw [HF.out]; exact c32_0, Ext.refl _⟩

set_option maxRecDepth 20000 in
set_option maxHeartbeats 4000000 in
theorem implChainMatrix_any (A : Option Addr) (n cap : Nat) (B : Option Addr) (m cap' : Nat) (xs ys : List Nat) (w : World) (hr : Rds w A n (flts xs)) (hq : Rds w B m (flts ys)) :
    Calls Try.prog 77 #[.agg #[.slice A n cap, .slice B m cap']] w (RetMD w (chaD xs ys)) := by
  have HL := Lib.hid hr.flen
  have HL2 := Lib.hid hq.flen
  have hs1 := hr.small
  cases hc : isCh xs ys with
  | false =>
    have hd := cD_bad hc
    go_enter Try.func77, Try.ntmps77
    go_upto_region 1 with (fail)
    obtain ⟨w0, hw0⟩ : ∃ w0, w0 = ((w.alloc (.cells #[.slice A n cap, .slice B m cap'] 27)).alloc (.cells #[.int .i64 0, .int .i64 0, .slice none 0 0] 35)) := ⟨_, rfl⟩
    have hx0 : Ext w w0 := by subst hw0; exact ((Ext.refl _).alloc _).alloc _
    have ba : Blk w0 (w.heap.size) #[.slice A n cap, .slice B m cap'] 27 := by subst hw0; exact (Blk.new w _ _).ext ((Ext.refl _).alloc _)
    have b0 : Blk w0 (w.heap.size + 1) #[.int .i64 0, .int .i64 0, .slice none 0 0] 35 := by subst hw0; simpa using (Blk.new (w.alloc (.cells #[.slice A n cap, .slice B m cap'] 27)) _ _)
    rw [← hw0]
    clear hw0
    have a0 := ba.cell 0 rfl
    have a1 := ba.cell 1 rfl
    go_wp2_with fail
    refine (implValidChain_any A n cap B m cap' xs ys _ (hr.below hx0) (hq.below hx0)).mono ?_
    rintro e w1 ⟨rfl, hx⟩
    rw [hc]
    replace b0 := b0.ext hx
    replace hx0 := hx0.trans hx
    clear a0 a1 hx
    have y0 : w1.cell? ⟨w.heap.size + 1, 0, none⟩ = some (.int .i64 0) := b0.cell 0 rfl
    have y1 : w1.cell? ⟨w.heap.size + 1, 1, none⟩ = some (.int .i64 0) := b0.cell 1 rfl
    have y2 : w1.cell? ⟨w.heap.size + 1, 2, none⟩ = some (.slice none 0 0) := b0.cell 2 rfl
    have q0 := b0.free 0
    have q1 := b0.free 1
    have q2 := b0.free 2
    have hq := b0.lt
    go_wp2_with fail
    obtain ⟨k1, k2, k3⟩ := Own.resM (w := w) (u := .int .i64 0) (v := .int .i64 0) (x := .slice none 0 0) b0 (own_nil _ w.heap.size _) hx0 (by omega)
    exact bodyPost_ret (resMB (x := .bool false) rfl rfl rfl k3) rfl (RetMD.bad hd k2)
  | true =>
    obtain ⟨hnm, hn1, hn12⟩ := ch_nat hc
    rw [HL.out] at hnm hn1 hn12
    rw [HL2.out] at hnm
    have Hd := Lib.hid (cD_good hc HL.out)
    have Hall := Lib.hid (cha_all hc HL.out)
    have Hl := Lib.hid (cha_len xs ys n)
    go_enter Try.func77, Try.ntmps77
    go_upto_region 1 with (fail)
    obtain ⟨w0, hw0⟩ : ∃ w0, w0 = ((w.alloc (.cells #[.slice A n cap, .slice B m cap'] 27)).alloc (.cells #[.int .i64 0, .int .i64 0, .slice none 0 0] 35)) := ⟨_, rfl⟩
    have hx0 : Ext w w0 := by subst hw0; exact ((Ext.refl _).alloc _).alloc _
    have ba : Blk w0 (w.heap.size) #[.slice A n cap, .slice B m cap'] 27 := by subst hw0; exact (Blk.new w _ _).ext ((Ext.refl _).alloc _)
    have b0 : Blk w0 (w.heap.size + 1) #[.int .i64 0, .int .i64 0, .slice none 0 0] 35 := by subst hw0; simpa using (Blk.new (w.alloc (.cells #[.slice A n cap, .slice B m cap'] 27)) _ _)
    rw [← hw0]
    clear hw0
    have a0 := ba.cell 0 rfl
    have a1 := ba.cell 1 rfl
    go_wp2_with fail
    refine (implValidChain_any A n cap B m cap' xs ys _ (hr.below hx0) (hq.below hx0)).mono ?_
    rintro e w1 ⟨rfl, hx⟩
    rw [hc]
    replace b0 := b0.ext hx
    replace ba := ba.ext hx
    replace hx0 := hx0.trans hx
    clear a0 a1 hx
    have a0 := ba.cell 0 rfl
    go_wp2_with fail
    refine (lengthF_any A n cap hs1 _).mono ?_
    rintro e w2 ⟨rfl, rfl⟩
    clear a0
    go_wp2_with fail
    refine (made_any 148 _ (enters_of Try.func148 (by kernel_rfl) rfl) n n hn12 hn12 (chaF xs ys) _ (fun i k W hi hk hW => ?_) (fun i k _ _ => ex_cha xs ys i k)).mono ?_
    · exact chain1_any _ i k n m cap cap' A B xs ys W hi hk hnm hn12 ((CAt.of ba (hr.below hx0) (hq.below hx0)).ext hW)
    rintro e w2 ⟨A', c', zs, hz, rfl, ho, hx⟩
    obtain rfl := cfs_all (L := chaL xs ys n) hz Hall.out
    replace b0 := b0.ext hx
    have y0 : w2.cell? ⟨w.heap.size + 1, 0, none⟩ = some (.int .i64 0) := b0.cell 0 rfl
    have y1 : w2.cell? ⟨w.heap.size + 1, 1, none⟩ = some (.int .i64 0) := b0.cell 1 rfl
    have y2 : w2.cell? ⟨w.heap.size + 1, 2, none⟩ = some (.slice none 0 0) := b0.cell 2 rfl
    have q0 := b0.free 0
    have q1 := b0.free 1
    have q2 := b0.free 2
    have hq := b0.lt
    go_wp2_with fail
    obtain ⟨k1, k2, k3⟩ := Own.resM (w := w) (u := .int .i64 n) (v := .int .i64 n) (x := .slice A' (n * n) c') b0 (ho.base hx0.size) (hx0.trans hx) (by omega)
    refine bodyPost_ret (resMB rfl rfl rfl k3) rfl ?_
    rw [Hd.out]
    exact ⟨A', c', by rw [Hl.out]; rfl, by rw [Hl.out]; exact k1, k2⟩

end Go.Proofs.Ytgjfdfmbknmpaaa
