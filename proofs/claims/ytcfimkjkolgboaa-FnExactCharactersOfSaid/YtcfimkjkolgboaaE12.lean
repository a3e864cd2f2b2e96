import Derived.Test.YtcfimkjkolgboaaE11
set_option linter.unusedVariables false
set_option linter.unusedSimpArgs false
namespace Go.Proofs.Ytcfimkjkolgboaa
open Go.RowKit

def sgnI : Nat → Int
  | 0 => 1
  | k + 1 => -(sgnI k)
theorem sgnI_bd (k : Nat) : -1 ≤ sgnI k ∧ sgnI k ≤ 1 := by
  induction k with
  | zero => simp [sgnI]
  | succ k ih => simp only [sgnI]; omega
def mSum (f M : Nat → Int) : Nat → Int
  | 0 => 0
  | k + 1 => if f k = 0 then mSum f M k else IntKind.i64.wrap (mSum f M k + IntKind.i64.wrap (IntKind.i64.wrap (sgnI k * f k) * M k))
/-- The determinant of some rows and columns, as the program reckons it. -/
def minorL (xs : List Int) (C : Nat) : List Int → List Int → Int
  | [], _ => 1
  | r :: rows, cols => mSum (fun k => rd xs (r * C + rd cols k)) (fun k => minorL xs C rows (cols.eraseIdx k)) cols.length

/-- A slice without its first element. -/
theorem Rds.tail {w : World} {ad : Addr} {n cap : Nat} {x : Int} {xs : List Int} (h : Rds w (some ad) n (ints (x :: xs))) (hcap : n ≤ cap) :
    ∃ a1 : Addr, (if cap = 1 then some ad else some (⟨ad.block, ad.off + 1, none⟩ : Addr)) = some a1 ∧ Rds w (some a1) (n - 1) (ints xs) := by
  have hl := h.ilen
  simp only [List.length_cons] at hl
  have hs := h.small
  obtain ⟨ad', he, hc⟩ := h.at' (by omega)
  obtain rfl := Option.some.inj he
  by_cases h1 : cap = 1
  · refine ⟨ad, by simp [h1], by rw [ints_length]; omega, by omega, fun h0 => by omega⟩
  · refine ⟨ad.add 1, by simp [h1, Addr.add], by rw [ints_length]; omega, by omega, fun h0 => ⟨_, rfl, fun j hj => ?_⟩⟩
    rw [Addr.add_add, hc _ (by omega), Nat.add_comm]
    simp [ints]

theorem allMem {xs : List Int} {p : Int → Prop} (h : ∀ x ∈ xs, p x) {k : Nat} (hk : k < xs.length) : p (rd xs k) := by
  rw [rd_get hk]
  exact h _ (List.getElem_mem hk)

set_option maxHeartbeats 4000000 in
theorem l06Minor_any (b R C n cap : Nat) (A : Option Addr) (xs : List Int) (hR : R ≤ 6) (hC : C ≤ 6) (hn : Hid (n = R * C)) : ∀ (rows cols : List Int) (B : Option Addr) (p pc : Nat) (D : Option Addr) (q qc : Nat) (w : World),
    WAt w b R C A n cap xs → Rds w B p (ints rows) → Rds w D q (ints cols) → p ≤ pc → q ≤ qc → q ≤ 1048576 → Hid (∀ x ∈ rows, 0 ≤ x ∧ x < R) → Hid (∀ x ∈ cols, 0 ≤ x ∧ x < C) →
    Calls Try.prog 80 #[.pointer (some ⟨b, 0, none⟩), .slice B p pc, .slice D q qc] w fun e w' => e = .returned (.int .i64 (minorL xs C rows cols)) ∧ Ext w w' := by
  intro rows
  induction rows with
  | nil =>
    intro cols B p pc D q qc w ha hr hq hpc hqc hq6 hb1 hb2
    obtain rfl : 0 = p := by simpa using hr.ilen
    have e0 : minorL xs C [] cols = 1 := rfl
    rw [e0]
    go_enter Try.func80, Try.ntmps80
    go_wp2_with fail
    go_ret
    exact ⟨rfl, Ext.refl _⟩
  | cons r rows ih =>
    intro cols B p pc D q qc w ha hr hq hpc hqc hq6 hb1 hb2
    have hp : p = rows.length + 1 := by simpa using hr.ilen.symm
    have hp0 : ((p : Int) == 0) = false := by simp; omega
    have hps := hr.small
    have hql := hq.ilen
    have hrb := hb1.out r (by simp)
    obtain ⟨i, rfl⟩ : ∃ i : Nat, r = i := ⟨r.toNat, by omega⟩
    have hi : i < R := by omega
    obtain ⟨ad, rfl, _⟩ := hr.at' (by omega)
    obtain ⟨a1, ha1, hr1⟩ := hr.tail hpc
    obtain ⟨S, hS⟩ : ∃ S : Nat → Int, S = mSum (fun k => rd xs ((i : Int) * C + rd cols k)) (fun k => minorL xs C rows (cols.eraseIdx k)) := ⟨_, rfl⟩
    have e0 : minorL xs C ((i : Int) :: rows) cols = S q := by rw [hS, ← hql]; rfl
    rw [e0]
    have e1 : S 0 = 0 := by rw [hS]; rfl
    have E2 : Hid (∀ k, S (k + 1) = if rd xs ((i : Int) * C + rd cols k) = 0 then S k else IntKind.i64.wrap (S k + IntKind.i64.wrap (IntKind.i64.wrap (sgnI k * rd xs ((i : Int) * C + rd cols k)) * minorL xs C rows (cols.eraseIdx k)))) := by intro k; rw [hS]; rfl
    have E1 := Lib.hid e1
    have HP := Lib.hid hp
    have hp1 : 0 < p := by omega
    have hp2 : (1 : Int) ≤ p := by omega
    have hb1' : Hid (∀ x ∈ rows, 0 ≤ x ∧ x < (R : Int)) := fun x hx => hb1.out x (by simp [hx])
    clear e0 e1 hS hp hrb hb1 hql
    go_enter Try.func80, Try.ntmps80
    go_wp2_with fail
    clear hp0
    go_loopw [7, 8, 9] (fun u s v wr => ∃ k : Nat, k ≤ q ∧ u = .int .i64 (S k) ∧ s = .int .i64 (sgnI k) ∧ v = .int .i64 k ∧ Ext w wr) (fun _ _ v _ => q - (intOf v).toNat)
    case atStart => exact ⟨0, Nat.zero_le _, by rw [E1.out], rfl, rfl, Ext.refl _⟩
    case round =>
      obtain ⟨k, hk, rfl, rfl, rfl, hx⟩ := hrel
      by_cases hlt : k < q
      · obtain ⟨ad2, rfl, hc2⟩ := (hq.below hx).intN k hlt
        obtain ⟨ad', had', hc1⟩ := (hr.below hx).intN 0 (by have := HP.out; omega)
        obtain rfl := Option.some.inj had'
        have hcb := allMem hb2.out (k := k) (by rw [hq.ilen]; exact hlt)
        obtain ⟨j, hj⟩ : ∃ j : Nat, rd cols k = j := ⟨(rd cols k).toNat, by omega⟩
        have hjC : j < C := by omega
        have he := E2.out k
        rw [hj] at hc2 he
        clear hcb hj
        have e3 : rd ((i : Int) :: rows) 0 = i := rfl
        obtain ⟨x, hxx⟩ : ∃ x, x = rd xs ((i : Int) * C + j) := ⟨_, rfl⟩
        obtain ⟨z, hz⟩ : ∃ z, z = S k := ⟨_, rfl⟩
        obtain ⟨s, hs⟩ : ∃ s, s = sgnI k := ⟨_, rfl⟩
        have hsb := sgnI_bd k
        have hs1 : sgnI (k + 1) = -s := by rw [hs]; rfl
        rw [← hxx, ← hz, ← hs] at he
        rw [← hs] at hsb
        rw [← hz, ← hs]
        have HX := Lib.hid hxx
        have HS1 := Lib.hid hs1
        have hc1' : wr.cell? (ad.add 0) = some (.int .i64 i) := hc1
        have hc1'' : wr.cell? ad = some (.int .i64 i) := hc1
        clear hs hz e3 hc1 had'
        by_cases hx0 : x = 0
        · have hne : (x != 0) = false := by simp [hx0]
          rw [if_pos hx0] at he
          have HE := Lib.hid he
          have HX0 := Lib.hid hx0
          clear he hx0 hxx
          go_wp2_with fail
          refine wp_region_T (cs := []) [0, 1, 2, 3, 4, 5, 6, 7, 8, 9] [] [8] [] (fun i__ v => match i__ with | 8 => v = (.int .i64 x) | _ => False) (fun _ _ _ => True) (by kernel_rfl) (by kernel_rfl) (fun _ _ _ _ _ _ => trivial) ?_
          refine' wpT_det (o := ⟨some 20, Op.move (Operand.tmp 0), 62, "l06_integers.go:161", #[], none⟩) rfl (by rfl) (by rfl) (fun w' hw' => ?_) ?_; rotate_left
          · go_simp <;> first | rfl | exact ⟨rfl, rfl⟩
          simp only [Act.put, List.setIfInBounds_toArray, List.set_cons_zero, List.set_cons_succ]
          refine' wpT_det (o := ⟨some 21, Op.move (Operand.tmp 1), 26, "l06_integers.go:161", #[], none⟩) rfl (by rfl) (by rfl) (fun w' hw' => ?_) ?_; rotate_left
          · go_simp <;> first | rfl | exact ⟨rfl, rfl⟩
          simp only [Act.put, List.setIfInBounds_toArray, List.set_cons_zero, List.set_cons_succ]
          refine' wpT_det (o := ⟨some 22, Op.indexAddr 26 (Operand.tmp 21) (Operand.const (Value.int IntKind.i64 0)), 0, "l06_integers.go:161", #[{ on := 1, ground := Ground.data }], none⟩) rfl (by rfl) (by rfl) (fun w' hw' => ?_) ?_; rotate_left
          · go_simp <;> first | rfl | exact ⟨rfl, rfl⟩
          simp only [Act.put, List.setIfInBounds_toArray, List.set_cons_zero, List.set_cons_succ]
          refine' wpT_det (o := ⟨some 23, Op.load 2 (Operand.tmp 22), 2, "l06_integers.go:161", #[{ on := 2, ground := Ground.data }], none⟩) rfl (by rfl) (by rfl) (fun w' hw' => ?_) ?_; rotate_left
          · have hc1'_ := Ext.cell hw' hc1'; have hc1''_ := Ext.cell hw' hc1''; have hc2_ := Ext.cell hw' hc2; go_simp <;> first | rfl | exact ⟨rfl, rfl⟩
          simp only [Act.put, List.setIfInBounds_toArray, List.set_cons_zero, List.set_cons_succ]
          refine' wpT_det (o := ⟨some 24, Op.move (Operand.tmp 2), 26, "l06_integers.go:161", #[], none⟩) rfl (by rfl) (by rfl) (fun w' hw' => ?_) ?_; rotate_left
          · go_simp <;> first | rfl | exact ⟨rfl, rfl⟩
          simp only [Act.put, List.setIfInBounds_toArray, List.set_cons_zero, List.set_cons_succ]
          refine' wpT_det (o := ⟨some 25, Op.move (Operand.tmp 9), 3, "l06_integers.go:161", #[], none⟩) rfl (by rfl) (by rfl) (fun w' hw' => ?_) ?_; rotate_left
          · go_simp <;> first | rfl | exact ⟨rfl, rfl⟩
          simp only [Act.put, List.setIfInBounds_toArray, List.set_cons_zero, List.set_cons_succ]
          refine' wpT_det (o := ⟨some 26, Op.indexAddr 26 (Operand.tmp 24) (Operand.tmp 25), 0, "l06_integers.go:161", #[{ on := 4, ground := Ground.data }, { on := 5, ground := Ground.data }], none⟩) rfl (by rfl) (by rfl) (fun w' hw' => ?_) ?_; rotate_left
          · go_simp <;> first | rfl | exact ⟨rfl, rfl⟩
          simp only [Act.put, List.setIfInBounds_toArray, List.set_cons_zero, List.set_cons_succ]
          refine' wpT_det (o := ⟨some 27, Op.load 2 (Operand.tmp 26), 2, "l06_integers.go:161", #[{ on := 6, ground := Ground.data }], none⟩) rfl (by rfl) (by rfl) (fun w' hw' => ?_) ?_; rotate_left
          · have hc1'_ := Ext.cell hw' hc1'; have hc1''_ := Ext.cell hw' hc1''; have hc2_ := Ext.cell hw' hc2; go_simp <;> first | rfl | exact ⟨rfl, rfl⟩
          simp only [Act.put, List.setIfInBounds_toArray, List.set_cons_zero, List.set_cons_succ]
          refine wpT_nd (o := ⟨some 28, Op.call { callee := Callee.value (Operand.func 98), args := #[Operand.tmp 20, Operand.tmp 23, Operand.tmp 27], argTypes := #[62, 2, 2] }, 2, "l06_integers.go:161", #[{ on := 0, ground := Ground.data }, { on := 3, ground := Ground.data }, { on := 7, ground := Ground.data }], none⟩) rfl (by rfl) (by rfl) (fun w' hw' hF R__ hGo => ?_) ⟨_, rfl⟩ ?_
          · go_simp
            refine gives_enter rfl ?_
            refine (l06At_any b R C i j n cap A xs _ hi hjC hR hC hn.out (ha.ext (hx.trans hw'.undrew))).mono ?_
            rintro e w2 ⟨rfl, hx⟩
            exact ⟨_, rfl, hGo _ _ hx (congrArg (Value.int .i64) HX.out.symm) trivial⟩
          intro v hv
          obtain rfl : v = (.int .i64 x) := hv
          simp only [Act.put, List.setIfInBounds_toArray, List.set_cons_zero, List.set_cons_succ]
          refine' wpT_det (o := ⟨some 10, Op.assign (Operand.tmp 28), 2, "l06_integers.go:161", #[{ on := 8, ground := Ground.data }, { on := 8, ground := Ground.chain }, { on := 0, ground := Ground.phase }, { on := 1, ground := Ground.phase }, { on := 2, ground := Ground.phase }, { on := 3, ground := Ground.phase }, { on := 4, ground := Ground.phase }, { on := 5, ground := Ground.phase }, { on := 6, ground := Ground.phase }, { on := 7, ground := Ground.phase }, { on := 8, ground := Ground.phase }], none⟩) rfl (by rfl) (by rfl) (fun w' hw' => ?_) ?_; rotate_left
          · go_simp <;> first | rfl | exact ⟨rfl, rfl⟩
          simp only [Act.put, List.setIfInBounds_toArray, List.set_cons_zero, List.set_cons_succ]
          refine wpT_nil (fun w' hw' hF => ?_)
          refine wpList_nil ?_
          go_wp2_with fail
          go_roundw
          case rel => exact ⟨k + 1, by omega, by rw [HE.out], by rw [HS1.out], by go_num, hx.trans hw'.undrew⟩
          case measure => simp [intOf]; omega
        · have hne : (x != 0) = true := by simp [hx0]
          rw [if_neg hx0] at he
          obtain ⟨mm, hmm⟩ : ∃ mm, mm = minorL xs C rows (cols.eraseIdx k) := ⟨_, rfl⟩
          rw [← hmm] at he
          have HE := Lib.hid he
          have HX0 := Lib.hid hx0
          have HM := Lib.hid hmm
          clear he hx0 hxx hmm
          go_wp2_with fail
          refine wp_region_T (cs := []) [0, 1, 2, 3, 4, 5, 6, 7, 8, 9] [] [8] [] (fun i__ v => match i__ with | 8 => v = (.int .i64 x) | _ => False) (fun _ _ _ => True) (by kernel_rfl) (by kernel_rfl) (fun _ _ _ _ _ _ => trivial) ?_
          refine' wpT_det (o := ⟨some 20, Op.move (Operand.tmp 0), 62, "l06_integers.go:161", #[], none⟩) rfl (by rfl) (by rfl) (fun w' hw' => ?_) ?_; rotate_left
          · go_simp <;> first | rfl | exact ⟨rfl, rfl⟩
          simp only [Act.put, List.setIfInBounds_toArray, List.set_cons_zero, List.set_cons_succ]
          refine' wpT_det (o := ⟨some 21, Op.move (Operand.tmp 1), 26, "l06_integers.go:161", #[], none⟩) rfl (by rfl) (by rfl) (fun w' hw' => ?_) ?_; rotate_left
          · go_simp <;> first | rfl | exact ⟨rfl, rfl⟩
          simp only [Act.put, List.setIfInBounds_toArray, List.set_cons_zero, List.set_cons_succ]
          refine' wpT_det (o := ⟨some 22, Op.indexAddr 26 (Operand.tmp 21) (Operand.const (Value.int IntKind.i64 0)), 0, "l06_integers.go:161", #[{ on := 1, ground := Ground.data }], none⟩) rfl (by rfl) (by rfl) (fun w' hw' => ?_) ?_; rotate_left
          · go_simp <;> first | rfl | exact ⟨rfl, rfl⟩
          simp only [Act.put, List.setIfInBounds_toArray, List.set_cons_zero, List.set_cons_succ]
          refine' wpT_det (o := ⟨some 23, Op.load 2 (Operand.tmp 22), 2, "l06_integers.go:161", #[{ on := 2, ground := Ground.data }], none⟩) rfl (by rfl) (by rfl) (fun w' hw' => ?_) ?_; rotate_left
          · have hc1'_ := Ext.cell hw' hc1'; have hc1''_ := Ext.cell hw' hc1''; have hc2_ := Ext.cell hw' hc2; go_simp <;> first | rfl | exact ⟨rfl, rfl⟩
          simp only [Act.put, List.setIfInBounds_toArray, List.set_cons_zero, List.set_cons_succ]
          refine' wpT_det (o := ⟨some 24, Op.move (Operand.tmp 2), 26, "l06_integers.go:161", #[], none⟩) rfl (by rfl) (by rfl) (fun w' hw' => ?_) ?_; rotate_left
          · go_simp <;> first | rfl | exact ⟨rfl, rfl⟩
          simp only [Act.put, List.setIfInBounds_toArray, List.set_cons_zero, List.set_cons_succ]
          refine' wpT_det (o := ⟨some 25, Op.move (Operand.tmp 9), 3, "l06_integers.go:161", #[], none⟩) rfl (by rfl) (by rfl) (fun w' hw' => ?_) ?_; rotate_left
          · go_simp <;> first | rfl | exact ⟨rfl, rfl⟩
          simp only [Act.put, List.setIfInBounds_toArray, List.set_cons_zero, List.set_cons_succ]
          refine' wpT_det (o := ⟨some 26, Op.indexAddr 26 (Operand.tmp 24) (Operand.tmp 25), 0, "l06_integers.go:161", #[{ on := 4, ground := Ground.data }, { on := 5, ground := Ground.data }], none⟩) rfl (by rfl) (by rfl) (fun w' hw' => ?_) ?_; rotate_left
          · go_simp <;> first | rfl | exact ⟨rfl, rfl⟩
          simp only [Act.put, List.setIfInBounds_toArray, List.set_cons_zero, List.set_cons_succ]
          refine' wpT_det (o := ⟨some 27, Op.load 2 (Operand.tmp 26), 2, "l06_integers.go:161", #[{ on := 6, ground := Ground.data }], none⟩) rfl (by rfl) (by rfl) (fun w' hw' => ?_) ?_; rotate_left
          · have hc1'_ := Ext.cell hw' hc1'; have hc1''_ := Ext.cell hw' hc1''; have hc2_ := Ext.cell hw' hc2; go_simp <;> first | rfl | exact ⟨rfl, rfl⟩
          simp only [Act.put, List.setIfInBounds_toArray, List.set_cons_zero, List.set_cons_succ]
          refine wpT_nd (o := ⟨some 28, Op.call { callee := Callee.value (Operand.func 98), args := #[Operand.tmp 20, Operand.tmp 23, Operand.tmp 27], argTypes := #[62, 2, 2] }, 2, "l06_integers.go:161", #[{ on := 0, ground := Ground.data }, { on := 3, ground := Ground.data }, { on := 7, ground := Ground.data }], none⟩) rfl (by rfl) (by rfl) (fun w' hw' hF R__ hGo => ?_) ⟨_, rfl⟩ ?_
          · go_simp
            refine gives_enter rfl ?_
            refine (l06At_any b R C i j n cap A xs _ hi hjC hR hC hn.out (ha.ext (hx.trans hw'.undrew))).mono ?_
            rintro e w2 ⟨rfl, hx⟩
            exact ⟨_, rfl, hGo _ _ hx (congrArg (Value.int .i64) HX.out.symm) trivial⟩
          intro v hv
          obtain rfl : v = (.int .i64 x) := hv
          simp only [Act.put, List.setIfInBounds_toArray, List.set_cons_zero, List.set_cons_succ]
          refine' wpT_det (o := ⟨some 10, Op.assign (Operand.tmp 28), 2, "l06_integers.go:161", #[{ on := 8, ground := Ground.data }, { on := 8, ground := Ground.chain }, { on := 0, ground := Ground.phase }, { on := 1, ground := Ground.phase }, { on := 2, ground := Ground.phase }, { on := 3, ground := Ground.phase }, { on := 4, ground := Ground.phase }, { on := 5, ground := Ground.phase }, { on := 6, ground := Ground.phase }, { on := 7, ground := Ground.phase }, { on := 8, ground := Ground.phase }], none⟩) rfl (by rfl) (by rfl) (fun w' hw' => ?_) ?_; rotate_left
          · go_simp <;> first | rfl | exact ⟨rfl, rfl⟩
          simp only [Act.put, List.setIfInBounds_toArray, List.set_cons_zero, List.set_cons_succ]
          refine wpT_nil (fun w' hw' hF => ?_)
          refine wpList_nil ?_
          obtain ⟨wN, hwN⟩ : ∃ wN, wN = w' := ⟨_, rfl⟩
          subst hwN
          have hx1 := hx.trans hw'.undrew
          clear hF hc1' hc1'' hc2 hw'
          go_wp2_with fail
          refine wp_region_T (cs := []) [0, 1, 2, 3, 4, 5, 6, 7, 8, 9, 10, 11, 12, 13] [] [9, 10] [(10, [9])] (fun i__ v => match i__ with | 9 => ∃ (A : Option Addr) (c : Nat), v = (.slice A (q - 1) c) | 10 => v = (.int .i64 mm) | _ => False) (fun i__ v w' => match i__ with | 9 => OwnF w' wN.heap.size 2 v [] (ints (cols.eraseIdx k)) | _ => True) (by kernel_rfl) (by kernel_rfl) (by intro i v w' w2 h hx; revert h; (try dsimp only); split <;> intro h <;> first | trivial | exact OwnF.ext h hx) ?_
          refine' wpT_det (o := ⟨some 31, Op.move (Operand.tmp 7), 2, "l06_integers.go:163", #[], none⟩) rfl (by rfl) (by rfl) (fun w' hw' => ?_) ?_; rotate_left
          · go_simp <;> first | rfl | exact ⟨rfl, rfl⟩
          simp only [Act.put, List.setIfInBounds_toArray, List.set_cons_zero, List.set_cons_succ]
          refine' wpT_det (o := ⟨some 32, Op.move (Operand.tmp 8), 2, "l06_integers.go:163", #[], none⟩) rfl (by rfl) (by rfl) (fun w' hw' => ?_) ?_; rotate_left
          · go_simp <;> first | rfl | exact ⟨rfl, rfl⟩
          simp only [Act.put, List.setIfInBounds_toArray, List.set_cons_zero, List.set_cons_succ]
          refine' wpT_det (o := ⟨some 33, Op.move (Operand.tmp 10), 2, "l06_integers.go:163", #[], none⟩) rfl (by rfl) (by rfl) (fun w' hw' => ?_) ?_; rotate_left
          · go_simp <;> first | rfl | exact ⟨rfl, rfl⟩
          simp only [Act.put, List.setIfInBounds_toArray, List.set_cons_zero, List.set_cons_succ]
          refine' wpT_det (o := ⟨some 34, Op.binOp BinOp.mul 2 (Operand.tmp 32) (Operand.tmp 33) 2, 2, "l06_integers.go:163", #[{ on := 1, ground := Ground.data }, { on := 2, ground := Ground.data }], none⟩) rfl (by rfl) (by rfl) (fun w' hw' => ?_) ?_; rotate_left
          · go_simp <;> first | rfl | exact ⟨rfl, rfl⟩
          simp only [Act.put, List.setIfInBounds_toArray, List.set_cons_zero, List.set_cons_succ]
          refine' wpT_det (o := ⟨some 35, Op.move (Operand.tmp 0), 62, "l06_integers.go:163", #[], none⟩) rfl (by rfl) (by rfl) (fun w' hw' => ?_) ?_; rotate_left
          · go_simp <;> first | rfl | exact ⟨rfl, rfl⟩
          simp only [Act.put, List.setIfInBounds_toArray, List.set_cons_zero, List.set_cons_succ]
          refine' wpT_det (o := ⟨some 36, Op.move (Operand.tmp 1), 26, "l06_integers.go:163", #[], none⟩) rfl (by rfl) (by rfl) (fun w' hw' => ?_) ?_; rotate_left
          · go_simp <;> first | rfl | exact ⟨rfl, rfl⟩
          simp only [Act.put, List.setIfInBounds_toArray, List.set_cons_zero, List.set_cons_succ]
          refine' wpT_det (o := ⟨some 37, Op.slice 26 (Operand.tmp 36) (some (Operand.const (Value.int IntKind.i64 1))) none none, 26, "l06_integers.go:163", #[{ on := 5, ground := Ground.data }], none⟩) rfl (by rfl) (by rfl) (fun w' hw' => ?_) ?_; rotate_left
          · go_simp <;> first | rfl | exact ⟨rfl, rfl⟩
          simp only [Act.put, List.setIfInBounds_toArray, List.set_cons_zero, List.set_cons_succ]
          refine' wpT_det (o := ⟨some 38, Op.move (Operand.tmp 2), 26, "l06_integers.go:163", #[], none⟩) rfl (by rfl) (by rfl) (fun w' hw' => ?_) ?_; rotate_left
          · go_simp <;> first | rfl | exact ⟨rfl, rfl⟩
          simp only [Act.put, List.setIfInBounds_toArray, List.set_cons_zero, List.set_cons_succ]
          refine' wpT_det (o := ⟨some 39, Op.move (Operand.tmp 9), 3, "l06_integers.go:163", #[], none⟩) rfl (by rfl) (by rfl) (fun w' hw' => ?_) ?_; rotate_left
          · go_simp <;> first | rfl | exact ⟨rfl, rfl⟩
          simp only [Act.put, List.setIfInBounds_toArray, List.set_cons_zero, List.set_cons_succ]
          refine wpT_nd (o := ⟨some 40, Op.call { callee := Callee.value (Operand.func 107), args := #[Operand.tmp 38, Operand.tmp 39], argTypes := #[26, 3] }, 26, "l06_integers.go:163", #[{ on := 7, ground := Ground.data }, { on := 8, ground := Ground.data }], none⟩) rfl (by rfl) (by rfl) (fun w' hw' hF R__ hGo => ?_) ⟨_, none, 0, rfl⟩ ?_
          · go_simp
            refine gives_enter rfl ?_
            refine (l06Without_any (some ad2) q qc k cols _ (hq.below (hx1.trans hw'.undrew)) hlt hqc hq6).mono ?_
            rintro e w2 ⟨A2, c2, rfl, o2, hx⟩
            exact ⟨_, rfl, hGo _ _ hx ⟨_, _, rfl⟩ (OwnF.of (o2.base hw'.size) rfl)⟩
          rintro _ ⟨A2, c2, rfl⟩
          simp only [Act.put, List.setIfInBounds_toArray, List.set_cons_zero, List.set_cons_succ]
          refine wpT_nd (o := ⟨some 41, Op.call { callee := Callee.value (Operand.func 80), args := #[Operand.tmp 35, Operand.tmp 37, Operand.tmp 40], argTypes := #[62, 26, 26] }, 2, "l06_integers.go:163", #[{ on := 4, ground := Ground.data }, { on := 6, ground := Ground.data }, { on := 9, ground := Ground.data }, { on := 9, ground := Ground.chain }], none⟩) rfl (by rfl) (by rfl) (fun w' hw' hF R__ hGo => ?_) ⟨_, rfl⟩ ?_
          · go_simp
            refine gives_enter rfl ?_
            refine (ih (cols.eraseIdx k) (some a1) (p - 1) (pc - 1) A2 (q - 1) c2 _ (ha.ext (hx1.trans hw'.undrew)) (hr1.below (hx1.trans hw'.undrew)) (hF 9 (by simp [uses]) _ rfl _ _ _ rfl).reads (by omega) (hF 9 (by simp [uses]) _ rfl _ _ _ rfl).cap (by omega) hb1' (fun y hy => hb2.out y (List.mem_of_mem_eraseIdx hy))).mono ?_
            rintro e w2 ⟨rfl, hx⟩
            exact ⟨_, rfl, hGo _ _ hx (congrArg (Value.int .i64) HM.out.symm) trivial⟩
          intro v hv
          obtain rfl : v = (.int .i64 mm) := hv
          simp only [Act.put, List.setIfInBounds_toArray, List.set_cons_zero, List.set_cons_succ]
          refine' wpT_det (o := ⟨some 42, Op.binOp BinOp.mul 2 (Operand.tmp 34) (Operand.tmp 41) 2, 2, "l06_integers.go:163", #[{ on := 3, ground := Ground.data }, { on := 10, ground := Ground.data }], none⟩) rfl (by rfl) (by rfl) (fun w' hw' => ?_) ?_; rotate_left
          · go_simp <;> first | rfl | exact ⟨rfl, rfl⟩
          simp only [Act.put, List.setIfInBounds_toArray, List.set_cons_zero, List.set_cons_succ]
          refine' wpT_det (o := ⟨some 43, Op.binOp BinOp.add 2 (Operand.tmp 31) (Operand.tmp 42) 2, 2, "l06_integers.go:163", #[{ on := 0, ground := Ground.data }, { on := 11, ground := Ground.data }], none⟩) rfl (by rfl) (by rfl) (fun w' hw' => ?_) ?_; rotate_left
          · go_simp <;> first | rfl | exact ⟨rfl, rfl⟩
          simp only [Act.put, List.setIfInBounds_toArray, List.set_cons_zero, List.set_cons_succ]
          refine' wpT_det (o := ⟨some 7, Op.assign (Operand.tmp 43), 2, "l06_integers.go:163", #[{ on := 12, ground := Ground.data }, { on := 10, ground := Ground.chain }, { on := 0, ground := Ground.phase }, { on := 1, ground := Ground.phase }, { on := 2, ground := Ground.phase }, { on := 3, ground := Ground.phase }, { on := 4, ground := Ground.phase }, { on := 5, ground := Ground.phase }, { on := 6, ground := Ground.phase }, { on := 7, ground := Ground.phase }, { on := 8, ground := Ground.phase }, { on := 9, ground := Ground.phase }, { on := 10, ground := Ground.phase }, { on := 11, ground := Ground.phase }, { on := 12, ground := Ground.phase }], none⟩) rfl (by rfl) (by rfl) (fun w' hw' => ?_) ?_; rotate_left
          · go_simp <;> first | rfl | exact ⟨rfl, rfl⟩
          simp only [Act.put, List.setIfInBounds_toArray, List.set_cons_zero, List.set_cons_succ]
          refine wpT_nil (fun w3 hw' hF => ?_)
          refine wpList_nil ?_
          go_wp2_with fail
          go_roundw
          case rel => exact ⟨k + 1, by omega, by rw [HE.out], by rw [HS1.out], by go_num, hx1.trans hw'.undrew⟩
          case measure => simp [intOf]; omega
      · obtain rfl : k = q := by omega
        go_wp2_with fail
        go_ret
        exact ⟨rfl, hx⟩

end Go.Proofs.Ytcfimkjkolgboaa
