import Derived.Test.YtcfimkjkolgboaaE13
set_option linter.unusedVariables false
set_option linter.unusedSimpArgs false
namespace Go.Proofs.Ytcfimkjkolgboaa
open Go.RowKit

theorem clone1_any (ad : Addr) (n cap : Nat) (xs : List Int) (w : World) (hr : Rds w (some ad) n (ints xs)) (hn : n ≤ 1048576) (h0 : 0 < n) :
    Calls Try.prog 109 #[.slice (some ad) n cap] w fun e w' => ∃ g c, e = .returned (.slice (some ⟨g, 0, none⟩) n c) ∧ Own w' w.heap.size 2 (.slice (some ⟨g, 0, none⟩) n c) (ints xs) ∧ Ext w w' := by
  refine (clone_any ad n cap xs w hr hn).mono ?_
  rintro e w' ⟨A, c, rfl, ho, hx⟩
  obtain ⟨g, rfl, _⟩ := ho.head h0
  exact ⟨g, c, rfl, ho, hx⟩

set_option maxHeartbeats 4000000 in
theorem minor_any (R C n cap : Nat) (A : Option Addr) (xs : List Int) (hR : R ≤ 6) (hC : C ≤ 6) (hn : Hid (n = R * C)) : ∀ (rows cols : List Int) (B : Option Addr) (p pc : Nat) (D : Option Addr) (q qc : Nat) (w : World),
    Rds w A n (ints xs) → Rds w B p (ints rows) → Rds w D q (ints cols) → p ≤ pc → q ≤ qc → q ≤ 1048576 → Hid (∀ x ∈ rows, 0 ≤ x ∧ x < R) → Hid (∀ x ∈ cols, 0 ≤ x ∧ x < C) →
    Calls Try.prog 83 #[.agg #[.int .i64 R, .int .i64 C, .slice A n cap], .slice B p pc, .slice D q qc] w fun e w' => e = .returned (.int .i64 (minorL xs C rows cols)) ∧ Ext w w' := by
  intro rows
  induction rows with
  | nil =>
    intro cols B p pc D q qc w ha hr hq hpc hqc hq6 hb1 hb2
    obtain rfl : 0 = p := by simpa using hr.ilen
    have e0 : minorL xs C [] cols = 1 := rfl
    rw [e0]
    go_enter Try.func83, Try.ntmps83
    go_wp2_with fail
    go_ret
    exact ⟨rfl, (Ext.refl _).alloc _⟩
  | cons r rows ih =>
    intro cols B p pc D q qc w ha hr hq hpc hqc hq6 hb1 hb2
    have hp : p = rows.length + 1 := by simpa using hr.ilen.symm
    have hp0 : ((p : Int) == 0) = false := by simp; omega
    have hps := hr.small
    have hql := hq.ilen
    have hrb := hb1.out r (by simp)
    obtain ⟨i, rfl⟩ : ∃ i : Nat, r = i := ⟨r.toNat, by omega⟩
    have hi : i < R := by omega
    obtain ⟨ad, rfl, _⟩ := hr.at' (by omega)
    obtain ⟨a1, ha1, hr1⟩ := hr.tail hpc
    obtain ⟨S, hS⟩ : ∃ S : Nat → Int, S = mSum (fun k => rd xs ((i : Int) * C + rd cols k)) (fun k => minorL xs C rows (cols.eraseIdx k)) := ⟨_, rfl⟩
    have e0 : minorL xs C ((i : Int) :: rows) cols = S q := by rw [hS, ← hql]; rfl
    rw [e0]
    have e1 : S 0 = 0 := by rw [hS]; rfl
    have E2 : Hid (∀ k, S (k + 1) = if rd xs ((i : Int) * C + rd cols k) = 0 then S k else IntKind.i64.wrap (S k + IntKind.i64.wrap (IntKind.i64.wrap (sgnI k * rd xs ((i : Int) * C + rd cols k)) * minorL xs C rows (cols.eraseIdx k)))) := by intro k; rw [hS]; rfl
    have E1 := Lib.hid e1
    have HP := Lib.hid hp
    have hp1 : 0 < p := by omega
    have hp2 : (1 : Int) ≤ p := by omega
    have hb1' : Hid (∀ x ∈ rows, 0 ≤ x ∧ x < (R : Int)) := fun x hx => hb1.out x (by simp [hx])
    clear e0 e1 hS hp hrb hb1 hql
    go_enter Try.func83, Try.ntmps83
    go_wp2_with fail
    clear hp0
    have x0 : Ext w (w.alloc (.cells #[.int .i64 R, .int .i64 C, .slice A n cap] 31)) := (Ext.refl _).alloc _
    have hbx : WAt (w.alloc (.cells #[.int .i64 R, .int .i64 C, .slice A n cap] 31)) w.heap.size R C A n cap xs := WAt.new ha _
    obtain ⟨wb, hwb⟩ : ∃ wb, wb = w.alloc (.cells #[.int .i64 R, .int .i64 C, .slice A n cap] 31) := ⟨_, rfl⟩
    rw [← hwb] at x0 hbx ⊢
    clear hwb
    replace hq := hq.below x0
    replace hr := hr.below x0
    replace hr1 := hr1.below x0
    go_loopw [7, 8, 17] (fun u s v wr => ∃ k : Nat, k ≤ q ∧ u = .int .i64 (S k) ∧ s = .int .i64 (sgnI k) ∧ v = .int .i64 k ∧ Ext wb wr) (fun _ _ v _ => q - (intOf v).toNat)
    case atStart => exact ⟨0, Nat.zero_le _, by rw [E1.out], rfl, rfl, Ext.refl _⟩
    case round =>
      obtain ⟨k, hk, rfl, rfl, rfl, hx⟩ := hrel
      by_cases hlt : k < q
      · obtain ⟨ad2, rfl, hc2⟩ := (hq.below hx).intN k hlt
        obtain ⟨ad', had', hc1⟩ := (hr.below hx).intN 0 (by have := HP.out; omega)
        obtain rfl := Option.some.inj had'
        have hcb := allMem hb2.out (k := k) (by rw [hq.ilen]; exact hlt)
        obtain ⟨j, hj⟩ : ∃ j : Nat, rd cols k = j := ⟨(rd cols k).toNat, by omega⟩
        have hjC : j < C := by omega
        have he := E2.out k
        rw [hj] at hc2 he
        clear hcb hj
        have e3 : rd ((i : Int) :: rows) 0 = i := rfl
        obtain ⟨x, hxx⟩ : ∃ x, x = rd xs ((i : Int) * C + j) := ⟨_, rfl⟩
        obtain ⟨z, hz⟩ : ∃ z, z = S k := ⟨_, rfl⟩
        obtain ⟨s, hs⟩ : ∃ s, s = sgnI k := ⟨_, rfl⟩
        have hsb := sgnI_bd k
        have hs1 : sgnI (k + 1) = -s := by rw [hs]; rfl
        rw [← hxx, ← hz, ← hs] at he
        rw [← hs] at hsb
        rw [← hz, ← hs]
        have HX := Lib.hid hxx
        have HS1 := Lib.hid hs1
        have hc1' : wr.cell? (ad.add 0) = some (.int .i64 i) := hc1
        have hc1'' : wr.cell? ad = some (.int .i64 i) := hc1
        obtain ⟨d0, d1, d2, hrx⟩ := hbx.ext hx
        clear hs hz e3 hc1 had'
        by_cases hx0 : x = 0
        · have hne : (x != 0) = false := by simp [hx0]
          rw [if_pos hx0] at he
          have HE := Lib.hid he
          have HX0 := Lib.hid hx0
          clear he hx0 hxx
          go_wp2_with fail
          refine wp_region_T (cs := []) [0, 1, 2, 3, 4, 5, 6] [] [5] [] (fun i__ v => match i__ with | 5 => v = (.int .i64 x) | _ => False) (fun _ _ _ => True) (by kernel_rfl) (by kernel_rfl) (fun _ _ _ _ _ _ => trivial) ?_
          refine' wpT_det (o := ⟨some 22, Op.load 31 (Operand.tmp 3), 31, "l06_integers.go:124", #[], none⟩) rfl (by rfl) (by rfl) (fun w' hw' => ?_) ?_; rotate_left
          · have hc1'_ := Ext.cell hw' hc1'; have hc1''_ := Ext.cell hw' hc1''; have d0_ := Ext.cell hw' d0; have d1_ := Ext.cell hw' d1; have d2_ := Ext.cell hw' d2; go_simp <;> first | rfl | exact ⟨rfl, rfl⟩
          simp only [Act.put, List.setIfInBounds_toArray, List.set_cons_zero, List.set_cons_succ]
          refine' wpT_det (o := ⟨some 23, Op.move (Operand.tmp 1), 26, "l06_integers.go:124", #[], none⟩) rfl (by rfl) (by rfl) (fun w' hw' => ?_) ?_; rotate_left
          · go_simp <;> first | rfl | exact ⟨rfl, rfl⟩
          simp only [Act.put, List.setIfInBounds_toArray, List.set_cons_zero, List.set_cons_succ]
          refine' wpT_det (o := ⟨some 24, Op.indexAddr 26 (Operand.tmp 23) (Operand.const (Value.int IntKind.i64 0)), 0, "l06_integers.go:124", #[{ on := 1, ground := Ground.data }], none⟩) rfl (by rfl) (by rfl) (fun w' hw' => ?_) ?_; rotate_left
          · go_simp <;> first | rfl | exact ⟨rfl, rfl⟩
          simp only [Act.put, List.setIfInBounds_toArray, List.set_cons_zero, List.set_cons_succ]
          refine' wpT_det (o := ⟨some 25, Op.load 2 (Operand.tmp 24), 2, "l06_integers.go:124", #[{ on := 2, ground := Ground.data }], none⟩) rfl (by rfl) (by rfl) (fun w' hw' => ?_) ?_; rotate_left
          · have hc1'_ := Ext.cell hw' hc1'; have hc1''_ := Ext.cell hw' hc1''; have d0_ := Ext.cell hw' d0; have d1_ := Ext.cell hw' d1; have d2_ := Ext.cell hw' d2; go_simp <;> first | rfl | exact ⟨rfl, rfl⟩
          simp only [Act.put, List.setIfInBounds_toArray, List.set_cons_zero, List.set_cons_succ]
          refine' wpT_det (o := ⟨some 26, Op.move (Operand.tmp 10), 2, "l06_integers.go:124", #[], none⟩) rfl (by rfl) (by rfl) (fun w' hw' => ?_) ?_; rotate_left
          · go_simp <;> first | rfl | exact ⟨rfl, rfl⟩
          simp only [Act.put, List.setIfInBounds_toArray, List.set_cons_zero, List.set_cons_succ]
          refine wpT_nd (o := ⟨some 27, Op.call { callee := Callee.value (Operand.func 78), args := #[Operand.tmp 22, Operand.tmp 25, Operand.tmp 26], argTypes := #[31, 2, 2] }, 2, "l06_integers.go:124", #[{ on := 0, ground := Ground.data }, { on := 3, ground := Ground.data }, { on := 4, ground := Ground.data }], none⟩) rfl (by rfl) (by rfl) (fun w' hw' hF R__ hGo => ?_) ⟨_, rfl⟩ ?_
          · go_simp
            refine gives_enter rfl ?_
            refine (at_any R C i j n cap A xs _ hi hjC hR hC hn.out (hrx.below hw'.undrew)).mono ?_
            rintro e w2 ⟨rfl, hx⟩
            exact ⟨_, rfl, hGo _ _ hx (congrArg (Value.int .i64) HX.out.symm) trivial⟩
          intro v hv
          obtain rfl : v = (.int .i64 x) := hv
          simp only [Act.put, List.setIfInBounds_toArray, List.set_cons_zero, List.set_cons_succ]
          refine' wpT_det (o := ⟨some 11, Op.assign (Operand.tmp 27), 2, "l06_integers.go:124", #[{ on := 5, ground := Ground.data }, { on := 5, ground := Ground.chain }, { on := 0, ground := Ground.phase }, { on := 1, ground := Ground.phase }, { on := 2, ground := Ground.phase }, { on := 3, ground := Ground.phase }, { on := 4, ground := Ground.phase }, { on := 5, ground := Ground.phase }], none⟩) rfl (by rfl) (by rfl) (fun w' hw' => ?_) ?_; rotate_left
          · go_simp <;> first | rfl | exact ⟨rfl, rfl⟩
          simp only [Act.put, List.setIfInBounds_toArray, List.set_cons_zero, List.set_cons_succ]
          refine wpT_nil (fun w' hw' hF => ?_)
          refine wpList_nil ?_
          go_wp2_with fail
          go_roundw
          case rel => exact ⟨k + 1, by omega, by rw [HE.out], by rw [HS1.out], by go_num, hx.trans hw'.undrew⟩
          case measure => simp [intOf]; omega
        · have hne : (x != 0) = true := by simp [hx0]
          rw [if_neg hx0] at he
          obtain ⟨mm, hmm⟩ : ∃ mm, mm = minorL xs C rows (cols.eraseIdx k) := ⟨_, rfl⟩
          rw [← hmm] at he
          have HE := Lib.hid he
          have HX0 := Lib.hid hx0
          have HM := Lib.hid hmm
          clear he hx0 hxx hmm
          go_wp2_with fail
          refine wp_region_T (cs := []) [0, 1, 2, 3, 4, 5, 6] [] [5] [] (fun i__ v => match i__ with | 5 => v = (.int .i64 x) | _ => False) (fun _ _ _ => True) (by kernel_rfl) (by kernel_rfl) (fun _ _ _ _ _ _ => trivial) ?_
          refine' wpT_det (o := ⟨some 22, Op.load 31 (Operand.tmp 3), 31, "l06_integers.go:124", #[], none⟩) rfl (by rfl) (by rfl) (fun w' hw' => ?_) ?_; rotate_left
          · have hc1'_ := Ext.cell hw' hc1'; have hc1''_ := Ext.cell hw' hc1''; have d0_ := Ext.cell hw' d0; have d1_ := Ext.cell hw' d1; have d2_ := Ext.cell hw' d2; go_simp <;> first | rfl | exact ⟨rfl, rfl⟩
          simp only [Act.put, List.setIfInBounds_toArray, List.set_cons_zero, List.set_cons_succ]
          refine' wpT_det (o := ⟨some 23, Op.move (Operand.tmp 1), 26, "l06_integers.go:124", #[], none⟩) rfl (by rfl) (by rfl) (fun w' hw' => ?_) ?_; rotate_left
          · go_simp <;> first | rfl | exact ⟨rfl, rfl⟩
          simp only [Act.put, List.setIfInBounds_toArray, List.set_cons_zero, List.set_cons_succ]
          refine' wpT_det (o := ⟨some 24, Op.indexAddr 26 (Operand.tmp 23) (Operand.const (Value.int IntKind.i64 0)), 0, "l06_integers.go:124", #[{ on := 1, ground := Ground.data }], none⟩) rfl (by rfl) (by rfl) (fun w' hw' => ?_) ?_; rotate_left
          · go_simp <;> first | rfl | exact ⟨rfl, rfl⟩
          simp only [Act.put, List.setIfInBounds_toArray, List.set_cons_zero, List.set_cons_succ]
          refine' wpT_det (o := ⟨some 25, Op.load 2 (Operand.tmp 24), 2, "l06_integers.go:124", #[{ on := 2, ground := Ground.data }], none⟩) rfl (by rfl) (by rfl) (fun w' hw' => ?_) ?_; rotate_left
          · have hc1'_ := Ext.cell hw' hc1'; have hc1''_ := Ext.cell hw' hc1''; have d0_ := Ext.cell hw' d0; have d1_ := Ext.cell hw' d1; have d2_ := Ext.cell hw' d2; go_simp <;> first | rfl | exact ⟨rfl, rfl⟩
          simp only [Act.put, List.setIfInBounds_toArray, List.set_cons_zero, List.set_cons_succ]
          refine' wpT_det (o := ⟨some 26, Op.move (Operand.tmp 10), 2, "l06_integers.go:124", #[], none⟩) rfl (by rfl) (by rfl) (fun w' hw' => ?_) ?_; rotate_left
          · go_simp <;> first | rfl | exact ⟨rfl, rfl⟩
          simp only [Act.put, List.setIfInBounds_toArray, List.set_cons_zero, List.set_cons_succ]
          refine wpT_nd (o := ⟨some 27, Op.call { callee := Callee.value (Operand.func 78), args := #[Operand.tmp 22, Operand.tmp 25, Operand.tmp 26], argTypes := #[31, 2, 2] }, 2, "l06_integers.go:124", #[{ on := 0, ground := Ground.data }, { on := 3, ground := Ground.data }, { on := 4, ground := Ground.data }], none⟩) rfl (by rfl) (by rfl) (fun w' hw' hF R__ hGo => ?_) ⟨_, rfl⟩ ?_
          · go_simp
            refine gives_enter rfl ?_
            refine (at_any R C i j n cap A xs _ hi hjC hR hC hn.out (hrx.below hw'.undrew)).mono ?_
            rintro e w2 ⟨rfl, hx⟩
            exact ⟨_, rfl, hGo _ _ hx (congrArg (Value.int .i64) HX.out.symm) trivial⟩
          intro v hv
          obtain rfl : v = (.int .i64 x) := hv
          simp only [Act.put, List.setIfInBounds_toArray, List.set_cons_zero, List.set_cons_succ]
          refine' wpT_det (o := ⟨some 11, Op.assign (Operand.tmp 27), 2, "l06_integers.go:124", #[{ on := 5, ground := Ground.data }, { on := 5, ground := Ground.chain }, { on := 0, ground := Ground.phase }, { on := 1, ground := Ground.phase }, { on := 2, ground := Ground.phase }, { on := 3, ground := Ground.phase }, { on := 4, ground := Ground.phase }, { on := 5, ground := Ground.phase }], none⟩) rfl (by rfl) (by rfl) (fun w' hw' => ?_) ?_; rotate_left
          · go_simp <;> first | rfl | exact ⟨rfl, rfl⟩
          simp only [Act.put, List.setIfInBounds_toArray, List.set_cons_zero, List.set_cons_succ]
          refine wpT_nil (fun w' hw' hF => ?_)
          refine wpList_nil ?_
          obtain ⟨wN, hwN⟩ : ∃ wN, wN = w' := ⟨_, rfl⟩
          subst hwN
          have hx1 := hx.trans hw'.undrew
          clear hF hc1' hc1'' hc2 hw' d0 d1 d2 hrx
          obtain ⟨d0, d1, d2, hrx⟩ := hbx.ext hx1
          go_wp2_with fail
          have hk1 : IntKind.i64.wrap ((k : Int) + 1) = (k : Int) + 1 := IntWalk.i64_in _ (by omega)
          refine wp_region_T (cs := [(12, [8])]) [0, 1, 2, 3, 4, 5, 6, 7, 8, 9, 10, 11, 12, 13, 14, 15, 16] [] [8, 12, 13] [(12, [8]), (13, [12])] (fun i__ v => match i__ with | 8 => ∃ (g c : Nat), v = (.slice (some ⟨g, 0, none⟩) q c) | 12 => ∃ (g c : Nat), v = (.slice (some ⟨g, 0, none⟩) (q - 1) c) | 13 => v = (.int .i64 mm) | _ => False) (fun i__ v w' => match i__ with | 8 => OwnF w' wN.heap.size 2 v [] (ints cols) | 12 => OwnF w' wN.heap.size 2 v [] (ints (cols.eraseIdx k)) | _ => True) (by kernel_rfl) (by kernel_rfl) (by intro i v w' w2 h hx; revert h; (try dsimp only); split <;> intro h <;> first | trivial | exact OwnF.ext h hx) ?_
          refine' wpT_det (o := ⟨some 30, Op.move (Operand.tmp 7), 2, "l06_integers.go:125", #[], none⟩) rfl (by rfl) (by rfl) (fun w' hw' => ?_) ?_; rotate_left
          · go_simp <;> first | rfl | exact ⟨rfl, rfl⟩
          simp only [Act.put, List.setIfInBounds_toArray, List.set_cons_zero, List.set_cons_succ]
          refine' wpT_det (o := ⟨some 31, Op.move (Operand.tmp 8), 2, "l06_integers.go:125", #[], none⟩) rfl (by rfl) (by rfl) (fun w' hw' => ?_) ?_; rotate_left
          · go_simp <;> first | rfl | exact ⟨rfl, rfl⟩
          simp only [Act.put, List.setIfInBounds_toArray, List.set_cons_zero, List.set_cons_succ]
          refine' wpT_det (o := ⟨some 32, Op.move (Operand.tmp 11), 2, "l06_integers.go:125", #[], none⟩) rfl (by rfl) (by rfl) (fun w' hw' => ?_) ?_; rotate_left
          · go_simp <;> first | rfl | exact ⟨rfl, rfl⟩
          simp only [Act.put, List.setIfInBounds_toArray, List.set_cons_zero, List.set_cons_succ]
          refine' wpT_det (o := ⟨some 33, Op.binOp BinOp.mul 2 (Operand.tmp 31) (Operand.tmp 32) 2, 2, "l06_integers.go:125", #[{ on := 1, ground := Ground.data }, { on := 2, ground := Ground.data }], none⟩) rfl (by rfl) (by rfl) (fun w' hw' => ?_) ?_; rotate_left
          · go_simp <;> first | rfl | exact ⟨rfl, rfl⟩
          simp only [Act.put, List.setIfInBounds_toArray, List.set_cons_zero, List.set_cons_succ]
          refine' wpT_det (o := ⟨some 34, Op.load 31 (Operand.tmp 3), 31, "l06_integers.go:125", #[], none⟩) rfl (by rfl) (by rfl) (fun w' hw' => ?_) ?_; rotate_left
          · have d0_ := Ext.cell hw' d0; have d1_ := Ext.cell hw' d1; have d2_ := Ext.cell hw' d2; go_simp <;> first | rfl | exact ⟨rfl, rfl⟩
          simp only [Act.put, List.setIfInBounds_toArray, List.set_cons_zero, List.set_cons_succ]
          refine' wpT_det (o := ⟨some 35, Op.move (Operand.tmp 1), 26, "l06_integers.go:125", #[], none⟩) rfl (by rfl) (by rfl) (fun w' hw' => ?_) ?_; rotate_left
          · go_simp <;> first | rfl | exact ⟨rfl, rfl⟩
          simp only [Act.put, List.setIfInBounds_toArray, List.set_cons_zero, List.set_cons_succ]
          refine' wpT_det (o := ⟨some 36, Op.slice 26 (Operand.tmp 35) (some (Operand.const (Value.int IntKind.i64 1))) none none, 26, "l06_integers.go:125", #[{ on := 5, ground := Ground.data }], none⟩) rfl (by rfl) (by rfl) (fun w' hw' => ?_) ?_; rotate_left
          · go_simp <;> first | rfl | exact ⟨rfl, rfl⟩
          simp only [Act.put, List.setIfInBounds_toArray, List.set_cons_zero, List.set_cons_succ]
          refine' wpT_det (o := ⟨some 37, Op.move (Operand.tmp 2), 26, "l06_integers.go:125", #[], none⟩) rfl (by rfl) (by rfl) (fun w' hw' => ?_) ?_; rotate_left
          · go_simp <;> first | rfl | exact ⟨rfl, rfl⟩
          simp only [Act.put, List.setIfInBounds_toArray, List.set_cons_zero, List.set_cons_succ]
          refine wpT_nd (o := ⟨some 38, Op.call { callee := Callee.value (Operand.func 109), args := #[Operand.tmp 37], argTypes := #[26] }, 26, "l06_integers.go:125", #[{ on := 7, ground := Ground.data }], none⟩) rfl (by rfl) (by rfl) (fun w' hw' hF R__ hGo => ?_) ⟨_, 0, 0, rfl⟩ ?_
          · go_simp
            refine gives_enter rfl ?_
            refine (clone1_any ad2 q qc cols _ (hq.below (hx1.trans hw'.undrew)) hq6 (by omega)).mono ?_
            rintro e w2 ⟨g2, c2, rfl, o2, hx⟩
            exact ⟨_, rfl, hGo _ _ hx ⟨_, _, rfl⟩ (OwnF.of (o2.base hw'.size) rfl)⟩
          rintro _ ⟨g2, c2, rfl⟩
          simp only [Act.put, List.setIfInBounds_toArray, List.set_cons_zero, List.set_cons_succ]
          refine' wpT_det (o := ⟨some 39, Op.move (Operand.tmp 9), 3, "l06_integers.go:125", #[], none⟩) rfl (by rfl) (by rfl) (fun w' hw' => ?_) ?_; rotate_left
          · go_simp <;> first | rfl | exact ⟨rfl, rfl⟩
          simp only [Act.put, List.setIfInBounds_toArray, List.set_cons_zero, List.set_cons_succ]
          refine' wpT_det (o := ⟨some 40, Op.move (Operand.tmp 9), 3, "l06_integers.go:125", #[], none⟩) rfl (by rfl) (by rfl) (fun w' hw' => ?_) ?_; rotate_left
          · go_simp <;> first | rfl | exact ⟨rfl, rfl⟩
          simp only [Act.put, List.setIfInBounds_toArray, List.set_cons_zero, List.set_cons_succ]
          refine' wpT_det (o := ⟨some 41, Op.binOp BinOp.add 3 (Operand.tmp 40) (Operand.const (Value.int IntKind.i64 1)) 3, 3, "l06_integers.go:125", #[{ on := 10, ground := Ground.data }], none⟩) rfl (by rfl) (by rfl) (fun w' hw' => ?_) ?_; rotate_left
          · go_simp <;> first | rfl | exact ⟨rfl, rfl⟩
          simp only [Act.put, List.setIfInBounds_toArray, List.set_cons_zero, List.set_cons_succ]
          refine wpT_mv (o := ⟨some 42, Op.call { callee := Callee.value (Operand.func 108), args := #[Operand.tmp 38, Operand.tmp 39, Operand.tmp 41], argTypes := #[26, 3, 3] }, 26, "l06_integers.go:125", #[{ on := 8, ground := Ground.data }, { on := 9, ground := Ground.data }, { on := 11, ground := Ground.data }, { on := 8, ground := Ground.chain }], none⟩) rfl (by rfl) (by rfl) (fun w' hw' hF R__ hGo => ?_) ⟨_, 0, 0, rfl⟩ ?_
          · go_simp; refine gives_enter rfl ?_; have o8 := hF 8 (by simp [uses]) _ rfl _ _ _ rfl; refine (delete_any wN.heap.size g2 q c2 k cols _ o8 hlt).mono ?_; rintro e w2 ⟨rfl, o9, hw9⟩; exact ⟨_, rfl, hGo _ _ (hw9.ext hw' o8) (fun k' u h1 h2 h3 => by revert h3; (try dsimp only); split <;> intro h3 <;> first | trivial | (exact absurd rfl h2) | (simp [uses] at h1)) ⟨_, _, rfl⟩ (OwnF.of o9 rfl)⟩
          rintro _ ⟨g3, c3, rfl⟩
          simp only [Act.put, List.setIfInBounds_toArray, List.set_cons_zero, List.set_cons_succ]
          refine wpT_nd (o := ⟨some 43, Op.call { callee := Callee.value (Operand.func 83), args := #[Operand.tmp 34, Operand.tmp 36, Operand.tmp 42], argTypes := #[31, 26, 26] }, 2, "l06_integers.go:125", #[{ on := 4, ground := Ground.data }, { on := 6, ground := Ground.data }, { on := 12, ground := Ground.data }, { on := 12, ground := Ground.chain }], none⟩) rfl (by rfl) (by rfl) (fun w' hw' hF R__ hGo => ?_) ⟨_, rfl⟩ ?_
          · go_simp
            refine gives_enter rfl ?_
            refine (ih (cols.eraseIdx k) (some a1) (p - 1) (pc - 1) (some ⟨g3, 0, none⟩) (q - 1) c3 _ (hrx.below hw'.undrew) (hr1.below (hx1.trans hw'.undrew)) (hF 12 (by simp [uses]) _ rfl _ _ _ rfl).reads (by omega) (hF 12 (by simp [uses]) _ rfl _ _ _ rfl).cap (by omega) hb1' (fun y hy => hb2.out y (List.mem_of_mem_eraseIdx hy))).mono ?_
            rintro e w2 ⟨rfl, hx⟩
            exact ⟨_, rfl, hGo _ _ hx (congrArg (Value.int .i64) HM.out.symm) trivial⟩
          intro v hv
          obtain rfl : v = (.int .i64 mm) := hv
          simp only [Act.put, List.setIfInBounds_toArray, List.set_cons_zero, List.set_cons_succ]
          refine' wpT_det (o := ⟨some 44, Op.binOp BinOp.mul 2 (Operand.tmp 33) (Operand.tmp 43) 2, 2, "l06_integers.go:125", #[{ on := 3, ground := Ground.data }, { on := 13, ground := Ground.data }], none⟩) rfl (by rfl) (by rfl) (fun w' hw' => ?_) ?_; rotate_left
          · go_simp <;> first | rfl | exact ⟨rfl, rfl⟩
          simp only [Act.put, List.setIfInBounds_toArray, List.set_cons_zero, List.set_cons_succ]
          refine' wpT_det (o := ⟨some 45, Op.binOp BinOp.add 2 (Operand.tmp 30) (Operand.tmp 44) 2, 2, "l06_integers.go:125", #[{ on := 0, ground := Ground.data }, { on := 14, ground := Ground.data }], none⟩) rfl (by rfl) (by rfl) (fun w' hw' => ?_) ?_; rotate_left
          · go_simp <;> first | rfl | exact ⟨rfl, rfl⟩
          simp only [Act.put, List.setIfInBounds_toArray, List.set_cons_zero, List.set_cons_succ]
          refine' wpT_det (o := ⟨some 7, Op.assign (Operand.tmp 45), 2, "l06_integers.go:125", #[{ on := 15, ground := Ground.data }, { on := 13, ground := Ground.chain }, { on := 0, ground := Ground.phase }, { on := 1, ground := Ground.phase }, { on := 2, ground := Ground.phase }, { on := 3, ground := Ground.phase }, { on := 4, ground := Ground.phase }, { on := 5, ground := Ground.phase }, { on := 6, ground := Ground.phase }, { on := 7, ground := Ground.phase }, { on := 8, ground := Ground.phase }, { on := 9, ground := Ground.phase }, { on := 10, ground := Ground.phase }, { on := 11, ground := Ground.phase }, { on := 12, ground := Ground.phase }, { on := 13, ground := Ground.phase }, { on := 14, ground := Ground.phase }, { on := 15, ground := Ground.phase }], none⟩) rfl (by rfl) (by rfl) (fun w' hw' => ?_) ?_; rotate_left
          · go_simp <;> first | rfl | exact ⟨rfl, rfl⟩
          simp only [Act.put, List.setIfInBounds_toArray, List.set_cons_zero, List.set_cons_succ]
          refine wpT_nil (fun w3 hw' hF => ?_)
          refine wpList_nil ?_
          go_wp2_with fail
          go_roundw
          case rel => exact ⟨k + 1, by omega, by rw [HE.out], by rw [HS1.out], by go_num, hx1.trans hw'.undrew⟩
          case measure => simp [intOf]; omega
      · obtain rfl : k = q := by omega
        go_wp2_with fail
        go_ret
        exact ⟨rfl, x0.trans hx⟩

end Go.Proofs.Ytcfimkjkolgboaa
