import Derived.Test.YtgjfdfmbknmpaaaM23
set_option linter.unusedVariables false
set_option linter.unusedSimpArgs false
namespace Go.Proofs.Ytgjfdfmbknmpaaa
open Go.RowKit

theorem rc_ix {R i k : Nat} (hk : k < R) : (i * R + k) / R = i ∧ (i * R + k) % R = k := by
  refine ⟨?_, ?_⟩
  · rw [Nat.mul_comm, Nat.mul_add_div (by omega), Nat.div_eq_of_lt hk]; rfl
  · rw [Nat.mul_comm, Nat.mul_add_mod, Nat.mod_eq_of_lt hk]
theorem at_rdf (xs : List Nat) (C i k : Nat) : at_ xs C i k = rdf xs ((i * C + k : Nat) : Int) := by
  unfold at_
  congr 1
/-- The sum of the squares off the middle. -/
def offA (xs : List Nat) (R : Nat) : Nat → Option Nat
  | 0 => some 0
  | i + 1 => if i % R = i / R then offA xs R i else fadd (offA xs R i) (fmul (c32 (rdf xs i)) (c32 (rdf xs i)))
theorem offA_mid {xs : List Nat} {R i k : Nat} (hk : k < R) (h : i = k) : offA xs R (i * R + (k + 1)) = offA xs R (i * R + k) := by
  obtain ⟨h1, h2⟩ := rc_ix (i := i) hk
  show offA xs R (i * R + k + 1) = _
  rw [offA, h1, h2, if_pos h.symm]
theorem offA_off {xs : List Nat} {R i k : Nat} (hk : k < R) (h : i ≠ k) : offA xs R (i * R + (k + 1)) = fadd (offA xs R (i * R + k)) (fmul (c32 (at_ xs R i k)) (c32 (at_ xs R i k))) := by
  obtain ⟨h1, h2⟩ := rc_ix (i := i) hk
  show offA xs R (i * R + k + 1) = _
  rw [offA, h1, h2, if_neg (fun e => h e.symm), at_rdf]
def offD (r c : Int) (xs : List Nat) : Nat × Bool := if isSq r c xs then giveF (rootF (offA xs r.toNat (r.toNat * r.toNat))) else (0, false)
theorem offD_fin (r c : Int) (xs : List Nat) : isFin .f32 (offD r c xs).1 = true := by
  unfold offD
  split
  · exact giveF_fin _
  · decide

set_option maxRecDepth 20000 in
set_option maxHeartbeats 4000000 in
theorem implOffNorm_any (r c : Int) (A : Option Addr) (n cap : Nat) (xs : List Nat) (w : World) (hr : Rds w A n (flts xs)) :
    Calls Try.prog 83 #[.agg #[.int .i64 r, .int .i64 c, .slice A n cap]] w (RetND w (offD r c xs)) := by
  have HL := Lib.hid hr.flen
  cases hv : isSq r c xs with
  | false =>
    have hd : offD r c xs = (0, false) := by simp [offD, hv]
    rw [hd]
    go_enter Try.func83, Try.ntmps83
    go_upto_region 1 with (fail)
    obtain ⟨w0, hw0⟩ : ∃ w0, w0 = (w.alloc (.cells #[.int .i64 r, .int .i64 c, .slice A n cap] 35)) := ⟨_, rfl⟩
    have hx0 : Ext w w0 := by subst hw0; exact (Ext.refl _).alloc _
    have ba : Blk w0 (w.heap.size) #[.int .i64 r, .int .i64 c, .slice A n cap] 35 := by subst hw0; exact (Blk.new w _ _)
    rw [← hw0]
    clear hw0
    obtain ⟨c0, c1, c2, hr1⟩ := MAt.blk ba (hr.below hx0)
    go_wp2_with fail
    refine (isSquare_any r c A n cap xs _ hr1).mono ?_
    rintro e w1 ⟨rfl, hx⟩
    rw [hv]
    replace hx0 := hx0.trans hx
    clear c0 c1 c2 hx
    go_wp2_with fail
    go_ret2
    exact ⟨rfl, hx0⟩
  | true =>
    obtain ⟨hv', rfl⟩ := sq_nat hv
    obtain ⟨R, C, rfl, e1, p1, p2, _, _, p5⟩ := mat_nat hv'
    obtain rfl : C = R := by omega
    have hd : offD C C xs = giveF (rootF (offA xs C (C * C))) := by simp [offD, hv]
    have Hn : Hid (n = C * C) := by have := HL.out; show n = _; omega
    rw [hd]
    clear hd p5 e1
    go_enter Try.func83, Try.ntmps83
    go_upto_region 1 with (fail)
    obtain ⟨w0, hw0⟩ : ∃ w0, w0 = (w.alloc (.cells #[.int .i64 C, .int .i64 C, .slice A n cap] 35)) := ⟨_, rfl⟩
    have hx0 : Ext w w0 := by subst hw0; exact (Ext.refl _).alloc _
    have ba : Blk w0 (w.heap.size) #[.int .i64 C, .int .i64 C, .slice A n cap] 35 := by subst hw0; exact (Blk.new w _ _)
    rw [← hw0]
    clear hw0
    obtain ⟨c0, c1, c2, hr1⟩ := MAt.blk ba (hr.below hx0)
    go_wp2_with fail
    refine (isSquare_any _ _ A n cap xs _ hr1).mono ?_
    rintro e w1 ⟨rfl, hx⟩
    rw [hv]
    replace ba := ba.ext hx
    replace hx0 := hx0.trans hx
    clear c0 c1 c2 hr1 hx
    obtain ⟨c0, c1, c2, hr1⟩ := MAt.blk ba (hr.below hx0)
    go_wp2_with fail
    go_loopw [4, 12] (fun u v wr => ∃ i : Nat, i ≤ C ∧ v = .int .i64 i ∧ ∃ s, u = .float .f32 s ∧ c32 s = offA xs C (i * C) ∧ Ext w1 wr) (fun _ v _ => C - (intOf v).toNat)
    case atStart => exact ⟨0, Nat.zero_le _, rfl, 0, rfl, by rw [Nat.zero_mul]; exact c32_0, Ext.refl _⟩
    case round =>
      clear c0 c1 c2 hr1
      obtain ⟨i, hi, rfl, s, rfl, hs, hx⟩ := hrel
      obtain ⟨c0, c1, c2, hr1⟩ := (MAt.blk ba (hr.below hx0)).ext hx
      by_cases hlt : i < C
      · go_wp2_with fail
        go_loopw [4, 17] (fun u v wr => ∃ k : Nat, k ≤ C ∧ v = .int .i64 k ∧ ∃ s, u = .float .f32 s ∧ c32 s = offA xs C (i * C + k) ∧ Ext w1 wr) (fun _ v _ => C - (intOf v).toNat)
        case atStart => exact ⟨0, Nat.zero_le _, rfl, s, rfl, hs, hx⟩
        case round =>
          clear hx c0 c1 c2 hr1 hs
          obtain ⟨k, hk, rfl, s, rfl, hs, hx⟩ := hrel
          obtain ⟨c0, c1, c2, hr1⟩ := (MAt.blk ba (hr.below hx0)).ext hx
          by_cases hlk : k < C
          · by_cases hik : i = k
            · have hik' : ((i : Int) != (k : Int)) = false := by simp [hik]
              have H := offA_mid (xs := xs) hlk hik
              have Hik := Lib.hid hik
              clear hik c0 c1 c2 hr1
              go_wp2_with fail
              go_roundw
              case rel => exact ⟨k + 1, by omega, by go_num, s, rfl, by rw [H]; exact hs, hx⟩
              case measure => simp [intOf]; omega
            · have hik' : ((i : Int) != (k : Int)) = true := by simp; omega
              have H := offA_off (xs := xs) hlk hik
              go_upto_region 11 with (fail)
              refine wp_region_T (cs := []) [0, 1, 2, 3, 4, 5, 6, 7, 8, 9, 10] [11] [4, 8, 9, 10] [] (fun i__ v => match i__ with | 4 => v = (.float .f32 (at_ xs C i k)) | 8 => v = (.float .f32 (at_ xs C i k)) | 9 => ∃ r, v = .float .f32 r ∧ c32 r = (fmul (c32 (at_ xs C i k)) (c32 (at_ xs C i k))) | 10 => ∃ r, v = .float .f32 r ∧ c32 r = (offA xs C (i * C + (k + 1))) | _ => False) (fun _ _ _ => True) (by kernel_rfl) (by kernel_rfl) (fun _ _ _ _ _ _ => trivial) ?_
              refine' wpT_det (o := ⟨some 23, Op.move (Operand.tmp 4), 39, "l04_values.go:177", #[], none⟩) rfl (by rfl) (by rfl) (fun w' hw' => ?_) ?_; rotate_left
              · go_simp <;> first | rfl | exact ⟨rfl, rfl⟩
              simp only [Act.put, List.setIfInBounds_toArray, List.set_cons_zero, List.set_cons_succ]
              refine' wpT_det (o := ⟨some 24, Op.load 35 (Operand.tmp 1), 35, "l04_values.go:177", #[], none⟩) rfl (by rfl) (by rfl) (fun w' hw' => ?_) ?_; rotate_left
              · have c0_ := Ext.cell hw' c0; have c1_ := Ext.cell hw' c1; have c2_ := Ext.cell hw' c2; go_simp <;> first | rfl | exact ⟨rfl, rfl⟩
              simp only [Act.put, List.setIfInBounds_toArray, List.set_cons_zero, List.set_cons_succ]
              refine' wpT_det (o := ⟨some 25, Op.move (Operand.tmp 5), 2, "l04_values.go:177", #[], none⟩) rfl (by rfl) (by rfl) (fun w' hw' => ?_) ?_; rotate_left
              · go_simp <;> first | rfl | exact ⟨rfl, rfl⟩
              simp only [Act.put, List.setIfInBounds_toArray, List.set_cons_zero, List.set_cons_succ]
              refine' wpT_det (o := ⟨some 26, Op.move (Operand.tmp 6), 2, "l04_values.go:177", #[], none⟩) rfl (by rfl) (by rfl) (fun w' hw' => ?_) ?_; rotate_left
              · go_simp <;> first | rfl | exact ⟨rfl, rfl⟩
              simp only [Act.put, List.setIfInBounds_toArray, List.set_cons_zero, List.set_cons_succ]
              refine wpT_nd (o := ⟨some 27, Op.call { callee := Callee.value (Operand.func 105), args := #[Operand.tmp 24, Operand.tmp 25, Operand.tmp 26], argTypes := #[35, 2, 2] }, 39, "l04_values.go:177", #[{ on := 1, ground := Ground.data }, { on := 2, ground := Ground.data }, { on := 3, ground := Ground.data }], none⟩) rfl (by rfl) (by rfl) (fun w' hw' hF R__ hGo => ?_) ⟨_, rfl⟩ ?_
              · go_simp
                refine gives_enter rfl ?_
                refine (at_any C C i k n cap A xs _ hlt hlk p2 p2 Hn.out (hr1.below hw'.undrew)).mono ?_
                rintro e w2 ⟨rfl, hx⟩
                exact ⟨_, rfl, hGo _ _ hx rfl trivial⟩
              intro v hv
              obtain rfl : v = (.float .f32 (at_ xs C i k)) := hv
              simp only [Act.put, List.setIfInBounds_toArray, List.set_cons_zero, List.set_cons_succ]
              refine' wpT_det (o := ⟨some 28, Op.load 35 (Operand.tmp 1), 35, "l04_values.go:177", #[], none⟩) rfl (by rfl) (by rfl) (fun w' hw' => ?_) ?_; rotate_left
              · have c0_ := Ext.cell hw' c0; have c1_ := Ext.cell hw' c1; have c2_ := Ext.cell hw' c2; go_simp <;> first | rfl | exact ⟨rfl, rfl⟩
              simp only [Act.put, List.setIfInBounds_toArray, List.set_cons_zero, List.set_cons_succ]
              refine' wpT_det (o := ⟨some 29, Op.move (Operand.tmp 5), 2, "l04_values.go:177", #[], none⟩) rfl (by rfl) (by rfl) (fun w' hw' => ?_) ?_; rotate_left
              · go_simp <;> first | rfl | exact ⟨rfl, rfl⟩
              simp only [Act.put, List.setIfInBounds_toArray, List.set_cons_zero, List.set_cons_succ]
              refine' wpT_det (o := ⟨some 30, Op.move (Operand.tmp 6), 2, "l04_values.go:177", #[], none⟩) rfl (by rfl) (by rfl) (fun w' hw' => ?_) ?_; rotate_left
              · go_simp <;> first | rfl | exact ⟨rfl, rfl⟩
              simp only [Act.put, List.setIfInBounds_toArray, List.set_cons_zero, List.set_cons_succ]
              refine wpT_nd (o := ⟨some 31, Op.call { callee := Callee.value (Operand.func 105), args := #[Operand.tmp 28, Operand.tmp 29, Operand.tmp 30], argTypes := #[35, 2, 2] }, 39, "l04_values.go:177", #[{ on := 5, ground := Ground.data }, { on := 6, ground := Ground.data }, { on := 7, ground := Ground.data }, { on := 4, ground := Ground.chain }], none⟩) rfl (by rfl) (by rfl) (fun w' hw' hF R__ hGo => ?_) ⟨_, rfl⟩ ?_
              · go_simp
                refine gives_enter rfl ?_
                refine (at_any C C i k n cap A xs _ hlt hlk p2 p2 Hn.out (hr1.below hw'.undrew)).mono ?_
                rintro e w2 ⟨rfl, hx⟩
                exact ⟨_, rfl, hGo _ _ hx rfl trivial⟩
              intro v hv
              obtain rfl : v = (.float .f32 (at_ xs C i k)) := hv
              simp only [Act.put, List.setIfInBounds_toArray, List.set_cons_zero, List.set_cons_succ]
              refine wpT_nd (o := ⟨some 32, Op.call { callee := Callee.value (Operand.func 119), args := #[Operand.tmp 27, Operand.tmp 31], argTypes := #[39, 39] }, 39, "l04_values.go:177", #[{ on := 4, ground := Ground.data }, { on := 8, ground := Ground.data }, { on := 8, ground := Ground.chain }], none⟩) rfl (by rfl) (by rfl) (fun w' hw' hF R__ hGo => ?_) (by obtain ⟨r, hr⟩ : ∃ r, c32 r = (fmul (c32 (at_ xs C i k)) (c32 (at_ xs C i k))) := ex_fop _ _ _; exact ⟨_, r, rfl, hr⟩) ?_
              · go_simp
                refine gives_enter rfl ?_
                refine (mul_any (at_ xs C i k) (at_ xs C i k) _).mono ?_
                rintro e w2 ⟨r, rfl, hr, hx⟩
                exact ⟨_, rfl, hGo _ _ hx ⟨r, rfl, hr⟩ trivial⟩
              rintro _ ⟨f9, rfl, hf9⟩
              simp only [Act.put, List.setIfInBounds_toArray, List.set_cons_zero, List.set_cons_succ]
              refine wpT_nd (o := ⟨some 33, Op.binOp BinOp.add 39 (Operand.tmp 23) (Operand.tmp 32) 39, 39, "l04_values.go:177", #[{ on := 0, ground := Ground.data }, { on := 9, ground := Ground.data }], none⟩) rfl (by rfl) (by rfl) (fun w' hw' hF R__ hGo => ?_) (by obtain ⟨r, hr⟩ := ex_d .add ((by rw [hf9, hs, H]) : fop .add .f32 (c32 (s)) (c32 (f9)) = (offA xs C (i * C + (k + 1)))); exact ⟨_, r, rfl, hr⟩) ?_
              · exact gives_f .add (.inl rfl) _ _ _ _ rfl (s) (f9) rfl rfl (offA xs C (i * C + (k + 1))) (by rw [hf9, hs, H]) (fun r w2 hx hc => hGo _ _ hx ⟨r, rfl, hc⟩ trivial)
              rintro _ ⟨f10, rfl, hf10⟩
              simp only [Act.put, List.setIfInBounds_toArray, List.set_cons_zero, List.set_cons_succ]
              refine wpT_nil (fun w5 hw' hF => ?_)
              show wpList _ _ _ [(⟨some 4, Op.assign (Operand.tmp 33), 39, "l04_values.go:177", #[{ on := 10, ground := Ground.data }, { on := 9, ground := Ground.chain }, { on := 0, ground := Ground.phase }, { on := 1, ground := Ground.phase }, { on := 2, ground := Ground.phase }, { on := 3, ground := Ground.phase }, { on := 4, ground := Ground.phase }, { on := 5, ground := Ground.phase }, { on := 6, ground := Ground.phase }, { on := 7, ground := Ground.phase }, { on := 8, ground := Ground.phase }, { on := 9, ground := Ground.phase }, { on := 10, ground := Ground.phase }], none⟩ : Oper)] _ _
              have hx2 := hw'.undrew
              clear hF hw' c0 c1 c2 hr1 H
              go_wp2_with fail
              go_roundw
              case rel => exact ⟨k + 1, by omega, by go_num, f10, rfl, hf10, hx.trans hx2⟩
              case measure => simp [intOf]; omega
          · obtain rfl : k = C := by omega
            clear c0 c1 c2 hr1
            go_wp2_with fail
            go_roundw
            case rel => exact ⟨i + 1, by omega, by go_num, s, rfl, by rw [Nat.succ_mul]; exact hs, hx⟩
            case measure => simp [intOf]; omega
      · obtain rfl : i = C := by omega
        clear c0 c1 c2 hr1
        go_wp2_with fail
        refine (RootNumber_any s _).mono ?_
        rintro e w6 ⟨l, rfl, hlo, hx6⟩
        rw [hs] at hlo
        go_wp2_with fail
        refine (finite_any l _).mono ?_
        rw [hlo]
        intro e w3 h3
        obtain ⟨he, hx3⟩ := h3.nd
        subst he
        go_wp2_with fail
        go_ret2
        exact ⟨rfl, ((hx0.trans hx).trans hx6).trans hx3⟩

set_option maxRecDepth 20000 in
set_option maxHeartbeats 4000000 in
theorem specOffNorm_any (r c : Int) (A : Option Addr) (n cap : Nat) (xs : List Nat) (w : World) (hr : Rds w A n (flts xs)) :
    Calls Try.prog 82 #[.agg #[.int .i64 r, .int .i64 c, .slice A n cap]] w (RetND w (offD r c xs)) := by
  have HL := Lib.hid hr.flen
  cases hv : isSq r c xs with
  | false =>
    have hd : offD r c xs = (0, false) := by simp [offD, hv]
    rw [hd]
    go_enter Try.func82, Try.ntmps82
    go_upto_region 1 with (fail)
    obtain ⟨w0, hw0⟩ : ∃ w0, w0 = (w.alloc (.cells #[.int .i64 r, .int .i64 c, .slice A n cap] 35)) := ⟨_, rfl⟩
    have hx0 : Ext w w0 := by subst hw0; exact (Ext.refl _).alloc _
    have ba : Blk w0 (w.heap.size) #[.int .i64 r, .int .i64 c, .slice A n cap] 35 := by subst hw0; exact (Blk.new w _ _)
    rw [← hw0]
    clear hw0
    go_wp2_with fail
    refine (l02Square_any _ r c A n cap xs _ (MAt.blk ba (hr.below hx0))).mono ?_
    rintro e w1 ⟨rfl, hx⟩
    rw [hv]
    replace hx0 := hx0.trans hx
    clear  hx
    go_wp2_with fail
    go_ret2
    exact ⟨rfl, hx0⟩
  | true =>
    obtain ⟨hv', rfl⟩ := sq_nat hv
    obtain ⟨R, C, rfl, e1, p1, p2, _, _, p5⟩ := mat_nat hv'
    obtain rfl : C = R := by omega
    have hd : offD C C xs = giveF (rootF (offA xs C (C * C))) := by simp [offD, hv]
    obtain ⟨N, hN⟩ : ∃ N, N = C * C := ⟨_, rfl⟩
    obtain ⟨hw3, hN144⟩ := mul_nat C C p2 p2
    rw [← hN] at hw3 hN144 hd
    have HN := Lib.hid hN
    obtain rfl : n = N := by have := HL.out; omega
    rw [hd]
    clear hd p5 e1 hN
    go_enter Try.func82, Try.ntmps82
    go_upto_region 1 with (fail)
    obtain ⟨w0, hw0⟩ : ∃ w0, w0 = (w.alloc (.cells #[.int .i64 C, .int .i64 C, .slice A n cap] 35)) := ⟨_, rfl⟩
    have hx0 : Ext w w0 := by subst hw0; exact (Ext.refl _).alloc _
    have ba : Blk w0 (w.heap.size) #[.int .i64 C, .int .i64 C, .slice A n cap] 35 := by subst hw0; exact (Blk.new w _ _)
    rw [← hw0]
    clear hw0
    go_wp2_with fail
    refine (l02Square_any _ _ _ A n cap xs _ (MAt.blk ba (hr.below hx0))).mono ?_
    rintro e w1 ⟨rfl, hx⟩
    rw [hv]
    replace ba := ba.ext hx
    replace hx0 := hx0.trans hx
    clear  hx
    go_wp2_with fail
    go_loopw [4, 5] (fun u v wr => ∃ i : Nat, i ≤ n ∧ v = .int .i64 i ∧ ∃ s, u = .float .f32 s ∧ c32 s = offA xs C i ∧ Ext w1 wr) (fun _ v _ => n - (intOf v).toNat)
    case atStart => exact ⟨0, Nat.zero_le _, rfl, 0, rfl, c32_0, Ext.refl _⟩
    case round =>
      obtain ⟨i, hi, rfl, s, rfl, hs, hx⟩ := hrel
      obtain ⟨c0, c1, c2, hr1⟩ := (MAt.blk ba (hr.below hx0)).ext hx
      clear c1
      by_cases hlt : i < n
      · obtain ⟨ad, rfl, hca⟩ := hr1.fltN i hlt
        obtain ⟨p, q, g1, g2, Hp, Hq, d1, d2, d3, d4, d5⟩ := rc_facts HN.out hlt hN144
        by_cases hpq : q = p
        · have hpq' : ((q : Int) != (p : Int)) = false := by simp [hpq]
          have H : offA xs C (i + 1) = offA xs C i := by rw [offA, Hp.out, Hq.out, if_pos hpq]
          have Hpq := Lib.hid hpq
          clear hpq c2 hca
          go_upto_region 7 with (fail)
          refine wp_region_T (cs := []) [0, 1, 2, 3, 4, 5, 6, 7, 8] [] [] [] (fun _ _ => False) (fun _ _ _ => True) (by kernel_rfl) (by kernel_rfl) (fun _ _ _ _ _ _ => trivial) ?_
          refine' wpT_det (o := ⟨some 17, Op.move (Operand.tmp 5), 2, "l04_values.go:205", #[], none⟩) rfl (by rfl) (by rfl) (fun w' hw' => ?_) ?_; rotate_left
          · go_simp <;> first | rfl | exact ⟨rfl, rfl⟩
          simp only [Act.put, List.setIfInBounds_toArray, List.set_cons_zero, List.set_cons_succ]
          refine' wpT_det (o := ⟨some 18, Op.fieldAddr 35 (Operand.tmp 1) 0, 0, "l04_values.go:205", #[], none⟩) rfl (by rfl) (by rfl) (fun w' hw' => ?_) ?_; rotate_left
          · go_simp <;> first | rfl | exact ⟨rfl, rfl⟩
          simp only [Act.put, List.setIfInBounds_toArray, List.set_cons_zero, List.set_cons_succ]
          refine' wpT_det (o := ⟨some 19, Op.load 2 (Operand.tmp 18), 2, "l04_values.go:205", #[{ on := 1, ground := Ground.data }], none⟩) rfl (by rfl) (by rfl) (fun w' hw' => ?_) ?_; rotate_left
          · have c0_ := Ext.cell hw' c0; go_simp <;> first | rfl | exact ⟨rfl, rfl⟩
          simp only [Act.put, List.setIfInBounds_toArray, List.set_cons_zero, List.set_cons_succ]
          refine' wpT_det (o := ⟨some 20, Op.binOp BinOp.rem 2 (Operand.tmp 17) (Operand.tmp 19) 2, 2, "l04_values.go:205", #[{ on := 0, ground := Ground.data }, { on := 2, ground := Ground.data }], none⟩) rfl (by rfl) (by rfl) (fun w' hw' => ?_) ?_; rotate_left
          · go_simp <;> first | rfl | exact ⟨rfl, rfl⟩
          simp only [Act.put, List.setIfInBounds_toArray, List.set_cons_zero, List.set_cons_succ]
          refine' wpT_det (o := ⟨some 21, Op.move (Operand.tmp 5), 2, "l04_values.go:205", #[], none⟩) rfl (by rfl) (by rfl) (fun w' hw' => ?_) ?_; rotate_left
          · go_simp <;> first | rfl | exact ⟨rfl, rfl⟩
          simp only [Act.put, List.setIfInBounds_toArray, List.set_cons_zero, List.set_cons_succ]
          refine' wpT_det (o := ⟨some 22, Op.fieldAddr 35 (Operand.tmp 1) 0, 0, "l04_values.go:205", #[], none⟩) rfl (by rfl) (by rfl) (fun w' hw' => ?_) ?_; rotate_left
          · go_simp <;> first | rfl | exact ⟨rfl, rfl⟩
          simp only [Act.put, List.setIfInBounds_toArray, List.set_cons_zero, List.set_cons_succ]
          refine' wpT_det (o := ⟨some 23, Op.load 2 (Operand.tmp 22), 2, "l04_values.go:205", #[{ on := 5, ground := Ground.data }], none⟩) rfl (by rfl) (by rfl) (fun w' hw' => ?_) ?_; rotate_left
          · have c0_ := Ext.cell hw' c0; go_simp <;> first | rfl | exact ⟨rfl, rfl⟩
          simp only [Act.put, List.setIfInBounds_toArray, List.set_cons_zero, List.set_cons_succ]
          refine' wpT_det (o := ⟨some 24, Op.binOp BinOp.quo 2 (Operand.tmp 21) (Operand.tmp 23) 2, 2, "l04_values.go:205", #[{ on := 4, ground := Ground.data }, { on := 6, ground := Ground.data }], none⟩) rfl (by rfl) (by rfl) (fun w' hw' => ?_) ?_; rotate_left
          · go_simp <;> first | rfl | exact ⟨rfl, rfl⟩
          simp only [Act.put, List.setIfInBounds_toArray, List.set_cons_zero, List.set_cons_succ]
          refine' wpT_det (o := ⟨some 25, Op.binOp BinOp.neq 2 (Operand.tmp 20) (Operand.tmp 24) 2, 4, "l04_values.go:205", #[{ on := 3, ground := Ground.data }, { on := 7, ground := Ground.data }], none⟩) rfl (by rfl) (by rfl) (fun w' hw' => ?_) ?_; rotate_left
          · go_simp <;> first | rfl | exact ⟨rfl, rfl⟩
          simp only [Act.put, List.setIfInBounds_toArray, List.set_cons_zero, List.set_cons_succ]
          refine wpT_nil (fun w5 hw' hF => ?_)
          refine wpList_nil ?_
          have hx2 := hw'.undrew
          clear hF hw' c0 hr1
          go_wp2_with fail
          go_roundw
          case rel => exact ⟨i + 1, by omega, by go_num, s, rfl, by rw [H]; exact hs, hx.trans hx2⟩
          case measure => simp [intOf]; omega
        · have hpq' : ((q : Int) != (p : Int)) = true := by simp; omega
          have H : offA xs C (i + 1) = fadd (offA xs C i) (fmul (c32 (rdf xs i)) (c32 (rdf xs i))) := by rw [offA, Hp.out, Hq.out, if_neg hpq]
          go_upto_region 7 with (fail)
          refine wp_region_T (cs := []) [0, 1, 2, 3, 4, 5, 6, 7, 8] [] [] [] (fun _ _ => False) (fun _ _ _ => True) (by kernel_rfl) (by kernel_rfl) (fun _ _ _ _ _ _ => trivial) ?_
          refine' wpT_det (o := ⟨some 17, Op.move (Operand.tmp 5), 2, "l04_values.go:205", #[], none⟩) rfl (by rfl) (by rfl) (fun w' hw' => ?_) ?_; rotate_left
          · go_simp <;> first | rfl | exact ⟨rfl, rfl⟩
          simp only [Act.put, List.setIfInBounds_toArray, List.set_cons_zero, List.set_cons_succ]
          refine' wpT_det (o := ⟨some 18, Op.fieldAddr 35 (Operand.tmp 1) 0, 0, "l04_values.go:205", #[], none⟩) rfl (by rfl) (by rfl) (fun w' hw' => ?_) ?_; rotate_left
          · go_simp <;> first | rfl | exact ⟨rfl, rfl⟩
          simp only [Act.put, List.setIfInBounds_toArray, List.set_cons_zero, List.set_cons_succ]
          refine' wpT_det (o := ⟨some 19, Op.load 2 (Operand.tmp 18), 2, "l04_values.go:205", #[{ on := 1, ground := Ground.data }], none⟩) rfl (by rfl) (by rfl) (fun w' hw' => ?_) ?_; rotate_left
          · have c0_ := Ext.cell hw' c0; go_simp <;> first | rfl | exact ⟨rfl, rfl⟩
          simp only [Act.put, List.setIfInBounds_toArray, List.set_cons_zero, List.set_cons_succ]
          refine' wpT_det (o := ⟨some 20, Op.binOp BinOp.rem 2 (Operand.tmp 17) (Operand.tmp 19) 2, 2, "l04_values.go:205", #[{ on := 0, ground := Ground.data }, { on := 2, ground := Ground.data }], none⟩) rfl (by rfl) (by rfl) (fun w' hw' => ?_) ?_; rotate_left
          · go_simp <;> first | rfl | exact ⟨rfl, rfl⟩
          simp only [Act.put, List.setIfInBounds_toArray, List.set_cons_zero, List.set_cons_succ]
          refine' wpT_det (o := ⟨some 21, Op.move (Operand.tmp 5), 2, "l04_values.go:205", #[], none⟩) rfl (by rfl) (by rfl) (fun w' hw' => ?_) ?_; rotate_left
          · go_simp <;> first | rfl | exact ⟨rfl, rfl⟩
          simp only [Act.put, List.setIfInBounds_toArray, List.set_cons_zero, List.set_cons_succ]
          refine' wpT_det (o := ⟨some 22, Op.fieldAddr 35 (Operand.tmp 1) 0, 0, "l04_values.go:205", #[], none⟩) rfl (by rfl) (by rfl) (fun w' hw' => ?_) ?_; rotate_left
          · go_simp <;> first | rfl | exact ⟨rfl, rfl⟩
          simp only [Act.put, List.setIfInBounds_toArray, List.set_cons_zero, List.set_cons_succ]
          refine' wpT_det (o := ⟨some 23, Op.load 2 (Operand.tmp 22), 2, "l04_values.go:205", #[{ on := 5, ground := Ground.data }], none⟩) rfl (by rfl) (by rfl) (fun w' hw' => ?_) ?_; rotate_left
          · have c0_ := Ext.cell hw' c0; go_simp <;> first | rfl | exact ⟨rfl, rfl⟩
          simp only [Act.put, List.setIfInBounds_toArray, List.set_cons_zero, List.set_cons_succ]
          refine' wpT_det (o := ⟨some 24, Op.binOp BinOp.quo 2 (Operand.tmp 21) (Operand.tmp 23) 2, 2, "l04_values.go:205", #[{ on := 4, ground := Ground.data }, { on := 6, ground := Ground.data }], none⟩) rfl (by rfl) (by rfl) (fun w' hw' => ?_) ?_; rotate_left
          · go_simp <;> first | rfl | exact ⟨rfl, rfl⟩
          simp only [Act.put, List.setIfInBounds_toArray, List.set_cons_zero, List.set_cons_succ]
          refine' wpT_det (o := ⟨some 25, Op.binOp BinOp.neq 2 (Operand.tmp 20) (Operand.tmp 24) 2, 4, "l04_values.go:205", #[{ on := 3, ground := Ground.data }, { on := 7, ground := Ground.data }], none⟩) rfl (by rfl) (by rfl) (fun w' hw' => ?_) ?_; rotate_left
          · go_simp <;> first | rfl | exact ⟨rfl, rfl⟩
          simp only [Act.put, List.setIfInBounds_toArray, List.set_cons_zero, List.set_cons_succ]
          refine wpT_nil (fun w5 hw' hF => ?_)
          refine wpList_nil ?_
          have hx2 := hw'.undrew
          clear hF hw'
          replace c0 := hx2.cell c0
          replace c2 := hx2.cell c2
          replace hca := hx2.cell hca
          clear c0 d1 d2 d3
          go_wp2_with fail
          refine wp_region_T (cs := []) [0, 1, 2, 3, 4, 5, 6, 7, 8, 9, 10, 11, 12] [13] [11, 12] [] (fun i__ v => match i__ with | 11 => ∃ r, v = .float .f32 r ∧ c32 r = (fmul (c32 (rdf xs i)) (c32 (rdf xs i))) | 12 => ∃ r, v = .float .f32 r ∧ c32 r = (offA xs C (i + 1)) | _ => False) (fun _ _ _ => True) (by kernel_rfl) (by kernel_rfl) (fun _ _ _ _ _ _ => trivial) ?_
          refine' wpT_det (o := ⟨some 26, Op.move (Operand.tmp 4), 39, "l04_values.go:206", #[], none⟩) rfl (by rfl) (by rfl) (fun w' hw' => ?_) ?_; rotate_left
          · go_simp <;> first | rfl | exact ⟨rfl, rfl⟩
          simp only [Act.put, List.setIfInBounds_toArray, List.set_cons_zero, List.set_cons_succ]
          refine' wpT_det (o := ⟨some 27, Op.fieldAddr 35 (Operand.tmp 1) 2, 0, "l04_values.go:206", #[], none⟩) rfl (by rfl) (by rfl) (fun w' hw' => ?_) ?_; rotate_left
          · go_simp <;> first | rfl | exact ⟨rfl, rfl⟩
          simp only [Act.put, List.setIfInBounds_toArray, List.set_cons_zero, List.set_cons_succ]
          refine' wpT_det (o := ⟨some 28, Op.load 22 (Operand.tmp 27), 22, "l04_values.go:206", #[{ on := 1, ground := Ground.data }], none⟩) rfl (by rfl) (by rfl) (fun w' hw' => ?_) ?_; rotate_left
          · have c2_ := Ext.cell hw' c2; have hca_ := Ext.cell hw' hca; go_simp <;> first | rfl | exact ⟨rfl, rfl⟩
          simp only [Act.put, List.setIfInBounds_toArray, List.set_cons_zero, List.set_cons_succ]
          refine' wpT_det (o := ⟨some 29, Op.move (Operand.tmp 5), 2, "l04_values.go:206", #[], none⟩) rfl (by rfl) (by rfl) (fun w' hw' => ?_) ?_; rotate_left
          · go_simp <;> first | rfl | exact ⟨rfl, rfl⟩
          simp only [Act.put, List.setIfInBounds_toArray, List.set_cons_zero, List.set_cons_succ]
          refine' wpT_det (o := ⟨some 30, Op.indexAddr 22 (Operand.tmp 28) (Operand.tmp 29), 0, "l04_values.go:206", #[{ on := 2, ground := Ground.data }, { on := 3, ground := Ground.data }], none⟩) rfl (by rfl) (by rfl) (fun w' hw' => ?_) ?_; rotate_left
          · go_simp <;> first | rfl | exact ⟨rfl, rfl⟩
          simp only [Act.put, List.setIfInBounds_toArray, List.set_cons_zero, List.set_cons_succ]
          refine' wpT_det (o := ⟨some 31, Op.load 39 (Operand.tmp 30), 39, "l04_values.go:206", #[{ on := 4, ground := Ground.data }], none⟩) rfl (by rfl) (by rfl) (fun w' hw' => ?_) ?_; rotate_left
          · have c2_ := Ext.cell hw' c2; have hca_ := Ext.cell hw' hca; go_simp <;> first | rfl | exact ⟨rfl, rfl⟩
          simp only [Act.put, List.setIfInBounds_toArray, List.set_cons_zero, List.set_cons_succ]
          refine' wpT_det (o := ⟨some 32, Op.fieldAddr 35 (Operand.tmp 1) 2, 0, "l04_values.go:206", #[], none⟩) rfl (by rfl) (by rfl) (fun w' hw' => ?_) ?_; rotate_left
          · go_simp <;> first | rfl | exact ⟨rfl, rfl⟩
          simp only [Act.put, List.setIfInBounds_toArray, List.set_cons_zero, List.set_cons_succ]
          refine' wpT_det (o := ⟨some 33, Op.load 22 (Operand.tmp 32), 22, "l04_values.go:206", #[{ on := 6, ground := Ground.data }], none⟩) rfl (by rfl) (by rfl) (fun w' hw' => ?_) ?_; rotate_left
          · have c2_ := Ext.cell hw' c2; have hca_ := Ext.cell hw' hca; go_simp <;> first | rfl | exact ⟨rfl, rfl⟩
          simp only [Act.put, List.setIfInBounds_toArray, List.set_cons_zero, List.set_cons_succ]
          refine' wpT_det (o := ⟨some 34, Op.move (Operand.tmp 5), 2, "l04_values.go:206", #[], none⟩) rfl (by rfl) (by rfl) (fun w' hw' => ?_) ?_; rotate_left
          · go_simp <;> first | rfl | exact ⟨rfl, rfl⟩
          simp only [Act.put, List.setIfInBounds_toArray, List.set_cons_zero, List.set_cons_succ]
          refine' wpT_det (o := ⟨some 35, Op.indexAddr 22 (Operand.tmp 33) (Operand.tmp 34), 0, "l04_values.go:206", #[{ on := 7, ground := Ground.data }, { on := 8, ground := Ground.data }], none⟩) rfl (by rfl) (by rfl) (fun w' hw' => ?_) ?_; rotate_left
          · go_simp <;> first | rfl | exact ⟨rfl, rfl⟩
          simp only [Act.put, List.setIfInBounds_toArray, List.set_cons_zero, List.set_cons_succ]
          refine' wpT_det (o := ⟨some 36, Op.load 39 (Operand.tmp 35), 39, "l04_values.go:206", #[{ on := 9, ground := Ground.data }], none⟩) rfl (by rfl) (by rfl) (fun w' hw' => ?_) ?_; rotate_left
          · have c2_ := Ext.cell hw' c2; have hca_ := Ext.cell hw' hca; go_simp <;> first | rfl | exact ⟨rfl, rfl⟩
          simp only [Act.put, List.setIfInBounds_toArray, List.set_cons_zero, List.set_cons_succ]
          refine wpT_nd (o := ⟨some 37, Op.binOp BinOp.mul 39 (Operand.tmp 31) (Operand.tmp 36) 39, 39, "l04_values.go:206", #[{ on := 5, ground := Ground.data }, { on := 10, ground := Ground.data }], none⟩) rfl (by rfl) (by rfl) (fun w' hw' hF R__ hGo => ?_) (by obtain ⟨r, hr⟩ := ex_d .mul (rfl : fop .mul .f32 (c32 (rdf xs i)) (c32 (rdf xs i)) = (fmul (c32 (rdf xs i)) (c32 (rdf xs i)))); exact ⟨_, r, rfl, hr⟩) ?_
          · exact gives_f .mul (.inr (.inr (.inl rfl))) _ _ _ _ rfl (rdf xs i) (rdf xs i) rfl rfl (fmul (c32 (rdf xs i)) (c32 (rdf xs i))) rfl (fun r w2 hx hc => hGo _ _ hx ⟨r, rfl, hc⟩ trivial)
          rintro _ ⟨f11, rfl, hf11⟩
          simp only [Act.put, List.setIfInBounds_toArray, List.set_cons_zero, List.set_cons_succ]
          refine wpT_nd (o := ⟨some 38, Op.binOp BinOp.add 39 (Operand.tmp 26) (Operand.tmp 37) 39, 39, "l04_values.go:206", #[{ on := 0, ground := Ground.data }, { on := 11, ground := Ground.data }], none⟩) rfl (by rfl) (by rfl) (fun w' hw' hF R__ hGo => ?_) (by obtain ⟨r, hr⟩ := ex_d .add ((by rw [hf11, hs, H]) : fop .add .f32 (c32 (s)) (c32 (f11)) = (offA xs C (i + 1))); exact ⟨_, r, rfl, hr⟩) ?_
          · exact gives_f .add (.inl rfl) _ _ _ _ rfl (s) (f11) rfl rfl (offA xs C (i + 1)) (by rw [hf11, hs, H]) (fun r w2 hx hc => hGo _ _ hx ⟨r, rfl, hc⟩ trivial)
          rintro _ ⟨f12, rfl, hf12⟩
          simp only [Act.put, List.setIfInBounds_toArray, List.set_cons_zero, List.set_cons_succ]
          refine wpT_nil (fun w6 hw' hF => ?_)
          show wpList _ _ _ [(⟨some 4, Op.assign (Operand.tmp 38), 39, "l04_values.go:206", #[{ on := 12, ground := Ground.data }, { on := 0, ground := Ground.phase }, { on := 1, ground := Ground.phase }, { on := 2, ground := Ground.phase }, { on := 3, ground := Ground.phase }, { on := 4, ground := Ground.phase }, { on := 5, ground := Ground.phase }, { on := 6, ground := Ground.phase }, { on := 7, ground := Ground.phase }, { on := 8, ground := Ground.phase }, { on := 9, ground := Ground.phase }, { on := 10, ground := Ground.phase }, { on := 11, ground := Ground.phase }, { on := 12, ground := Ground.phase }], none⟩ : Oper)] _ _
          have hx3 := hw'.undrew
          clear hF hw' c2 hca H hr1
          go_wp2_with fail
          go_roundw
          case rel => exact ⟨i + 1, by omega, by go_num, f12, rfl, hf12, (hx.trans hx2).trans hx3⟩
          case measure => simp [intOf]; omega
      · obtain rfl : i = n := by omega
        clear c2 hr1
        go_wp2_with fail
        refine (l01Sqrt_any s _).mono ?_
        rintro e w6 ⟨l, rfl, hlo, hx6⟩
        rw [hs] at hlo
        go_wp2_with fail
        refine (l02Number_any l _).mono ?_
        rw [hlo]
        intro e w3 h3
        obtain ⟨he, hx3⟩ := h3.nd
        subst he
        go_wp2_with fail
        go_ret2
        exact ⟨rfl, ((hx0.trans hx).trans hx6).trans hx3⟩

end Go.Proofs.Ytgjfdfmbknmpaaa
