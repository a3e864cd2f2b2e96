import Derived.Test.YtgjfdfmbknmpaaaM53
import Derived.Test.YtgjfdfmbknmpaaaM9
set_option linter.unusedVariables false
set_option linter.unusedSimpArgs false
namespace Go.Proofs.Ytgjfdfmbknmpaaa
open Go.RowKit

set_option maxRecDepth 20000 in
set_option maxHeartbeats 16000000 in
theorem specRootSolve_any (r c : Int) (A : Option Addr) (n cap : Nat) (B : Option Addr) (m cap' : Nat) (xs vs : List Nat) (w : World) (hr : Rds w A n (flts xs)) (hq : Rds w B m (flts vs)) :
    Calls Try.prog 88 #[.agg #[.int .i64 r, .int .i64 c, .slice A n cap], .slice B m cap'] w (RetLD w (rtD r c xs vs)) := by
  have HL := Lib.hid hr.flen
  have HL' := Lib.hid hq.flen
  have hsm := hq.small
  cases hv : isSq r c xs with
  | false =>
    have hd := rt_bad (r := r) (c := c) (xs := xs) (vs := vs) (by unfold uppB; rw [hv]; rfl)
    go_enter Try.func88, Try.ntmps88
    go_upto_region 1 with (fail)
    obtain ⟨w0, hw0⟩ : ∃ w0, w0 = (w.alloc (.cells #[.int .i64 r, .int .i64 c, .slice A n cap] 35)) := ⟨_, rfl⟩
    have hx0 : Ext w w0 := by subst hw0; exact (Ext.refl _).alloc _
    have ba : Blk w0 (w.heap.size) #[.int .i64 r, .int .i64 c, .slice A n cap] 35 := by subst hw0; exact (Blk.new w _ _)
    rw [← hw0]
    clear hw0
    go_wp2_with fail
    refine (l02Square_any _ r c A n cap xs _ (MAt.blk ba (hr.below hx0))).mono ?_
    rintro e w1 ⟨rfl, hx⟩
    rw [hv]
    replace hx0 := hx0.trans hx
    clear  hx
    go_wp2_with fail
    go_ret2
    exact RetLDb.bad hd hx0
  | true =>
    obtain ⟨R, rfl, rfl, p1, p2, p5⟩ := sq_all hv
    cases hv' : isVec vs with
    | false =>
      have hd := rt_bad (r := R) (c := R) (xs := xs) (vs := vs) (by unfold uppB; rw [hv, hv']; rfl)
      clear p5
      go_enter Try.func88, Try.ntmps88
      go_upto_region 1 with (fail)
      obtain ⟨w0, hw0⟩ : ∃ w0, w0 = (w.alloc (.cells #[.int .i64 R, .int .i64 R, .slice A n cap] 35)) := ⟨_, rfl⟩
      have hx0 : Ext w w0 := by subst hw0; exact (Ext.refl _).alloc _
      have ba : Blk w0 (w.heap.size) #[.int .i64 R, .int .i64 R, .slice A n cap] 35 := by subst hw0; exact (Blk.new w _ _)
      rw [← hw0]
      clear hw0
      go_wp2_with fail
      refine (l02Square_any _ _ _ A n cap xs _ (MAt.blk ba (hr.below hx0))).mono ?_
      rintro e w1 ⟨rfl, hx⟩
      rw [hv]
      replace hx0 := hx0.trans hx
      clear  hx
      go_wp2_with fail
      refine (l02Vector_any B m cap' vs _ (hq.below hx0)).mono ?_
      rintro e w2 ⟨rfl, hx⟩
      rw [hv']
      replace hx0 := hx0.trans hx
      clear  hx
      go_wp2_with fail
      go_ret2
      exact RetLDb.bad hd hx0
    | true =>
      by_cases hc : m = R
      rotate_left
      · have hc' : ((m : Int) != (R : Int)) = true := by simp; omega
        have hd := rt_bad (r := R) (c := R) (xs := xs) (vs := vs) (by unfold uppB; rw [hv, hv', HL'.out, decide_eq_false (by omega)]; rfl)
        clear p5
        go_enter Try.func88, Try.ntmps88
        go_upto_region 1 with (fail)
        obtain ⟨w0, hw0⟩ : ∃ w0, w0 = (w.alloc (.cells #[.int .i64 R, .int .i64 R, .slice A n cap] 35)) := ⟨_, rfl⟩
        have hx0 : Ext w w0 := by subst hw0; exact (Ext.refl _).alloc _
        have ba : Blk w0 (w.heap.size) #[.int .i64 R, .int .i64 R, .slice A n cap] 35 := by subst hw0; exact (Blk.new w _ _)
        rw [← hw0]
        clear hw0
        go_wp2_with fail
        refine (l02Square_any _ _ _ A n cap xs _ (MAt.blk ba (hr.below hx0))).mono ?_
        rintro e w1 ⟨rfl, hx⟩
        rw [hv]
        replace ba := ba.ext hx
        replace hx0 := hx0.trans hx
        clear  hx
        go_wp2_with fail
        refine (l02Vector_any B m cap' vs _ (hq.below hx0)).mono ?_
        rintro e w2 ⟨rfl, hx⟩
        rw [hv']
        replace ba := ba.ext hx
        replace hx0 := hx0.trans hx
        clear  hx
        obtain ⟨c0, c1, c2, hr1⟩ := MAt.blk ba (hr.below hx0)
        go_wp2_with fail
        go_ret2
        exact RetLDb.bad hd hx0
      have hc' : ((m : Int) != (R : Int)) = false := by simp [hc]
      have hb : uppB R R xs vs = true := by unfold uppB; rw [hv, hv', HL'.out, hc]; simp
      obtain rfl := hc
      have HD := Lib.hid (rt_good hb)
      have Hn : Hid (n = m * m) := by have := HL.out; show n = _; omega
      have Hfin := Lib.hid (mat_fin (sq_nat hv).1)
      obtain ⟨d, hd⟩ : ∃ d, d = rtD m m xs vs := ⟨_, rfl⟩
      have hd2 : d = l04D xs vs m := by rw [hd, HD.out]; rfl
      have HD2 := Lib.hid hd2
      obtain ⟨F, hF0⟩ : ∃ F, F = FX (coef xs m) (entry vs) := ⟨_, rfl⟩
      obtain ⟨U, hU0⟩ : ∃ U, U = UX (flipA (coef xs m)) (F m) m := ⟨_, rfl⟩
      have HF0 := Lib.hid hF0
      have HU0 := Lib.hid hU0
      rw [← hd]
      clear hd hd2 hb p5 hF0 hU0
      go_enter Try.func88, Try.ntmps88
      go_upto_region 1 with (fail)
      obtain ⟨w0, hw0⟩ : ∃ w0, w0 = (w.alloc (.cells #[.int .i64 m, .int .i64 m, .slice A n cap] 35)) := ⟨_, rfl⟩
      have hx0 : Ext w w0 := by subst hw0; exact (Ext.refl _).alloc _
      have ba : Blk w0 (w.heap.size) #[.int .i64 m, .int .i64 m, .slice A n cap] 35 := by subst hw0; exact (Blk.new w _ _)
      rw [← hw0]
      clear hw0
      go_wp2_with fail
      refine (l02Square_any _ _ _ A n cap xs _ (MAt.blk ba (hr.below hx0))).mono ?_
      rintro e w1 ⟨rfl, hx⟩
      rw [hv]
      replace ba := ba.ext hx
      replace hx0 := hx0.trans hx
      clear  hx
      go_wp2_with fail
      refine (l02Vector_any B m cap' vs _ (hq.below hx0)).mono ?_
      rintro e w2 ⟨rfl, hx⟩
      rw [hv']
      replace ba := ba.ext hx
      replace hx0 := hx0.trans hx
      clear  hx
      have c0 := ba.cell 0 rfl
      go_wp2_with fail
      go_loopw [7] (fun v wr => ∃ i : Nat, i ≤ m ∧ v = .int .i64 i ∧ Hid (∀ k, k < i → le0 (at_ xs m k k) = false) ∧ Ext w wr ∧ Blk wr w.heap.size #[.int .i64 m, .int .i64 m, .slice A n cap] 35) (fun v _ => m - (intOf v).toNat)
      case atStart => exact ⟨0, Nat.zero_le _, rfl, fun k hk => absurd hk (Nat.not_lt_zero _), hx0, ba⟩
      case round =>
        clear hx0 ba c0
        rename World => wA
        obtain ⟨i, hi, rfl, HZ, hx0, ba⟩ := hrel
        by_cases hlt : i < m
        · obtain ⟨z, hz⟩ : ∃ z, z = at_ xs m i i := ⟨_, rfl⟩
          have Hz := Lib.hid hz
          go_wp2_with fail
          refine (l02At_any _ m m i i n cap A xs _ hlt hlt p2 p2 Hn.out (MAt.blk ba (hr.below hx0))).mono ?_
          rw [← hz]
          rintro e w3 ⟨rfl, hx⟩
          have hfz : isFin .f32 z = true := by rw [hz]; exact at_fin Hfin.out HL.out hlt hlt p2 p2 Hn.out
          have hle := le0_fin hfz
          replace ba := ba.ext hx
          replace hx0 := hx0.trans hx
          clear hz hx
          cases hg : (FloatKind.f32.format.order z 0 == some .gt) with
          | false =>
            have hd : d = ([], false) := HD2.out.trans (l04_bad hlt (by rw [← Hz.out, hle]; unfold gtz; rw [hg]; rfl))
            clear hle
            go_wp2_with fail
            go_ret2
            exact RetLDb.bad hd hx0
          | true =>
            have HZ' : Hid (∀ k, k < i + 1 → le0 (at_ xs m k k) = false) := fun k hk => by
              by_cases e : k = i
              · subst e; rw [← Hz.out, hle]; unfold gtz; rw [hg]; rfl
              · exact HZ.out k (by omega)
            clear hle
            go_wp2_with fail
            go_roundw
            case rel => exact ⟨i + 1, by omega, by go_num, HZ', hx0, ba⟩
            case measure => simp [intOf]; omega
        · obtain rfl : i = m := by omega
          have HDD := Lib.hid (HD2.out.trans (l04_good HZ.out))
          have hsz := hx0.size
          clear HZ
          go_wp2_with fail
          go_loopw [8, 9] (fun u v wr' => ∃ j : Nat, j ≤ i ∧ v = .int .i64 j ∧ ∃ A' c zs, u = .slice A' j c ∧ Own wr' wA.heap.size 39 (.slice A' j c) (flts zs) ∧ Hid (cfs zs = lst j (F j)) ∧ Ext wA wr') (fun _ v _ => i - (intOf v).toNat)
          case atStart => exact ⟨0, Nat.zero_le _, rfl, some ⟨wA.heap.size, 0, none⟩, 0, [], rfl, Own.empty wA 39, rfl, (Ext.refl _).alloc _⟩
          case round =>
            rename World => wB
            obtain ⟨j, hj, rfl, A', c, zs, rfl, ho, HZs, hx⟩ := hrel
            by_cases hlj : j < i
            · obtain ⟨av, rfl, hcv⟩ := (((hq.below hx0)).below hx).fltN j hlj
              obtain ⟨s, hs⟩ : ∃ s, s = rdf vs j := ⟨_, rfl⟩
              rw [← hs] at hcv
              have hsb : Hid (c32 s = F j j) := by show _ = _; rw [hs, HF0.out, FX_undone _ _ (Nat.le_refl _)]
              clear hs
              go_wp2_with fail
              go_loopw [10, 11] (fun u v w' => ∃ t : Nat, t ≤ j ∧ v = .int .i64 t ∧ ∃ r, u = .float .f32 r ∧ c32 r = lessF (coef xs i j) (F j) (c32 s) 0 t ∧ Ext wA w' ∧ Own w' wA.heap.size 39 (.slice A' j c) (flts zs)) (fun _ v _ => j - (intOf v).toNat)
              case atStart => exact ⟨0, Nat.zero_le _, rfl, s, rfl, rfl, hx, ho⟩
              case round =>
                clear hcv hx ho
                obtain ⟨t, ht, rfl, r, rfl, hs', hx, ho⟩ := hrel
                by_cases hlt2 : t < j
                · have hzl : zs.length = j := ho.reads.flen
                  obtain ⟨gz, rfl, _⟩ := ho.head (by omega)
                  obtain ⟨hcell, _⟩ := ho.at_ t hlt2
                  rw [flts_get (by omega)] at hcell
                  have hyq : Hid (c32 (rdf zs t) = F j t) := lst_at HZs.out hlt2
                  obtain ⟨y, hy'⟩ : ∃ y, y = rdf zs t := ⟨_, rfl⟩
                  rw [← hy'] at hcell hyq
                  clear hy' hzl
                  go_wp2_with fail
                  refine wp_region_T (cs := []) [0, 1, 2, 3, 4, 5, 6, 7, 8, 9] [10] [3, 8, 9] [] (fun i__ v => match i__ with | 3 => v = (.float .f32 (at_ xs i j t)) | 8 => ∃ r, v = .float .f32 r ∧ c32 r = (fmul (c32 (at_ xs i j t)) (c32 y)) | 9 => ∃ r, v = .float .f32 r ∧ c32 r = (lessF (coef xs i j) (F j) (c32 s) 0 (t + 1)) | _ => False) (fun _ _ _ => True) (by kernel_rfl) (by kernel_rfl) (fun _ _ _ _ _ _ => trivial) ?_
                  refine' wpT_det (o := ⟨some 56, Op.move (Operand.tmp 10), 39, "l03_factors.go:423", #[], none⟩) rfl (by rfl) (by rfl) (fun w' hw' => ?_) ?_; rotate_left
                  · go_simp <;> first | rfl | exact ⟨rfl, rfl⟩
                  simp only [Act.put, List.setIfInBounds_toArray, List.set_cons_zero, List.set_cons_succ]
                  refine' wpT_det (o := ⟨some 57, Op.move (Operand.tmp 9), 2, "l03_factors.go:423", #[], none⟩) rfl (by rfl) (by rfl) (fun w' hw' => ?_) ?_; rotate_left
                  · go_simp <;> first | rfl | exact ⟨rfl, rfl⟩
                  simp only [Act.put, List.setIfInBounds_toArray, List.set_cons_zero, List.set_cons_succ]
                  refine' wpT_det (o := ⟨some 58, Op.move (Operand.tmp 11), 2, "l03_factors.go:423", #[], none⟩) rfl (by rfl) (by rfl) (fun w' hw' => ?_) ?_; rotate_left
                  · go_simp <;> first | rfl | exact ⟨rfl, rfl⟩
                  simp only [Act.put, List.setIfInBounds_toArray, List.set_cons_zero, List.set_cons_succ]
                  refine wpT_nd (o := ⟨some 59, Op.call { callee := Callee.value (Operand.func 107), args := #[Operand.tmp 2, Operand.tmp 57, Operand.tmp 58], argTypes := #[85, 2, 2] }, 39, "l03_factors.go:423", #[{ on := 1, ground := Ground.data }, { on := 2, ground := Ground.data }], none⟩) rfl (by rfl) (by rfl) (fun w' hw' hF R__ hGo => ?_) ⟨_, rfl⟩ ?_
                  · go_simp
                    refine gives_enter rfl ?_
                    refine (l02At_any _ i i j t n cap A xs _ hlj (by omega) p2 p2 Hn.out (MAt.blk ((ba.ext hx).ext hw'.undrew) (((hr.below hx0).below hx).below hw'.undrew))).mono ?_
                    rintro e w2 ⟨rfl, hx⟩
                    exact ⟨_, rfl, hGo _ _ hx rfl trivial⟩
                  intro v hv
                  obtain rfl : v = (.float .f32 (at_ xs i j t)) := hv
                  simp only [Act.put, List.setIfInBounds_toArray, List.set_cons_zero, List.set_cons_succ]
                  refine' wpT_det (o := ⟨some 60, Op.move (Operand.tmp 8), 22, "l03_factors.go:423", #[], none⟩) rfl (by rfl) (by rfl) (fun w' hw' => ?_) ?_; rotate_left
                  · go_simp <;> first | rfl | exact ⟨rfl, rfl⟩
                  simp only [Act.put, List.setIfInBounds_toArray, List.set_cons_zero, List.set_cons_succ]
                  refine' wpT_det (o := ⟨some 61, Op.move (Operand.tmp 11), 2, "l03_factors.go:423", #[], none⟩) rfl (by rfl) (by rfl) (fun w' hw' => ?_) ?_; rotate_left
                  · go_simp <;> first | rfl | exact ⟨rfl, rfl⟩
                  simp only [Act.put, List.setIfInBounds_toArray, List.set_cons_zero, List.set_cons_succ]
                  refine' wpT_det (o := ⟨some 62, Op.indexAddr 22 (Operand.tmp 60) (Operand.tmp 61), 0, "l03_factors.go:423", #[{ on := 4, ground := Ground.data }, { on := 5, ground := Ground.data }], none⟩) rfl (by rfl) (by rfl) (fun w' hw' => ?_) ?_; rotate_left
                  · go_simp <;> first | rfl | exact ⟨rfl, rfl⟩
                  simp only [Act.put, List.setIfInBounds_toArray, List.set_cons_zero, List.set_cons_succ]
                  refine' wpT_det (o := ⟨some 63, Op.load 39 (Operand.tmp 62), 39, "l03_factors.go:423", #[{ on := 6, ground := Ground.data }], none⟩) rfl (by rfl) (by rfl) (fun w' hw' => ?_) ?_; rotate_left
                  · have hcell_ := Ext.cell hw' hcell; go_simp <;> first | rfl | exact ⟨rfl, rfl⟩
                  simp only [Act.put, List.setIfInBounds_toArray, List.set_cons_zero, List.set_cons_succ]
                  refine wpT_nd (o := ⟨some 64, Op.binOp BinOp.mul 39 (Operand.tmp 59) (Operand.tmp 63) 39, 39, "l03_factors.go:423", #[{ on := 3, ground := Ground.data }, { on := 7, ground := Ground.data }], none⟩) rfl (by rfl) (by rfl) (fun w' hw' hF R__ hGo => ?_) (by obtain ⟨r, hr⟩ := ex_d .mul (rfl : fop .mul .f32 (c32 (at_ xs i j t)) (c32 (y)) = (fmul (c32 (at_ xs i j t)) (c32 y))); exact ⟨_, r, rfl, hr⟩) ?_
                  · exact gives_f .mul (.inr (.inr (.inl rfl))) _ _ _ _ rfl (at_ xs i j t) (y) rfl rfl (fmul (c32 (at_ xs i j t)) (c32 y)) rfl (fun r w2 hx hc => hGo _ _ hx ⟨r, rfl, hc⟩ trivial)
                  rintro _ ⟨f8, rfl, hf8⟩
                  simp only [Act.put, List.setIfInBounds_toArray, List.set_cons_zero, List.set_cons_succ]
                  refine wpT_nd (o := ⟨some 65, Op.binOp BinOp.sub 39 (Operand.tmp 56) (Operand.tmp 64) 39, 39, "l03_factors.go:423", #[{ on := 0, ground := Ground.data }, { on := 8, ground := Ground.data }], none⟩) rfl (by rfl) (by rfl) (fun w' hw' hF R__ hGo => ?_) (by obtain ⟨r, hr⟩ := ex_d .sub ((by rw [hf8, hs', hyq.out, lessF, Nat.zero_add]) : fop .sub .f32 (c32 (r)) (c32 (f8)) = (lessF (coef xs i j) (F j) (c32 s) 0 (t + 1))); exact ⟨_, r, rfl, hr⟩) ?_
                  · exact gives_f .sub (.inr (.inl rfl)) _ _ _ _ rfl (r) (f8) rfl rfl (lessF (coef xs i j) (F j) (c32 s) 0 (t + 1)) (by rw [hf8, hs', hyq.out, lessF, Nat.zero_add]) (fun r w2 hx hc => hGo _ _ hx ⟨r, rfl, hc⟩ trivial)
                  rintro _ ⟨f9, rfl, hf9⟩
                  simp only [Act.put, List.setIfInBounds_toArray, List.set_cons_zero, List.set_cons_succ]
                  refine wpT_nil (fun w5 hw' hF => ?_)
                  show wpList _ _ _ [(⟨some 10, Op.assign (Operand.tmp 65), 39, "l03_factors.go:423", #[{ on := 9, ground := Ground.data }, { on := 3, ground := Ground.chain }, { on := 0, ground := Ground.phase }, { on := 1, ground := Ground.phase }, { on := 2, ground := Ground.phase }, { on := 3, ground := Ground.phase }, { on := 4, ground := Ground.phase }, { on := 5, ground := Ground.phase }, { on := 6, ground := Ground.phase }, { on := 7, ground := Ground.phase }, { on := 8, ground := Ground.phase }, { on := 9, ground := Ground.phase }], none⟩ : Oper)] _ _
                  have hx5 := hw'.undrew
                  replace ho := ho.ext hx5
                  clear hcell hF hw'
                  go_wp2_with fail
                  go_roundw
                  case rel => exact ⟨t + 1, by omega, by go_num, f9, rfl, hf9, hx.trans hx5, ho⟩
                  case measure => simp [intOf]; omega
                · obtain rfl : t = j := by omega
                  have Hs' := Lib.hid hs'
                  obtain ⟨z, hz⟩ : ∃ z, z = at_ xs i t t := ⟨_, rfl⟩
                  have Hz := Lib.hid hz
                  clear hs'
                  go_wp2_with fail
                  refine (l02At_any _ i i t t n cap A xs _ hlj hlj p2 p2 Hn.out (MAt.blk (ba.ext hx) ((hr.below hx0).below hx))).mono ?_
                  rw [← hz]
                  rintro e w6 ⟨rfl, hx6⟩
                  obtain ⟨f, w7, hrr, hx7, hcf⟩ := run_fop (P := Try.prog) w6 .quo (.inr (.inr (.inr rfl))) 39 .f32 r z
                  have hFF : Hid (c32 f = F (t + 1) t) := by
                    show _ = _
                    rw [HF0.out, FX_at, ← HF0.out, ← hsb.out, ← Hs'.out]
                    refine hcf.trans ?_
                    rw [Hz.out]
                  have hgrow : Hid (lst (t + 1) (F (t + 1)) = lst t (F t) ++ [c32 f]) := by
                    show _ = _
                    rw [lst_succ, hFF.out]
                    exact congrArg (· ++ [F (t + 1) t]) (lst_congr (fun k hk => by rw [HF0.out]; exact FX_other _ _ (by omega)))
                  replace ho := (ho.ext hx6).ext hx7
                  replace hx := (hx.trans hx6).trans hx7
                  clear hcf hx6 hx7 hz
                  have ho' := ho.ext ((Ext.refl w7).alloc (.cells #[.float .f32 (f)] 39))
                  have hsz := hx.size
                  have hl := ho.len
                  go_wp2_with (first | simp only [hrr] | (at_builtin; go_loud (refine wpList_app1 rfl _ _ _ rfl (w7.alloc (.cells #[.float .f32 (f)] 39)) wA.heap.size 39 (.float .f32 0) 4 Try.underlying22 info_f32 rfl (by decide) (.slice A' t c) (flts zs) rfl w7.heap.size (.float .f32 (f)) rfl (One.new _ _ _) ho' rfl (by omega) (by simp; omega) ?_); rw [hl]; intro A' c' w8 h5 h6 h7))
                  go_roundw
                  case rel => exact ⟨t + 1, by omega, by go_num, _, _, zs ++ [f], rfl, by rw [flts_append]; exact h5, by show _ = _; rw [cfs_append, HZs.out, hgrow.out]; rfl, h6.ext (hx.alloc _) ho'⟩
                  case measure => simp [intOf]; omega
            · obtain rfl : j = i := by omega
              obtain ⟨g, rfl, _⟩ := ho.head (by omega)
              have o := ho.base hsz
              have hU : cfs zs = lst j (U 0) := by rw [HZs.out, HU0.out]; rfl
              replace ba := ba.ext hx
              replace hx0 := hx0.trans hx
              have g0 : IntKind.i64.wrap ((j : Int) - 1) = (j : Int) - 1 := IntWalk.i64_in _ (by omega)
              clear ho hx hsz
              go_wp2_with fail
              go_loopw [12] (fun v wr => ∃ k : Nat, k ≤ j ∧ v = .int .i64 ((k : Int) - 1) ∧ ∃ ys, cfs ys = lst j (U (j - k)) ∧ Own wr w.heap.size 39 (.slice (some ⟨g, 0, none⟩) j c) (flts ys) ∧ Ext w wr ∧ Blk wr w.heap.size #[.int .i64 j, .int .i64 j, .slice A n cap] 35) (fun v _ => (intOf v + 1).toNat)
              case atStart => exact ⟨j, Nat.le_refl _, rfl, zs, by rw [Nat.sub_self]; exact hU, o, hx0, ba⟩
              case round =>
                clear o hx0 ba hU g0
                rename World => wC
                obtain ⟨k, hk, rfl, ys, hy, o, hx0, ba⟩ := hrel
                cases k with
                | zero =>
                  have hneg : ¬ ((0 : Nat) : Int) - 1 ≥ 0 := by omega
                  go_wp2_with fail
                  refine (l02List_any w.heap.size (some ⟨g, 0, none⟩) j c ys _ o hx0.size).mono ?_
                  have e : giveL (cfs ys) = d := by rw [hy, Nat.sub_zero, HDD.out, HU0.out, HF0.out]; rfl
                  rw [e]
                  rintro e w4 ⟨A2, k2, rfl, o4, hx⟩
                  go_wp2_with fail
                  go_ret2
                  exact ⟨A2, k2, rfl, o4, hx0.trans hx⟩
                | succ p =>
                  have ei : ((p + 1 : Nat) : Int) - 1 = (p : Int) := by omega
                  rw [ei]
                  clear ei
                  have hp : p < j := by omega
                  have hge : (p : Int) ≥ 0 := by omega
                  have g1 : IntKind.i64.wrap ((p : Int) + 1) = (p : Int) + 1 := IntWalk.i64_in _ (by omega)
                  have g2 : IntKind.i64.wrap ((p : Int) - 1) = (p : Int) - 1 := IntWalk.i64_in _ (by omega)
                  have hyl : ys.length = j := o.reads.flen
                  obtain ⟨hcs, _⟩ := o.at_ p hp
                  rw [flts_get (by omega)] at hcs
                  obtain ⟨s, hs⟩ : ∃ s, s = rdf ys p := ⟨_, rfl⟩
                  rw [← hs] at hcs
                  have hsb : Hid (c32 s = U (j - (p + 1)) p) := by show _ = _; rw [hs, lst_at hy hp]
                  clear hs
                  go_wp2_with fail
                  go_loopw [13, 14] (fun u v w' => ∃ t : Nat, p + 1 + t ≤ j ∧ v = .int .i64 ((p + 1 + t : Nat) : Int) ∧ ∃ r, u = .float .f32 r ∧ c32 r = lessF (flipA (coef xs j) p) (U (j - (p + 1))) (c32 s) (p + 1) t ∧ Ext wC w') (fun _ v _ => j - (intOf v).toNat)
                  case atStart => exact ⟨0, by omega, by go_num, s, rfl, rfl, Ext.refl _⟩
                  case round =>
                    clear hcs
                    obtain ⟨t, ht, rfl, r, rfl, hs', hx⟩ := hrel
                    obtain ⟨q, hq'⟩ : ∃ q, q = p + 1 + t := ⟨_, rfl⟩
                    rw [← hq'] at ht ⊢
                    have HQ := Lib.hid hq'
                    have hpq : p < q := by omega
                    clear hq'
                    have o2 := o.ext hx
                    by_cases hlt3 : q < j
                    · obtain ⟨hcell, _⟩ := o2.at_ q hlt3
                      rw [flts_get (by omega)] at hcell
                      have hyq : Hid (c32 (rdf ys q) = U (j - (p + 1)) q) := lst_at hy hlt3
                      obtain ⟨y, hy'⟩ : ∃ y, y = rdf ys q := ⟨_, rfl⟩
                      rw [← hy'] at hcell hyq
                      have hqn : (q : Int) < j := by omega
                      clear hy' hyl
                      go_wp2_with fail
                      refine wp_region_T (cs := []) [0, 1, 2, 3, 4, 5, 6, 7, 8, 9] [10] [3, 8, 9] [] (fun i__ v => match i__ with | 3 => v = (.float .f32 (at_ xs j q p)) | 8 => ∃ r, v = .float .f32 r ∧ c32 r = (fmul (c32 (at_ xs j q p)) (c32 y)) | 9 => ∃ r, v = .float .f32 r ∧ c32 r = (lessF (flipA (coef xs j) p) (U (j - (p + 1))) (c32 s) (p + 1) (t + 1)) | _ => False) (fun _ _ _ => True) (by kernel_rfl) (by kernel_rfl) (fun _ _ _ _ _ _ => trivial) ?_
                      refine' wpT_det (o := ⟨some 91, Op.move (Operand.tmp 13), 39, "l03_factors.go:430", #[], none⟩) rfl (by rfl) (by rfl) (fun w' hw' => ?_) ?_; rotate_left
                      · go_simp <;> first | rfl | exact ⟨rfl, rfl⟩
                      simp only [Act.put, List.setIfInBounds_toArray, List.set_cons_zero, List.set_cons_succ]
                      refine' wpT_det (o := ⟨some 92, Op.move (Operand.tmp 14), 2, "l03_factors.go:430", #[], none⟩) rfl (by rfl) (by rfl) (fun w' hw' => ?_) ?_; rotate_left
                      · go_simp <;> first | rfl | exact ⟨rfl, rfl⟩
                      simp only [Act.put, List.setIfInBounds_toArray, List.set_cons_zero, List.set_cons_succ]
                      refine' wpT_det (o := ⟨some 93, Op.move (Operand.tmp 12), 2, "l03_factors.go:430", #[], none⟩) rfl (by rfl) (by rfl) (fun w' hw' => ?_) ?_; rotate_left
                      · go_simp <;> first | rfl | exact ⟨rfl, rfl⟩
                      simp only [Act.put, List.setIfInBounds_toArray, List.set_cons_zero, List.set_cons_succ]
                      refine wpT_nd (o := ⟨some 94, Op.call { callee := Callee.value (Operand.func 107), args := #[Operand.tmp 2, Operand.tmp 92, Operand.tmp 93], argTypes := #[85, 2, 2] }, 39, "l03_factors.go:430", #[{ on := 1, ground := Ground.data }, { on := 2, ground := Ground.data }], none⟩) rfl (by rfl) (by rfl) (fun w' hw' hF R__ hGo => ?_) ⟨_, rfl⟩ ?_
                      · go_simp
                        refine gives_enter rfl ?_
                        refine (l02At_any _ j j q p n cap A xs _ hlt3 hp p2 p2 Hn.out (MAt.blk ((ba.ext hx).ext hw'.undrew) (((hr.below hx0).below hx).below hw'.undrew))).mono ?_
                        rintro e w2 ⟨rfl, hx⟩
                        exact ⟨_, rfl, hGo _ _ hx rfl trivial⟩
                      intro v hv
                      obtain rfl : v = (.float .f32 (at_ xs j q p)) := hv
                      simp only [Act.put, List.setIfInBounds_toArray, List.set_cons_zero, List.set_cons_succ]
                      refine' wpT_det (o := ⟨some 95, Op.move (Operand.tmp 8), 22, "l03_factors.go:430", #[], none⟩) rfl (by rfl) (by rfl) (fun w' hw' => ?_) ?_; rotate_left
                      · go_simp <;> first | rfl | exact ⟨rfl, rfl⟩
                      simp only [Act.put, List.setIfInBounds_toArray, List.set_cons_zero, List.set_cons_succ]
                      refine' wpT_det (o := ⟨some 96, Op.move (Operand.tmp 14), 2, "l03_factors.go:430", #[], none⟩) rfl (by rfl) (by rfl) (fun w' hw' => ?_) ?_; rotate_left
                      · go_simp <;> first | rfl | exact ⟨rfl, rfl⟩
                      simp only [Act.put, List.setIfInBounds_toArray, List.set_cons_zero, List.set_cons_succ]
                      refine' wpT_det (o := ⟨some 97, Op.indexAddr 22 (Operand.tmp 95) (Operand.tmp 96), 0, "l03_factors.go:430", #[{ on := 4, ground := Ground.data }, { on := 5, ground := Ground.data }], none⟩) rfl (by rfl) (by rfl) (fun w' hw' => ?_) ?_; rotate_left
                      · go_simp <;> first | rfl | exact ⟨rfl, rfl⟩
                      simp only [Act.put, List.setIfInBounds_toArray, List.set_cons_zero, List.set_cons_succ]
                      refine' wpT_det (o := ⟨some 98, Op.load 39 (Operand.tmp 97), 39, "l03_factors.go:430", #[{ on := 6, ground := Ground.data }], none⟩) rfl (by rfl) (by rfl) (fun w' hw' => ?_) ?_; rotate_left
                      · have hcell_ := Ext.cell hw' hcell; go_simp <;> first | rfl | exact ⟨rfl, rfl⟩
                      simp only [Act.put, List.setIfInBounds_toArray, List.set_cons_zero, List.set_cons_succ]
                      refine wpT_nd (o := ⟨some 99, Op.binOp BinOp.mul 39 (Operand.tmp 94) (Operand.tmp 98) 39, 39, "l03_factors.go:430", #[{ on := 3, ground := Ground.data }, { on := 7, ground := Ground.data }], none⟩) rfl (by rfl) (by rfl) (fun w' hw' hF R__ hGo => ?_) (by obtain ⟨r, hr⟩ := ex_d .mul (rfl : fop .mul .f32 (c32 (at_ xs j q p)) (c32 (y)) = (fmul (c32 (at_ xs j q p)) (c32 y))); exact ⟨_, r, rfl, hr⟩) ?_
                      · exact gives_f .mul (.inr (.inr (.inl rfl))) _ _ _ _ rfl (at_ xs j q p) (y) rfl rfl (fmul (c32 (at_ xs j q p)) (c32 y)) rfl (fun r w2 hx hc => hGo _ _ hx ⟨r, rfl, hc⟩ trivial)
                      rintro _ ⟨f8, rfl, hf8⟩
                      simp only [Act.put, List.setIfInBounds_toArray, List.set_cons_zero, List.set_cons_succ]
                      refine wpT_nd (o := ⟨some 100, Op.binOp BinOp.sub 39 (Operand.tmp 91) (Operand.tmp 99) 39, 39, "l03_factors.go:430", #[{ on := 0, ground := Ground.data }, { on := 8, ground := Ground.data }], none⟩) rfl (by rfl) (by rfl) (fun w' hw' hF R__ hGo => ?_) (by obtain ⟨r, hr⟩ := ex_d .sub ((by rw [hf8, hs', hyq.out, HQ.out]; rfl) : fop .sub .f32 (c32 (r)) (c32 (f8)) = (lessF (flipA (coef xs j) p) (U (j - (p + 1))) (c32 s) (p + 1) (t + 1))); exact ⟨_, r, rfl, hr⟩) ?_
                      · exact gives_f .sub (.inr (.inl rfl)) _ _ _ _ rfl (r) (f8) rfl rfl (lessF (flipA (coef xs j) p) (U (j - (p + 1))) (c32 s) (p + 1) (t + 1)) (by rw [hf8, hs', hyq.out, HQ.out]; rfl) (fun r w2 hx hc => hGo _ _ hx ⟨r, rfl, hc⟩ trivial)
                      rintro _ ⟨f9, rfl, hf9⟩
                      simp only [Act.put, List.setIfInBounds_toArray, List.set_cons_zero, List.set_cons_succ]
                      refine wpT_nil (fun w5 hw' hF => ?_)
                      show wpList _ _ _ [(⟨some 13, Op.assign (Operand.tmp 100), 39, "l03_factors.go:430", #[{ on := 9, ground := Ground.data }, { on := 3, ground := Ground.chain }, { on := 0, ground := Ground.phase }, { on := 1, ground := Ground.phase }, { on := 2, ground := Ground.phase }, { on := 3, ground := Ground.phase }, { on := 4, ground := Ground.phase }, { on := 5, ground := Ground.phase }, { on := 6, ground := Ground.phase }, { on := 7, ground := Ground.phase }, { on := 8, ground := Ground.phase }, { on := 9, ground := Ground.phase }], none⟩ : Oper)] _ _
                      have hx5 := hw'.undrew
                      clear hcell hF hw' o2
                      go_wp2_with fail
                      go_roundw
                      case rel => exact ⟨t + 1, by have := HQ.out; omega, by have := HQ.out; go_num, f9, rfl, hf9, hx.trans hx5⟩
                      case measure => simp [intOf]; omega
                    · have et : t = j - (p + 1) := by have := HQ.out; omega
                      have hqn : ¬ (q : Int) < j := by omega
                      rw [et] at hs'
                      have Hs' := Lib.hid hs'
                      obtain ⟨z, hz⟩ : ∃ z, z = at_ xs j p p := ⟨_, rfl⟩
                      have Hz := Lib.hid hz
                      clear et hs' hyl
                      go_wp2_with fail
                      refine (l02At_any _ j j p p n cap A xs _ hp hp p2 p2 Hn.out (MAt.blk (ba.ext hx) ((hr.below hx0).below hx))).mono ?_
                      rw [← hz]
                      rintro e w6 ⟨rfl, hx6⟩
                      obtain ⟨f, w7, hrr, hx7, hcf⟩ := run_fop (P := Try.prog) w6 .quo (.inr (.inr (.inr rfl))) 39 .f32 r z
                      replace o2 := (o2.ext hx6).ext hx7
                      replace ba := (((ba.ext hx).ext hx6).ext hx7)
                      replace hx0 := ((hx0.trans hx).trans hx6).trans hx7
                      have hyl : ys.length = j := o.reads.flen
                      obtain ⟨hcell, hfree⟩ := o2.at_ p hp
                      rw [flts_get (by omega)] at hcell
                      have hst := store_f32 Try.prog f hcell hfree
                      have hF : Hid (c32 f = fdiv (lessF (flipA (coef xs j) p) (U (j - (p + 1))) (U (j - (p + 1)) p) (p + 1) (j - (p + 1))) (flipA (coef xs j) p p)) := by
                        show _ = _
                        rw [← hsb.out, ← Hs'.out]
                        refine hcf.trans ?_
                        rw [Hz.out]
                        rfl
                      clear hcf hyl hx6 hx7 hx hz
                      go_wp2_with (simp only [hrr])
                      go_roundw
                      case rel =>
                        have hstep : U (j - p) = upd1 (U (j - (p + 1))) p (c32 f) := by rw [hF.out, HU0.out]; exact UX_step _ _ hp
                        obtain ⟨u1, u2, u3⟩ := Own.putF (F' := U (j - p)) hy o2 p f (by rw [hstep, upd1_same]) (fun k _ hk => by rw [hstep, upd1_other _ hk])
                        exact ⟨p, by omega, by go_num, ys.set p f, u1, u2, u3.ext hx0 o2, ba.wr u3 o2 (by decide)⟩
                      case measure => simp [intOf]

end Go.Proofs.Ytgjfdfmbknmpaaa
