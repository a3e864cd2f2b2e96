import Derived.Test.YtgjfdfmbknmpaaaM48
import Derived.Test.YtgjfdfmbknmpaaaM15
import Derived.Test.YtgjfdfmbknmpaaaM21
set_option linter.unusedVariables false
set_option linter.unusedSimpArgs false
namespace Go.Proofs.Ytgjfdfmbknmpaaa
open Go.RowKit

/-- The solution from the last row up, if no number in the middle is zero. -/
def l03D (xs vs : List Nat) (n : Nat) : List Nat × Bool := if (midL xs n n).any is0 then ([], false) else giveL (lst n (UX (coef xs n) (entry vs) n n))
def uppB (r c : Int) (xs vs : List Nat) : Bool := isSq r c xs && isVec vs && decide ((vs.length : Int) = r)
def uppD (r c : Int) (xs vs : List Nat) : List Nat × Bool := if uppB r c xs vs then l03D xs vs r.toNat else ([], false)
theorem upp_bad {r c : Int} {xs vs : List Nat} (h : uppB r c xs vs = false) : uppD r c xs vs = ([], false) := by simp [uppD, h]
theorem upp_good {r c : Int} {xs vs : List Nat} (h : uppB r c xs vs = true) : uppD r c xs vs = l03D xs vs r.toNat := by simp [uppD, h]
theorem l03_bad {xs vs : List Nat} {n i : Nat} (hi : i < n) (h : is0 (at_ xs n i i) = true) : l03D xs vs n = ([], false) := by
  unfold l03D
  rw [if_pos]
  cases hc : (midL xs n n).any is0 with
  | true => rfl
  | false => rw [midL_any.1 hc i hi] at h; cases h
theorem l03_good {xs vs : List Nat} {n : Nat} (h : ∀ i, i < n → is0 (at_ xs n i i) = false) : l03D xs vs n = giveL (lst n (UX (coef xs n) (entry vs) n n)) := by
  unfold l03D
  rw [if_neg]
  rw [midL_any.2 h]
  simp
theorem sq_all {r c : Int} {xs : List Nat} (h : isSq r c xs = true) : ∃ n : Nat, r = n ∧ c = n ∧ 1 ≤ n ∧ n ≤ 12 ∧ xs.length = n * n := by
  obtain ⟨h1, h2⟩ := sq_nat h
  obtain ⟨R, C, e1, e2, u1, u2, u3, u4, u5⟩ := mat_nat h1
  obtain rfl : C = R := by omega
  exact ⟨C, e1, e2, u1, u2, u5⟩

set_option maxRecDepth 20000 in
set_option maxHeartbeats 8000000 in
theorem l03UpperSolve_any (b n N cap cap' : Nat) (A B : Option Addr) (xs vs : List Nat) (w : World) (hn1 : 1 ≤ n) (hn12 : n ≤ 12) (hN : N = n * n) (ha : MAt w b n n A N cap xs) (hq : Rds w B n (flts vs)) :
    Calls Try.prog 156 #[.pointer (some ⟨b, 0, none⟩), .slice B n cap'] w (RetLD w (l03D xs vs n)) := by
  have Hn := Lib.hid hN
  clear hN
  obtain ⟨U, hU⟩ : ∃ U, U = UX (coef xs n) (entry vs) n := ⟨_, rfl⟩
  have HU := Lib.hid hU
  have HL := Lib.hid hq.flen
  have HL' := Lib.hid hq.len
  obtain ⟨d, hd⟩ : ∃ d, d = l03D xs vs n := ⟨_, rfl⟩
  have Hd := Lib.hid hd
  rw [← hd]
  obtain ⟨ad, rfl, _⟩ := hq.fltN 0 (by omega)
  obtain ⟨c0, c1, c2, hr⟩ := ha
  have hcl : Hid (∀ j u, (flts vs)[j]? = some u → w.cell? (ad.add j) = some u) := by
    intro j u hu
    have hj := (List.getElem?_eq_some_iff.1 hu).1
    obtain ⟨ad', he, hc⟩ := hq.at' (by omega)
    obtain rfl := Option.some.inj he
    rw [hc j (by have := HL'.out; omega), hu]
  have g0 : IntKind.i64.wrap ((n : Int) - 1) = (n : Int) - 1 := IntWalk.i64_in _ (by omega)
  have h00 : Hid (cfs vs = lst n (U 0)) := by show _ = _; rw [HU.out, cfs_lst, HL.out]; rfl
  clear hU hd
  go_enter Try.func156, Try.ntmps156
  go_upto_region 1 with (fail)
  go_wp2_with (at_builtin; go_loud (refine wpList_appN rfl _ _ _ rfl (w.alloc (.cells #[] 39)) w.heap.size 39 (.float .f32 0) 4 Try.underlying22 info_f32 rfl (by decide) (.slice (some ⟨w.heap.size, 0, none⟩) 0 0) [] rfl ad n cap' (flts vs) rfl HL'.out (fun j u hu => ((Ext.refl w).alloc _).cell (hcl.out j u hu)) (Own.empty w 39) (flts_oneCell' _) (by simp; omega) (by simp) ?_); rw [List.nil_append, List.length_nil, Nat.zero_add]; intro A1 k1 w1 h5 h6 _)
  have hx1 : Ext w w1 := h6.ext ((Ext.refl w).alloc _) (Own.empty w 39)
  obtain ⟨g, rfl, _⟩ := h5.head (by omega)
  clear h6
  go_loopw [8] (fun v wr => ∃ c : Nat, c ≤ n ∧ v = .int .i64 ((c : Int) - 1) ∧ Hid (∀ i, c ≤ i → i < n → is0 (at_ xs n i i) = false) ∧ ∃ ys, cfs ys = lst n (U (n - c)) ∧ Own wr w.heap.size 39 (.slice (some ⟨g, 0, none⟩) n k1) (flts ys) ∧ Ext w wr) (fun v _ => (intOf v + 1).toNat)
  case atStart => exact ⟨n, Nat.le_refl _, rfl, fun i h1 h2 => absurd h2 (by omega), vs, by rw [Nat.sub_self]; exact h00.out, h5, hx1⟩
  case round =>
    clear hx1 h5 g0
    obtain ⟨c, hc, rfl, HZ, ys, hy, ho, hx0⟩ := hrel
    cases c with
    | zero =>
      have hneg : ¬ ((0 : Nat) : Int) - 1 ≥ 0 := by omega
      have hD : d = giveL (lst n (U n)) := by rw [Hd.out, HU.out]; exact l03_good (fun i hi => HZ.out i (Nat.zero_le _) hi)
      have HD := Lib.hid hD
      clear c0 c1 c2 hD
      go_wp2_with fail
      refine (l02List_any w.heap.size (some ⟨g, 0, none⟩) n k1 ys _ ho hx0.size).mono ?_
      rw [hy, Nat.sub_zero, ← HD.out]
      rintro e w4 ⟨A2, k2, rfl, o4, hx4⟩
      go_wp2_with fail
      go_ret2
      exact ⟨A2, k2, rfl, o4, hx0.trans hx4⟩
    | succ i =>
      have ei : ((i + 1 : Nat) : Int) - 1 = (i : Int) := by omega
      rw [ei]
      clear ei
      have hi : i < n := by omega
      have hge : (i : Int) ≥ 0 := by omega
      have g1 : IntKind.i64.wrap ((i : Int) + 1) = (i : Int) + 1 := IntWalk.i64_in _ (by omega)
      have g2 : IntKind.i64.wrap ((i : Int) - 1) = (i : Int) - 1 := IntWalk.i64_in _ (by omega)
      obtain ⟨z, hz⟩ : ∃ z, z = at_ xs n i i := ⟨_, rfl⟩
      have Hz := Lib.hid hz
      go_wp2_with fail
      refine (l02At_any b n n i i N cap A xs _ hi hi hn12 hn12 Hn.out (MAt.ext ⟨c0, c1, c2, hr⟩ hx0)).mono ?_
      rw [← hz]
      rintro e w2 ⟨rfl, hx2⟩
      clear hz
      cases h0 : (FloatKind.f32.format.order z 0 == some .eq) with
      | true =>
        have hd : d = ([], false) := Hd.out.trans (l03_bad hi (by rw [is0_eq, ← Hz.out]; exact h0))
        clear c0 c1 c2
        go_wp2_with fail
        go_ret2
        exact RetLDb.bad hd (hx0.trans hx2)
      | false =>
        have HZ' : Hid (∀ j, i ≤ j → j < n → is0 (at_ xs n j j) = false) := fun j h1 h2 => by
          by_cases e : j = i
          · subst e; rw [is0_eq, ← Hz.out]; exact h0
          · exact HZ.out j (by omega) h2
        replace hx0 := hx0.trans hx2
        replace ho := ho.ext hx2
        clear hx2
        obtain ⟨adv, had, hcb⟩ := (hq.below hx0).fltN i hi
        obtain rfl := Option.some.inj had
        obtain ⟨s, hs⟩ : ∃ s, s = rdf vs i := ⟨_, rfl⟩
        rw [← hs] at hcb
        have hsb : Hid (c32 s = U (n - (i + 1)) i) := by show _ = _; rw [hs, HU.out, UX_undone _ _ (by omega)]
        clear had hs HZ
        go_wp2_with fail
        go_loopw [9, 10] (fun u v wr => ∃ t : Nat, i + 1 + t ≤ n ∧ v = .int .i64 ((i + 1 + t : Nat) : Int) ∧ ∃ r, u = .float .f32 r ∧ c32 r = lessF (coef xs n i) (U (n - (i + 1))) (c32 s) (i + 1) t ∧ Ext w2 wr) (fun _ v _ => n - (intOf v).toNat)
        case atStart => exact ⟨0, by omega, by go_num, s, rfl, rfl, Ext.refl _⟩
        case round =>
          clear hcb
          obtain ⟨t, ht, rfl, r, rfl, hs', hx⟩ := hrel
          obtain ⟨q, hq'⟩ : ∃ q, q = i + 1 + t := ⟨_, rfl⟩
          rw [← hq'] at ht ⊢
          have HQ := Lib.hid hq'
          have hiq : i < q := by omega
          clear hq'
          have ho2 := ho.ext hx
          have hyl : ys.length = n := ho.reads.flen
          by_cases hlt : q < n
          · obtain ⟨hcell, hfree⟩ := ho2.at_ q hlt
            rw [flts_get (by omega)] at hcell
            have hyq : Hid (c32 (rdf ys q) = U (n - (i + 1)) q) := lst_at hy hlt
            obtain ⟨y, hy'⟩ : ∃ y, y = rdf ys q := ⟨_, rfl⟩
            rw [← hy'] at hcell hyq
            have hqn : (q : Int) < n := by omega
            clear hy' hyl hfree
            go_wp2_with fail
            refine wp_region_T (cs := []) [0, 1, 2, 3, 4, 5, 6, 7, 8, 9, 10] [11] [4, 9, 10] [] (fun i__ v => match i__ with | 4 => v = (.float .f32 (at_ xs n i q)) | 9 => ∃ r, v = .float .f32 r ∧ c32 r = (fmul (c32 (at_ xs n i q)) (c32 y)) | 10 => ∃ r, v = .float .f32 r ∧ c32 r = (lessF (coef xs n i) (U (n - (i + 1))) (c32 s) (i + 1) (t + 1)) | _ => False) (fun _ _ _ => True) (by kernel_rfl) (by kernel_rfl) (fun _ _ _ _ _ _ => trivial) ?_
            refine' wpT_det (o := ⟨some 40, Op.move (Operand.tmp 9), 39, "l03_factors.go:570", #[], none⟩) rfl (by rfl) (by rfl) (fun w' hw' => ?_) ?_; rotate_left
            · go_simp <;> first | rfl | exact ⟨rfl, rfl⟩
            simp only [Act.put, List.setIfInBounds_toArray, List.set_cons_zero, List.set_cons_succ]
            refine' wpT_det (o := ⟨some 41, Op.move (Operand.tmp 0), 85, "l03_factors.go:570", #[], none⟩) rfl (by rfl) (by rfl) (fun w' hw' => ?_) ?_; rotate_left
            · go_simp <;> first | rfl | exact ⟨rfl, rfl⟩
            simp only [Act.put, List.setIfInBounds_toArray, List.set_cons_zero, List.set_cons_succ]
            refine' wpT_det (o := ⟨some 42, Op.move (Operand.tmp 8), 2, "l03_factors.go:570", #[], none⟩) rfl (by rfl) (by rfl) (fun w' hw' => ?_) ?_; rotate_left
            · go_simp <;> first | rfl | exact ⟨rfl, rfl⟩
            simp only [Act.put, List.setIfInBounds_toArray, List.set_cons_zero, List.set_cons_succ]
            refine' wpT_det (o := ⟨some 43, Op.move (Operand.tmp 10), 2, "l03_factors.go:570", #[], none⟩) rfl (by rfl) (by rfl) (fun w' hw' => ?_) ?_; rotate_left
            · go_simp <;> first | rfl | exact ⟨rfl, rfl⟩
            simp only [Act.put, List.setIfInBounds_toArray, List.set_cons_zero, List.set_cons_succ]
            refine wpT_nd (o := ⟨some 44, Op.call { callee := Callee.value (Operand.func 107), args := #[Operand.tmp 41, Operand.tmp 42, Operand.tmp 43], argTypes := #[85, 2, 2] }, 39, "l03_factors.go:570", #[{ on := 1, ground := Ground.data }, { on := 2, ground := Ground.data }, { on := 3, ground := Ground.data }], none⟩) rfl (by rfl) (by rfl) (fun w' hw' hF R__ hGo => ?_) ⟨_, rfl⟩ ?_
            · go_simp
              refine gives_enter rfl ?_
              refine (l02At_any b n n i q N cap A xs _ hi hlt hn12 hn12 Hn.out (MAt.ext ⟨c0, c1, c2, hr⟩ ((hx0.trans hx).trans hw'.undrew))).mono ?_
              rintro e w2 ⟨rfl, hx⟩
              exact ⟨_, rfl, hGo _ _ hx rfl trivial⟩
            intro v hv
            obtain rfl : v = (.float .f32 (at_ xs n i q)) := hv
            simp only [Act.put, List.setIfInBounds_toArray, List.set_cons_zero, List.set_cons_succ]
            refine' wpT_det (o := ⟨some 45, Op.move (Operand.tmp 7), 22, "l03_factors.go:570", #[], none⟩) rfl (by rfl) (by rfl) (fun w' hw' => ?_) ?_; rotate_left
            · go_simp <;> first | rfl | exact ⟨rfl, rfl⟩
            simp only [Act.put, List.setIfInBounds_toArray, List.set_cons_zero, List.set_cons_succ]
            refine' wpT_det (o := ⟨some 46, Op.move (Operand.tmp 10), 2, "l03_factors.go:570", #[], none⟩) rfl (by rfl) (by rfl) (fun w' hw' => ?_) ?_; rotate_left
            · go_simp <;> first | rfl | exact ⟨rfl, rfl⟩
            simp only [Act.put, List.setIfInBounds_toArray, List.set_cons_zero, List.set_cons_succ]
            refine' wpT_det (o := ⟨some 47, Op.indexAddr 22 (Operand.tmp 45) (Operand.tmp 46), 0, "l03_factors.go:570", #[{ on := 5, ground := Ground.data }, { on := 6, ground := Ground.data }], none⟩) rfl (by rfl) (by rfl) (fun w' hw' => ?_) ?_; rotate_left
            · go_simp <;> first | rfl | exact ⟨rfl, rfl⟩
            simp only [Act.put, List.setIfInBounds_toArray, List.set_cons_zero, List.set_cons_succ]
            refine' wpT_det (o := ⟨some 48, Op.load 39 (Operand.tmp 47), 39, "l03_factors.go:570", #[{ on := 7, ground := Ground.data }], none⟩) rfl (by rfl) (by rfl) (fun w' hw' => ?_) ?_; rotate_left
            · have hcell_ := Ext.cell hw' hcell; go_simp <;> first | rfl | exact ⟨rfl, rfl⟩
            simp only [Act.put, List.setIfInBounds_toArray, List.set_cons_zero, List.set_cons_succ]
            refine wpT_nd (o := ⟨some 49, Op.binOp BinOp.mul 39 (Operand.tmp 44) (Operand.tmp 48) 39, 39, "l03_factors.go:570", #[{ on := 4, ground := Ground.data }, { on := 8, ground := Ground.data }], none⟩) rfl (by rfl) (by rfl) (fun w' hw' hF R__ hGo => ?_) (by obtain ⟨r, hr⟩ := ex_d .mul (rfl : fop .mul .f32 (c32 (at_ xs n i q)) (c32 (y)) = (fmul (c32 (at_ xs n i q)) (c32 y))); exact ⟨_, r, rfl, hr⟩) ?_
            · exact gives_f .mul (.inr (.inr (.inl rfl))) _ _ _ _ rfl (at_ xs n i q) (y) rfl rfl (fmul (c32 (at_ xs n i q)) (c32 y)) rfl (fun r w2 hx hc => hGo _ _ hx ⟨r, rfl, hc⟩ trivial)
            rintro _ ⟨f9, rfl, hf9⟩
            simp only [Act.put, List.setIfInBounds_toArray, List.set_cons_zero, List.set_cons_succ]
            refine wpT_nd (o := ⟨some 50, Op.binOp BinOp.sub 39 (Operand.tmp 40) (Operand.tmp 49) 39, 39, "l03_factors.go:570", #[{ on := 0, ground := Ground.data }, { on := 9, ground := Ground.data }], none⟩) rfl (by rfl) (by rfl) (fun w' hw' hF R__ hGo => ?_) (by obtain ⟨r, hr⟩ := ex_d .sub ((by rw [hf9, hs', hyq.out, HQ.out]; rfl) : fop .sub .f32 (c32 (r)) (c32 (f9)) = (lessF (coef xs n i) (U (n - (i + 1))) (c32 s) (i + 1) (t + 1))); exact ⟨_, r, rfl, hr⟩) ?_
            · exact gives_f .sub (.inr (.inl rfl)) _ _ _ _ rfl (r) (f9) rfl rfl (lessF (coef xs n i) (U (n - (i + 1))) (c32 s) (i + 1) (t + 1)) (by rw [hf9, hs', hyq.out, HQ.out]; rfl) (fun r w2 hx hc => hGo _ _ hx ⟨r, rfl, hc⟩ trivial)
            rintro _ ⟨f10, rfl, hf10⟩
            simp only [Act.put, List.setIfInBounds_toArray, List.set_cons_zero, List.set_cons_succ]
            refine wpT_nil (fun w5 hw' hF => ?_)
            show wpList _ _ _ [(⟨some 9, Op.assign (Operand.tmp 50), 39, "l03_factors.go:570", #[{ on := 10, ground := Ground.data }, { on := 4, ground := Ground.chain }, { on := 0, ground := Ground.phase }, { on := 1, ground := Ground.phase }, { on := 2, ground := Ground.phase }, { on := 3, ground := Ground.phase }, { on := 4, ground := Ground.phase }, { on := 5, ground := Ground.phase }, { on := 6, ground := Ground.phase }, { on := 7, ground := Ground.phase }, { on := 8, ground := Ground.phase }, { on := 9, ground := Ground.phase }, { on := 10, ground := Ground.phase }], none⟩ : Oper)] _ _
            have hx5 := hw'.undrew
            clear hcell hF hw' ho2
            go_wp2_with fail
            go_roundw
            case rel => exact ⟨t + 1, by have := HQ.out; omega, by have := HQ.out; go_num, f10, rfl, hf10, hx.trans hx5⟩
            case measure => simp [intOf]; omega
          · have et : t = n - (i + 1) := by have := HQ.out; omega
            have hqn : ¬ (q : Int) < n := by omega
            rw [et] at hs'
            have Hs' := Lib.hid hs'
            clear et hs' hyl
            go_wp2_with fail
            refine (l02At_any b n n i i N cap A xs _ hi hi hn12 hn12 Hn.out (MAt.ext ⟨c0, c1, c2, hr⟩ (hx0.trans hx))).mono ?_
            rw [← Hz.out]
            rintro e w6 ⟨rfl, hx6⟩
            replace ho2 := ho2.ext hx6
            replace hx := (hx0.trans hx).trans hx6
            clear hx6
            have hyl : ys.length = n := ho.reads.flen
            obtain ⟨f, w7, hrr, hx7, hcf⟩ := run_fop (P := Try.prog) w6 .quo (.inr (.inr (.inr rfl))) 39 .f32 r z
            replace ho2 := ho2.ext hx7
            replace hx := hx.trans hx7
            obtain ⟨hcell, hfree⟩ := ho2.at_ i hi
            rw [flts_get (by omega)] at hcell
            have hst := store_f32 Try.prog f hcell hfree
            have hF : Hid (c32 f = fdiv (lessF (coef xs n i) (U (n - (i + 1))) (U (n - (i + 1)) i) (i + 1) (n - (i + 1))) (coef xs n i i)) := by
              show _ = _
              rw [← hsb.out, ← Hs'.out]
              refine hcf.trans ?_
              rw [Hz.out]
            clear hcf hyl hx7
            go_wp2_with (simp only [hrr])
            go_roundw
            case rel =>
              have hstep : U (n - i) = upd1 (U (n - (i + 1))) i (c32 f) := by rw [hF.out, HU.out]; exact UX_step _ _ hi
              obtain ⟨p1, p2, p3⟩ := Own.putF (F' := U (n - i)) hy ho2 i f (by rw [hstep, upd1_same]) (fun j _ hj => by rw [hstep, upd1_other _ hj])
              exact ⟨i, by omega, by go_num, HZ', ys.set i f, p1, p2, p3.ext hx ho2⟩
            case measure => simp [intOf]

end Go.Proofs.Ytgjfdfmbknmpaaa
