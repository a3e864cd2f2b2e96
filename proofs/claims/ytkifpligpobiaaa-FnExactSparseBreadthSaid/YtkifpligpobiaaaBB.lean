
/- slices.SortFunc at integers: the shelf's laying at this program, in plain words (printed by the kit's lay-plain). -/

import Derived.Shelf.SlLaysF

import Derived.Test.YtkifpligpobiaaaProg

import Derived.Shelf.SlicesG.Reverse

import Derived.Shelf.SlSortCmp.Whole1

import Derived.Lib.SlKeysI

import Derived.Test.YtkifpligpobiaaaDD

import Derived.Test.YtkifpligpobiaaaG2

import Derived.Test.YtkifpligpobiaaaHL
set_option linter.unusedVariables false
set_option linter.unusedSimpArgs false

namespace Go.Proofs.Ytkifpligpobiaaa

open Go.Shelf

def sortF_ren : Go.Shelf.Ren := ⟨fun | 6 => 105 | 15 => 139 | 14 => 138 | 28 => 161 | 29 => 162 | 20 => 153 | 21 => 154 | 22 => 155 | 23 => 156 | 24 => 157 | 25 => 158 | 26 => 159 | 27 => 160 | 46 => 172 | 47 => 173 | 48 => 174 | 49 => 175 | 50 => 176 | 57 => 186 | n => n, fun | 22 => 22 | 24 => 2 | 25 => 101 | 3 => 3 | 39 => 138 | 0 => 0 | 53 => 154 | 55 => 86 | 4 => 4 | 46 => 147 | 45 => 146 | 50 => 151 | 5 => 5 | 9 => 9 | 66 => 163 | 70 => 167 | 76 => 174 | 77 => 175 | n => n, fun | n => n⟩
theorem sortF : Go.Proofs.SlLaysF.n6 Try.prog sortF_ren := {
  mixed := by kernel_rfl
  f6 := ⟨Try.f105.name, by decide, Try.func105.trans (congrArg some (by kernel_rfl))⟩
  f14 := ⟨Try.f138.name, by decide, Try.func138.trans (congrArg some (by kernel_rfl))⟩
  f15 := Try.func139.trans (congrArg some (by kernel_rfl))
  f20 := ⟨Try.f153.name, by decide, Try.func153.trans (congrArg some (by kernel_rfl))⟩
  f21 := ⟨Try.f154.name, by decide, Try.func154.trans (congrArg some (by kernel_rfl))⟩
  f22 := ⟨Try.f155.name, by decide, Try.func155.trans (congrArg some (by kernel_rfl))⟩
  f23 := ⟨Try.f156.name, by decide, Try.func156.trans (congrArg some (by kernel_rfl))⟩
  f24 := ⟨Try.f157.name, by decide, Try.func157.trans (congrArg some (by kernel_rfl))⟩
  f25 := ⟨Try.f158.name, by decide, Try.func158.trans (congrArg some (by kernel_rfl))⟩
  f26 := ⟨Try.f159.name, by decide, Try.func159.trans (congrArg some (by kernel_rfl))⟩
  f27 := ⟨Try.f160.name, by decide, Try.func160.trans (congrArg some (by kernel_rfl))⟩
  f28 := Try.func161.trans (congrArg some (by kernel_rfl))
  f29 := Try.func162.trans (congrArg some (by kernel_rfl))
  f46 := ⟨Try.f172.name, by decide, Try.func172.trans (congrArg some (by kernel_rfl))⟩
  f47 := Try.func173.trans (congrArg some (by kernel_rfl))
  f48 := Try.func174.trans (congrArg some (by kernel_rfl))
  f49 := ⟨Try.f175.name, by decide, Try.func175.trans (congrArg some (by kernel_rfl))⟩
  f50 := ⟨Try.f176.name, by decide, Try.func176.trans (congrArg some (by kernel_rfl))⟩
  f57 := ⟨Try.f186.name, by decide, Try.func186.trans (congrArg some (by kernel_rfl))⟩
  t0 := Try.underlying0
  a0 := Try.isAgg0
  z0 := Try.sizeOf0
  v0 := Try.zeroValue0
  t3 := Try.underlying3
  a3 := Try.isAgg3
  z3 := Try.sizeOf3
  v3 := Try.zeroValue3
  t4 := Try.underlying4
  a4 := Try.isAgg4
  z4 := Try.sizeOf4
  v4 := Try.zeroValue4
  t5 := Try.underlying5
  a5 := Try.isAgg5
  z5 := Try.sizeOf5
  v5 := Try.zeroValue5
  t9 := Try.underlying9
  a9 := Try.isAgg9
  z9 := Try.sizeOf9
  v9 := Try.zeroValue9
  t22 := Try.underlying22
  a22 := Try.isAgg22
  z22 := Try.sizeOf22
  v22 := Try.zeroValue22
  a24 := Try.isAgg2
  z24 := Try.sizeOf2
  t25 := Try.underlying101
  a25 := Try.isAgg101
  z25 := Try.sizeOf101
  v25 := Try.zeroValue101
  t39 := Try.underlying138
  a39 := Try.isAgg138
  z39 := Try.sizeOf138
  v39 := Try.zeroValue138
  t45 := Try.underlying146
  a45 := Try.isAgg146
  z45 := Try.sizeOf146
  v45 := Try.zeroValue146
  t46 := Try.underlying147
  a46 := Try.isAgg147
  z46 := Try.sizeOf147
  v46 := Try.zeroValue147
  t50 := Try.underlying151
  a50 := Try.isAgg151
  z50 := Try.sizeOf151
  v50 := Try.zeroValue151
  t53 := Try.underlying154
  a53 := Try.isAgg154
  z53 := Try.sizeOf154
  v53 := Try.zeroValue154
  t55 := Try.underlying86
  a55 := Try.isAgg86
  z55 := Try.sizeOf86
  v55 := Try.zeroValue86
  t66 := Try.underlying163
  a66 := Try.isAgg163
  z66 := Try.sizeOf163
  v66 := Try.zeroValue163
  t70 := Try.underlying167
  a70 := Try.isAgg167
  z70 := Try.sizeOf167
  v70 := Try.zeroValue167
  t76 := Try.underlying174
  a76 := Try.isAgg174
  z76 := Try.sizeOf174
  v76 := Try.zeroValue174
  t77 := Try.underlying175
  a77 := Try.isAgg175
  z77 := Try.sizeOf175
  v77 := Try.zeroValue175 }
end Go.Proofs.Ytkifpligpobiaaa

namespace Go.Proofs.Ytkifpligpobiaaa

open Go.Shelf

def revI_ren : Go.Shelf.Ren := ⟨fun | 35 => 106 | n => n, fun | 22 => 22 | 23 => 2 | 3 => 3 | 4 => 4 | 0 => 0 | n => n, fun | n => n⟩
theorem revI : Go.Proofs.SlLaysN.n35 Try.prog revI_ren := {
  mixed := by kernel_rfl
  f35 := ⟨Try.f106.name, by decide, Try.func106.trans (congrArg some (by kernel_rfl))⟩
  t0 := Try.underlying0
  a0 := Try.isAgg0
  z0 := Try.sizeOf0
  v0 := Try.zeroValue0
  t3 := Try.underlying3
  a3 := Try.isAgg3
  z3 := Try.sizeOf3
  v3 := Try.zeroValue3
  t4 := Try.underlying4
  a4 := Try.isAgg4
  z4 := Try.sizeOf4
  v4 := Try.zeroValue4
  t22 := Try.underlying22
  a22 := Try.isAgg22
  z22 := Try.sizeOf22
  v22 := Try.zeroValue22
  t23 := Try.underlying2
  a23 := Try.isAgg2
  z23 := Try.sizeOf2
  v23 := Try.zeroValue2 }
end Go.Proofs.Ytkifpligpobiaaa

namespace Go.Proofs.Ytkifpligpobiaaa

open Go.RowKit


theorem D.Ext.grown {w w' : World} (h : D.Ext w w') : ∃ q os', w' = Go.Sort.grow (w.drewN q) os' := by
  refine ⟨w'.drawn - w.drawn, w'.heap.extract w.heap.size w'.heap.size, ?_⟩
  have h6 := h.2
  have h7 := h.1.size
  have e : w'.heap = w.heap ++ w'.heap.extract w.heap.size w'.heap.size := by
    apply Array.ext_getElem?
    intro k
    rw [Array.getElem?_append]
    split
    · exact h.1.block k ‹_›
    · rw [Array.getElem?_extract]
      split
      · congr 1; omega
      · rw [Array.getElem?_eq_none (by omega)]
  have e6 : w.drawn + (w'.drawn - w.drawn) = w'.drawn := by omega
  unfold Go.Sort.grow World.drewN
  simp only
  rw [e6, ← e, ← h.1.tape, ← h.1.os, ← h.1.output]

def encF (N : Nat) : Fin N → Value := fun x => .int .i64 (x.val : Int)
theorem fins {N : Nat} : ∀ (l : List Nat), (∀ x ∈ l, x < N) → ∃ L : List (Fin N), L.map Fin.val = l
  | [], _ => ⟨[], rfl⟩
  | x :: l, h => by
    obtain ⟨L, hL⟩ := fins l fun y hy => h y (List.mem_cons_of_mem _ hy)
    exact ⟨⟨x, h x List.mem_cons_self⟩ :: L, by simp [hL]⟩
theorem ints_fin {N : Nat} (L : List (Fin N)) : ints (natI (L.map Fin.val)) = L.map (encF N) := by simp [ints, natI, encF]
theorem natI_fin {N : Nat} (L : List (Fin N)) : natI (L.map Fin.val) = L.map fun x => (x.val : Int) := by simp [natI]

theorem putCells_fin {N : Nat} [Inhabited (Fin N)] (d : Array (Fin N)) : Go.Sort.putCells (encF N) 0 d = Go.Sort.putCells encZ 0 (d.map fun x => (x.val : Int)) := by
  funext c
  unfold Go.Sort.putCells
  simp only [Array.size_map]
  congr 1
  funext k x
  split
  · rename_i h
    rw [getElem!_pos d (k - 0) (by omega), getElem!_pos _ (k - 0) (by simp; omega), Array.getElem_map]
    rfl
  · rfl
theorem sortWorld_fin {N : Nat} [Inhabited (Fin N)] (W : World) (g m : Nat) (d : Array (Fin N)) (os : Array Obj) :
    sortWorld (encF N) W g 0 m d os = Go.Sort.grow (Go.Sort.putRow encZ (Go.Sort.ahead W m) g 0 (d.map fun x => (x.val : Int))) os := by
  unfold sortWorld Go.Sort.putRow
  rw [putCells_fin]

theorem swoD (N : Nat) (deg : Nat → Nat) : Go.Sort.SWO (ltOf fun (x y : Fin N) => cmpD deg x.1 y.1) := by
  constructor
  · intro x
    unfold ltOf
    rw [decide_eq_false_iff_not, cmpD_lt]
    omega
  · intro x y z
    unfold ltOf
    rw [decide_eq_true_eq, decide_eq_true_eq, decide_eq_true_eq, cmpD_lt, cmpD_lt, cmpD_lt]
    omega
  · intro x y z
    unfold ltOf
    rw [decide_eq_false_iff_not, decide_eq_false_iff_not, decide_eq_false_iff_not, cmpD_lt, cmpD_lt, cmpD_lt]
    omega

set_option maxRecDepth 20000 in
set_option maxHeartbeats 2000000 in
theorem sortBy_any (N : Nat) (B : Grf) (hn32 : N ≤ 32) (h0 : 0 < N) (ad : Addr) (gc pb b1 b2 : Nat) (l : List Nat) (hl : ∀ x ∈ l, x < N) (g n c : Nat) (W : World)
    (ho : Own W b1 2 (.slice (some ⟨g, 0, none⟩) n c) (ints (natI l))) (hpb : Blk W pb #[.slice (some ad) N gc] 81) (hg : Own W b2 86 (.slice (some ad) N gc) (u64s (gl N B))) :
    Calls Try.prog 105 #[.slice (some ⟨g, 0, none⟩) n c, .func (.func 98) #[] #[.pointer (some ⟨pb, 0, none⟩)]] W fun e w' =>
      e = .returned (.tuple #[]) ∧ Own w' b1 2 (.slice (some ⟨g, 0, none⟩) n c) (ints (natI (srt (degB N B) l))) ∧ Wr W w' (.slice (some ⟨g, 0, none⟩) n c) := by
  haveI : Inhabited (Fin N) := ⟨⟨0, h0⟩⟩
  obtain ⟨L, hL⟩ := fins l hl
  subst hL
  have hlen : L.length = n := by have := ho.len; rw [ints_fin] at this; simpa using this
  have hgl : g < W.heap.size := ho.lt_size g rfl
  have hw : ∀ (m : Nat) (dk : Array (Fin N)) (os : Array Obj), Wr W (sortWorld (encF N) W g 0 m dk os) (.slice (some ⟨g, 0, none⟩) n c) := by
    intro m dk os
    rw [sortWorld_fin]
    exact grownBy_sorted_i _
  have hsm := ho.small
  rw [ints_fin, List.length_map] at hsm
  have hH : Go.Sort.Holds (encF N) W g 0 L.toArray := by
    intro j hj
    have hj' : j < L.length := by simpa using hj
    obtain ⟨e1, e2⟩ := ho.at_ j (by omega)
    rw [Nat.zero_add]
    refine ⟨?_, e2⟩
    rw [e1, ints_fin, List.getElem?_map, List.getElem?_eq_getElem hj', getElem!_pos _ j hj]
    rfl
  have hcmp : CmpLays1 Try.prog 98 #[.pointer (some ⟨pb, 0, none⟩)] (encF N) (fun (x y : Fin N) => cmpD (degB N B) x.1 y.1) g 0 L.toArray.size W := by
    intro m os dk _ x y
    have hb' := hpb.wr (hw m dk os) ho (by decide)
    have hg' := hg.other (hw m dk os) (hg.apart ho (by decide)).1
    exact (D.breadth1_any N B hn32 ad gc pb x.1 y.1 x.2 y.2 _ (hb'.cell 0 rfl) hg'.reads).mono fun e w' ⟨he, hx⟩ => ⟨he, hx.grown⟩
  have key := Any.slices_SortFunc sortF (encF N) (fun x => rfl) (fun (x y : Fin N) => cmpD (degB N B) x.1 y.1) (swoD N _) 98 #[.pointer (some ⟨pb, 0, none⟩)] g 0 c L.toArray W (enters_of Try.func98 (by kernel_rfl) rfl) hcmp hH hgl (by simp; omega)
  have hsz : L.toArray.size = n := by simpa using hlen
  rw [hsz] at key
  refine Calls.mono key ?_
  rintro e w' ⟨rfl, d', m, os, hp, hs, rfl⟩
  refine ⟨rfl, ?_, hw m d' os⟩
  have hd : d'.size = n := hp.1.trans hsz
  have hperm : (d'.toList.map Fin.val).Perm (L.map Fin.val) := by
    have h := hp.2.2
    have e1 : d'.extract 0 n = d' := by rw [← hd]; simp
    have e2 : L.toArray.extract 0 n = L.toArray := by rw [← hsz]; simp
    rw [e1, e2] at h
    exact h.map _
  have hsort : (d'.toList.map Fin.val).Pairwise fun a b => leD (degB N B) a b = true := by
    rw [List.pairwise_map, List.pairwise_iff_getElem]
    intro i j hi hj hij
    have hi' : i < d'.size := by simpa using hi
    have hj' : j < d'.size := by simpa using hj
    have h := hs i j (Nat.zero_le _) hij (by omega)
    rw [getElem!_pos d' i hi', getElem!_pos d' j hj'] at h
    unfold ltOf at h
    rw [decide_eq_false_iff_not, cmpD_lt] at h
    rw [leD_iff, Array.getElem_toList, Array.getElem_toList]
    omega
  have he := srt_unique hperm hsort
  rw [← he, sortWorld_fin]
  rcases ho.row.2 with ⟨h1, _⟩ | ⟨g', cp, cur, h1, hbase, hgb, r1, r2, r3, r4⟩
  · cases h1
  · simp only [Value.slice.injEq, Option.some.injEq, Addr.mk.injEq, and_true] at h1
    obtain ⟨rfl, hn', rfl⟩ := h1
    have hlt : (natI (d'.toList.map Fin.val)).length = (natI (L.map Fin.val)).length := by rw [natI_length, natI_length]; exact hperm.length_eq
    have hl2 : (ints (natI (L.map Fin.val))).length = (natI (L.map Fin.val)).length := by unfold ints; rw [List.length_map]
    rw [hl2] at r1
    have hrow := ownsRow_sorted_i (w := W) (base := b1) (n := m) (os := os) (ts := natI (d'.toList.map Fin.val)) (ss := natI (L.map Fin.val)) hlt hbase hgb r1 r2 r3
    have eA : (natI (d'.toList.map Fin.val)).toArray = d'.map fun x => (x.val : Int) := Array.ext' (by rw [natI_fin, Array.toList_map])
    have eV : (natI (d'.toList.map Fin.val)).map encZ = ints (natI (d'.toList.map Fin.val)) := rfl
    have eN : (natI (L.map Fin.val)).length = n := by rw [natI_length, List.length_map]; exact hlen
    rw [eA, eV, eN] at hrow
    have eL : (ints (natI (d'.toList.map Fin.val))).length = n := by unfold ints; rw [List.length_map, hlt, eN]
    exact ⟨by rw [eL]; exact hrow, by rw [eL]; omega⟩

end Go.Proofs.Ytkifpligpobiaaa

namespace Go.Proofs.Ytkifpligpobiaaa

open Go.RowKit


/-- What the program keeps while it orders by breadth. -/
structure Bst (W : World) (base N : Nat) (B : Grf) (g gc pg po pm : Nat) (L : List Nat) (n : Nat) (A : Option Addr) (c : Nat) : Prop where
  out : Own W base 2 (.slice A n c) (ints (natI L))
  len : L.length = n
  bo : Blk W po #[.slice A n c] 22
  bm : Blk W pm #[.int .u64 (msk N (fun k => !notIn L k) : Nat)] 86
  bg : Blk W pg #[.slice (some ⟨g, 0, none⟩) N gc] 81
  og : Own W base 86 (.slice (some ⟨g, 0, none⟩) N gc) (u64s (gl N B))
  ne : pm ≠ g
  lo : base ≤ po
  lm : base ≤ pm
theorem Bst.ext {W W' : World} {base N : Nat} {B : Grf} {g gc pg po pm : Nat} {L : List Nat} {n : Nat} {A : Option Addr} {c : Nat} (h : Bst W base N B g gc pg po pm L n A c) (hx : Ext W W') : Bst W' base N B g gc pg po pm L n A c :=
  ⟨h.out.ext hx, h.len, h.bo.ext hx, h.bm.ext hx, h.bg.ext hx, h.og.ext hx, h.ne, h.lo, h.lm⟩
theorem Bst.wr {W W' : World} {base N : Nat} {B : Grf} {g gc pg po pm : Nat} {L : List Nat} {n : Nat} {A : Option Addr} {c : Nat} (h : Bst W base N B g gc pg po pm L n A c) {q n2 c2 b2 : Nat} {vs : List Value} (hl : Own W b2 2 (.slice (some ⟨q, 0, none⟩) n2 c2) vs) (hw : Wr W W' (.slice (some ⟨q, 0, none⟩) n2 c2)) (hne : (Value.slice A n c).ownBlock ≠ some q) : Bst W' base N B g gc pg po pm L n A c :=
  ⟨h.out.other hw (.inr hne), h.len, h.bo.wr hw hl (by decide), h.bm.wr hw hl (by decide), h.bg.wr hw hl (by decide), h.og.other hw (h.og.apart hl (by decide)).1, h.ne, h.lo, h.lm⟩

theorem msk_snoc (N : Nat) (L : List Nat) (x : Nat) : msk N (fun b => !notIn L b || decide (b = x)) = msk N (fun b => !notIn (L ++ [x]) b) := by
  apply msk_congr
  intro b _
  rw [notIn_snoc]
  simp

set_option maxRecDepth 20000 in
set_option maxHeartbeats 4000000 in
theorem breadth2_any (base N : Nat) (B : Grf) (g gc pg po pm x : Nat) (L : List Nat) (n : Nat) (A : Option Addr) (c : Nat) (hn32 : N ≤ 32) (hx : x < N) (hl : n + 1 ≤ 1048576) (w : World) (hb : Bst w base N B g gc pg po pm L n A c) (hbw : base ≤ w.heap.size) :
    Calls Try.prog 102 #[.int .i64 x, .pointer (some ⟨po, 0, none⟩), .pointer (some ⟨pm, 0, none⟩)] w fun e w' => e = .returned (.tuple #[]) ∧ ∃ A' c', Bst w' base N B g gc pg po pm (L ++ [x]) (n + 1) A' c' ∧
      (∀ W0 : World, W0.heap.size ≤ base → Ext W0 w → Ext W0 w') ∧ (∀ q n2 c2 b vs, Own w b 2 (.slice (some ⟨q, 0, none⟩) n2 c2) vs → (Value.slice A n c).ownBlock ≠ some q → Own w' b 2 (.slice (some ⟨q, 0, none⟩) n2 c2) vs ∧ (Value.slice A' (n + 1) c').ownBlock ≠ some q) ∧ w.heap.size ≤ w'.heap.size := by
  obtain ⟨px, hpx, hor⟩ := or_one hn32 hx (fun k => !notIn L k)
  obtain ⟨mo, hmo⟩ : ∃ mo, mo = msk N (fun k => !notIn L k) := ⟨_, rfl⟩
  obtain ⟨mn, hmn⟩ : ∃ mn, mn = msk N (fun b => !notIn L b || decide (b = x)) := ⟨_, rfl⟩
  rw [← hmo, ← hmn] at hor
  have bo := hb.bo
  have bm := hb.bm
  rw [← hmo] at bm
  have HMN := Lib.hid hmn
  clear hmo hmn
  have hpp : pm ≠ po := by rintro rfl; have h := bm.symm.trans bo; simp at h
  have z0 : w.cell? ⟨po, 0, none⟩ = some (.slice A n c) := bo.cell 0 rfl
  have f0 := bo.free 0
  have xg : Ext w (w.alloc (.cells #[.int .i64 x] 2)) := (Ext.refl _).alloc _
  have ho' := hb.out.ext xg
  have hbs : base ≤ (w.alloc (.cells #[.int .i64 x] 2)).heap.size := Nat.le_trans hbw xg.size
  have hln : (ints (natI L)).length = n := by rw [ints_length, natI_length]; exact hb.len
  go_enter Try.func102, Try.ntmps102
  go_upto_region 1 with (at_builtin; go_loud (refine wpList_app1 rfl _ _ _ rfl (w.alloc (.cells #[.int .i64 x] 2)) base 2 (.int .i64 0) 8 Try.underlying22 info_i64 rfl (by decide) (.slice A n c) (ints (natI L)) rfl w.heap.size (.int .i64 x) rfl (One.new _ _ _) ho' rfl (by omega) (by omega) ?_); rw [hln]; intro A' c' w3 h5 h6 h7; have bo3 := (bo.ext xg).wr h6 ho' (by decide); have z3 : w3.cell? ⟨po, 0, none⟩ = some (.slice A n c) := bo3.cell 0 rfl; have f3 := bo3.free 0)
  have bm4 := ((bm.ext xg).wr h6 ho' (by decide)).other hpp 0 (.slice A' (n + 1) c')
  have bg4 := ((hb.bg.ext xg).wr h6 ho' (by decide)).other (b' := po) (by intro e; subst e; have h := hb.bg.symm.trans bo; simp at h) 0 (.slice A' (n + 1) c')
  have bo4 := bo3.set 0 (.slice A' (n + 1) c')
  have og3 := (hb.og.ext xg).other h6 ((hb.og.ext xg).apart ho' (by decide)).1
  have og4 := og3.setBlk bo3 (by decide) 0 (.slice A' (n + 1) c')
  have oo4 := h5.setBlk bo3 (by decide) 0 (.slice A' (n + 1) c')
  have hE4 : ∀ W0 : World, W0.heap.size ≤ base → Ext W0 w → Ext W0 (w3.setCell ⟨po, 0, none⟩ (.slice A' (n + 1) c')) := fun W0 h h' => Ext.set (h6.ext (h'.trans xg) (ho'.base h)) (Nat.le_trans h hb.lo) _
  have hL4 : ∀ q n2 c2 b vs, Own w b 2 (.slice (some ⟨q, 0, none⟩) n2 c2) vs → (Value.slice A n c).ownBlock ≠ some q → Own (w3.setCell ⟨po, 0, none⟩ (.slice A' (n + 1) c')) b 2 (.slice (some ⟨q, 0, none⟩) n2 c2) vs ∧ (Value.slice A' (n + 1) c').ownBlock ≠ some q := by
    intro q n2 c2 b vs ho hne
    refine ⟨((ho.ext xg).other h6 (.inr fun e => hne e.symm)).setBlk bo3 (by decide) 0 _, ?_⟩
    rcases h7 with h7 | h7
    · rw [h7]; exact hne
    · have hq := ho.lt_size q rfl
      rw [h7]
      intro e
      have e' := Option.some.inj e
      have := xg.size
      omega
  have hS4 : w.heap.size ≤ (w3.setCell ⟨po, 0, none⟩ (.slice A' (n + 1) c')).heap.size := by
    have h1 := xg.size
    have h2 := h6.size
    have h3 : (w3.setCell ⟨po, 0, none⟩ (.slice A' (n + 1) c')).heap.size = w3.heap.size := by simp [World.setCell]
    omega
  obtain ⟨w4, hw4⟩ : ∃ v : World, v = w3.setCell ⟨po, 0, none⟩ (.slice A' (n + 1) c') := ⟨_, rfl⟩
  rw [← hw4] at bm4 bg4 bo4 og4 oo4 hE4 hL4 hS4
  rw [← hw4]
  clear hw4 h5 h6 h7 bo3 z3 f3 og3 z0 f0 ho' hbs xg
  have z4 : w4.cell? ⟨pm, 0, none⟩ = some (.int .u64 (mo : Int)) := bm4.cell 0 rfl
  refine wp_region_T (cs := []) [0, 1, 2, 3] [4] [] [] (fun _ _ => False) (fun _ _ _ => True) (by kernel_rfl) (by kernel_rfl) (fun _ _ _ _ _ _ => trivial) ?_
  refine' wpT_det (o := ⟨some 8, Op.load 86 (Operand.tmp 2), 86, "l05_sparse.go:239", #[], none⟩) rfl (by rfl) (by rfl) (fun w' hw' => ?_) ?_; rotate_left
  · have z4_ := Ext.cell hw' z4; go_simp <;> first | rfl | exact ⟨rfl, rfl⟩
  simp only [Act.put, List.setIfInBounds_toArray, List.set_cons_zero, List.set_cons_succ]
  refine' wpT_det (o := ⟨some 9, Op.move (Operand.tmp 0), 2, "l05_sparse.go:239", #[], none⟩) rfl (by rfl) (by rfl) (fun w' hw' => ?_) ?_; rotate_left
  · go_simp <;> first | rfl | exact ⟨rfl, rfl⟩
  simp only [Act.put, List.setIfInBounds_toArray, List.set_cons_zero, List.set_cons_succ]
  refine' wpT_det (o := ⟨some 10, Op.binOp BinOp.shl 86 (Operand.const (Value.int IntKind.u64 1)) (Operand.tmp 9) 2, 86, "l05_sparse.go:239", #[{ on := 1, ground := Ground.data }], none⟩) rfl (by rfl) (by rfl) (fun w' hw' => ?_) ?_; rotate_left
  · go_simp <;> first | rfl | exact ⟨rfl, rfl⟩
  simp only [Act.put, List.setIfInBounds_toArray, List.set_cons_zero, List.set_cons_succ]
  refine' wpT_det (o := ⟨some 11, Op.binOp BinOp.or 86 (Operand.tmp 8) (Operand.tmp 10) 86, 86, "l05_sparse.go:239", #[{ on := 0, ground := Ground.data }, { on := 2, ground := Ground.data }], none⟩) rfl (by rfl) (by rfl) (fun w' hw' => ?_) ?_; rotate_left
  · go_simp <;> first | rfl | exact ⟨rfl, rfl⟩
  simp only [Act.put, List.setIfInBounds_toArray, List.set_cons_zero, List.set_cons_succ]
  refine wpT_nil (fun w5 hw' hF => ?_)
  show wpList _ _ _ [(⟨none, Op.store 86 (Operand.tmp 2) (Operand.tmp 11), 0, "l05_sparse.go:239", #[{ on := 3, ground := Ground.data }, { on := 0, ground := Ground.phase }, { on := 1, ground := Ground.phase }, { on := 2, ground := Ground.phase }, { on := 3, ground := Ground.phase }], none⟩ : Oper)] _ _
  have hx5 := hw'.undrew
  clear hF hw' z4
  have bm5 := bm4.ext hx5
  have z5 : w5.cell? ⟨pm, 0, none⟩ = some (.int .u64 (mo : Int)) := bm5.cell 0 rfl
  have f5 := bm5.free 0
  have hR : Bst (w5.setCell ⟨pm, 0, none⟩ (.int .u64 (mn : Int))) base N B g gc pg po pm (L ++ [x]) (n + 1) A' c' := by
    refine ⟨?_, by rw [List.length_append, hb.len]; rfl, ?_, ?_, ?_, ?_, hb.ne, hb.lo, hb.lm⟩
    · rw [natI_append, ints_append]
      exact (oo4.ext hx5).setBlk bm5 (by decide) 0 _
    · exact (bo4.ext hx5).other (fun e => hpp e.symm) 0 _
    · rw [← msk_snoc, ← HMN.out]
      exact bm5.set 0 _
    · exact (bg4.ext hx5).other (b' := pm) (by intro e; subst e; have h := bg4.symm.trans bm4; simp at h) 0 _
    · exact (og4.ext hx5).same fun k hk => Below.heap_setCell _ _ _ _ (by intro e; have e1 : k = pm := e; have e2 : g = k := Option.some.inj hk; exact hb.ne (by omega))
  have hE5 : ∀ W0 : World, W0.heap.size ≤ base → Ext W0 w → Ext W0 (w5.setCell ⟨pm, 0, none⟩ (.int .u64 (mn : Int))) := fun W0 h h' => Ext.set ((hE4 W0 h h').trans hx5) (Nat.le_trans h hb.lm) _
  have hL5 : ∀ q n2 c2 b vs, Own w b 2 (.slice (some ⟨q, 0, none⟩) n2 c2) vs → (Value.slice A n c).ownBlock ≠ some q → Own (w5.setCell ⟨pm, 0, none⟩ (.int .u64 (mn : Int))) b 2 (.slice (some ⟨q, 0, none⟩) n2 c2) vs ∧ (Value.slice A' (n + 1) c').ownBlock ≠ some q := fun q n2 c2 b vs ho hne => ⟨((hL4 q n2 c2 b vs ho hne).1.ext hx5).setBlk bm5 (by decide) 0 _, (hL4 q n2 c2 b vs ho hne).2⟩
  have hS5 : w.heap.size ≤ (w5.setCell ⟨pm, 0, none⟩ (.int .u64 (mn : Int))).heap.size := by
    have h1 := hx5.size
    have h3 : (w5.setCell ⟨pm, 0, none⟩ (.int .u64 (mn : Int))).heap.size = w5.heap.size := by simp [World.setCell]
    omega
  clear bm4 bg4 bo4 og4 oo4 hE4 hL4 hS4 hx5 bm5
  go_wp2_with fail
  go_end0
  exact ⟨rfl, _, _, hR, hE5, hL5, hS5⟩

end Go.Proofs.Ytkifpligpobiaaa

namespace Go.Proofs.Ytkifpligpobiaaa

open Go.RowKit


theorem rev_any (b1 : Nat) (l : List Nat) (g n c : Nat) (W : World) (ho : Own W b1 2 (.slice (some ⟨g, 0, none⟩) n c) (ints (natI l))) :
    Calls Try.prog 106 #[.slice (some ⟨g, 0, none⟩) n c] W fun e w' =>
      e = .returned (.tuple #[]) ∧ Own w' b1 2 (.slice (some ⟨g, 0, none⟩) n c) (ints (natI l.reverse)) ∧ Wr W w' (.slice (some ⟨g, 0, none⟩) n c) := by
  have hlen : (natI l).length = n := by have := ho.len; rw [ints_length] at this; exact this
  have hsm := ho.small
  rw [ints_length] at hsm
  rcases ho.row.2 with ⟨h1, _⟩ | ⟨g', cp, cur, h1, hbase, hgb, r1, r2, r3, r4⟩
  · cases h1
  · simp only [Value.slice.injEq, Option.some.injEq, Addr.mk.injEq, and_true] at h1
    obtain ⟨rfl, hn', rfl⟩ := h1
    rw [ints_length] at r1 r4
    have hH : Go.Sort.Holds encZ W g 0 (natI l).toArray := holds_of_block_i hgb (by simpa [ints, encZ] using r4)
    have key := AnyG.slices_Reverse_int revI g 0 c (natI l) W hH (by omega)
    rw [hlen] at key
    refine Calls.mono key ?_
    rintro e w' ⟨rfl, m, rfl⟩
    have eR : (natI l).reverse = natI l.reverse := by simp [natI]
    rw [eR]
    have hlr : (natI l.reverse).length = (natI l).length := by rw [natI_length, natI_length, List.length_reverse]
    have hrow := ownsRow_sorted_i (w := W) (base := b1) (n := m) (os := #[]) (ts := natI l.reverse) (ss := natI l) hlr hbase hgb r1 r2 r3
    rw [Go.Sort.grow_empty, hlen] at hrow
    have eL : (ints (natI l.reverse)).length = n := by rw [ints_length, hlr, hlen]
    have hgr := grownBy_sorted_i (w := W) (g := g) (n := m) (os := #[]) (natI l.reverse).toArray
    rw [Go.Sort.grow_empty] at hgr
    exact ⟨rfl, ⟨by rw [eL]; exact hrow, by rw [eL]; omega⟩, hgr⟩

theorem list_own (N : Nat) (f : Nat → Bool) (hn : N ≤ 32) (nl : Nat) (hl : (lsB N f).length = nl) (w : World) : Calls Try.prog 104 #[.int .u64 (msk N f : Nat)] w fun e w' => ∃ q k, e = .returned (.slice (some ⟨q, 0, none⟩) nl k) ∧ Own w' w.heap.size 2 (.slice (some ⟨q, 0, none⟩) nl k) (ints (natI (lsB N f))) ∧ Ext w w' := by
  refine Calls.mono (D.list_msk N f hn w) ?_
  rintro e w' ⟨q, k, rfl, ho, hx⟩
  rw [natI_length, hl] at ho ⊢
  exact ⟨q, k, rfl, ho, hx.1⟩

def breL (n : Nat) (B : Grf) : List Nat := (bsL n B).reverse
theorem breL_len (n : Nat) (B : Grf) : (breL n B).length = n := by unfold breL; rw [List.length_reverse, bsL_len]
/-- What SparseBreadth answers. -/
noncomputable def breD (sd : Int) (st co : List Int) (va : List Nat) : List Int × Bool := if isSp sd st co va then (natI (breL sd.toNat (nbM (vw st co va co.length))), true) else ([], false)

theorem bs_more_lt {n : Nat} {B : Grf} {s : BS} (h : s.at_ < s.L.length) : s.more n B = s.L := if_neg (by omega)
theorem bs_more_eq {n : Nat} {B : Grf} {s : BS} (h : s.at_ = s.L.length) : s.more n B = s.L ++ [(lowB (degB n B) (lsB n (notIn s.L))).getD 0] := if_pos h
theorem bs_low {n : Nat} {B : Grf} {s : BS} (h : BsOk n s) (hlt : s.L.length < n) : ∃ r, lowB (degB n B) (lsB n (notIn s.L)) = some r ∧ r < n ∧ notIn s.L r = true := by
  have hl := notIn_len h.nd h.lt
  obtain ⟨r, hr, hm⟩ := lowB_some (deg := degB n B) (lsB_sorted n (notIn s.L)) (by intro e'; rw [e'] at hl; simp at hl; omega)
  exact ⟨r, hr, lsB_mem.1 hm⟩
theorem bs_step (n : Nat) (B : Grf) (t : Nat) : (bsSt n B (t + 1)).L = (bsSt n B t).more n B ++ srt (degB n B) (nxt n B ((bsSt n B t).more n B) (((bsSt n B t).more n B).getD t 0)) := by
  show (bsSt n B t).more n B ++ srt (degB n B) (nxt n B ((bsSt n B t).more n B) (((bsSt n B t).more n B).getD (bsSt n B t).at_ 0)) = _
  rw [bsSt_at]
theorem left_mask {n : Nat} (hn : n ≤ 32) (L : List Nat) (f : Nat → Bool) : bits .andNot .u64 (msk n f : Int) (msk n (fun k => !notIn L k) : Int) = (msk n (fun k => f k && notIn L k) : Int) := by
  rw [u64_not hn]
  congr 2
  funext k
  simp

theorem own_ge {w : World} {base q n c : Nat} {e : TypeId} {vs : List Value} (h : Own w base e (.slice (some ⟨q, 0, none⟩) n c) vs) : base ≤ q := by
  rcases h.row.2 with ⟨h1, _⟩ | ⟨g', cp, cur, h1, hbase, _⟩
  · cases h1
  · simp only [Value.slice.injEq, Option.some.injEq, Addr.mk.injEq, and_true] at h1
    omega
theorem bs_len_le (n : Nat) (B : Grf) (t : Nat) (h : t ≤ n) : t ≤ (bsSt n B t).L.length ∧ (bsSt n B t).L.length ≤ n := by
  have h1 := bsSt_ok n B t h
  have h2 := h1.le
  rw [bsSt_at] at h2
  exact ⟨h2, h1.len⟩
/-- What the inner loop keeps: from is q, the list is Lc, l long; it began at t. -/
def InB (n : Nat) (B : Grf) (t q l : Nat) (Lc : List Nat) : Prop := (q < l → Lc = (bsSt n B q).more n B ∧ q < n) ∧ (¬ q < l → q = l ∧ Lc = (bsSt n B q).L ∧ t < q)
theorem inB_start {n : Nat} {B : Grf} {t x : Nat} (ht : t < n) (hl : (bsSt n B t).L.length = t) (hx : lowB (degB n B) (lsB n (notIn (bsSt n B t).L)) = some x) : InB n B t t (t + 1) ((bsSt n B t).L ++ [x]) := by
  refine ⟨fun _ => ⟨?_, ht⟩, fun h => absurd (Nat.lt_succ_self t) h⟩
  rw [bs_more_eq (by rw [bsSt_at]; exact hl.symm), hx]
  rfl
theorem inB_step {n : Nat} {B : Grf} {t q l : Nat} {Lc : List Nat} (h : InB n B t q l Lc) (htq : t ≤ q) (hq : q < l) (hl : Lc.length = l) {nl : Nat} (hnl : (srt (degB n B) (nxt n B Lc (Lc.getD q 0))).length = nl) : InB n B t (q + 1) (l + nl) (Lc ++ srt (degB n B) (nxt n B Lc (Lc.getD q 0))) := by
  obtain ⟨e, hqn⟩ := h.1 hq
  have es : Lc ++ srt (degB n B) (nxt n B Lc (Lc.getD q 0)) = (bsSt n B (q + 1)).L := by rw [bs_step, ← e]
  have el : (bsSt n B (q + 1)).L.length = l + nl := by rw [← es, List.length_append, hl, hnl]
  have hb := bs_len_le n B (q + 1) (by omega)
  rw [el] at hb
  rw [es]
  refine ⟨fun h1 => ⟨(bs_more_lt (by rw [bsSt_at, el]; exact h1)).symm, by omega⟩, fun h1 => ⟨by omega, rfl, by omega⟩⟩
theorem inB_row {n : Nat} {B : Grf} {t q l : Nat} {Lc : List Nat} (h : InB n B t q l Lc) (hq : q < l) (hl : Lc.length = l) : Lc.getD q 0 < n ∧ q < n ∧ l ≤ n := by
  obtain ⟨e, hqn⟩ := h.1 hq
  obtain ⟨h1, h2, h3⟩ := (bsSt_ok n B q (by omega)).more (B := B) (by rw [bsSt_at]; exact hqn)
  rw [← e] at h1 h2
  refine ⟨h2 _ (by rw [List.getD_eq_getElem?_getD, List.getElem?_eq_getElem (by omega)]; exact List.getElem_mem _), hqn, ?_⟩
  have := notIn_len h1 h2
  omega
theorem ints_nat_get {l : List Nat} {p : Nat} (h : p < l.length) : (ints (natI l))[p]? = some (.int .i64 ((l.getD p 0 : Nat) : Int)) := by simp [ints, natI, h]
theorem takeS_next {S : List Nat} {p : Nat} (h : p < S.length) : S.take (p + 1) = S.take p ++ [S.getD p 0] := by
  rw [List.take_add_one, List.getD_eq_getElem?_getD, List.getElem?_eq_getElem h]
  rfl

end Go.Proofs.Ytkifpligpobiaaa

namespace Go.Proofs.Ytkifpligpobiaaa

open Go.RowKit


set_option maxRecDepth 20000 in
set_option maxHeartbeats 8000000 in
theorem implSparseBreadth_any (sd : Int) (A : Option Addr) (n ca : Nat) (B : Option Addr) (m cb : Nat) (V : Option Addr) (p cv : Nat) (st co : List Int) (va : List Nat) (w : World) (hr : Rds w A n (ints st)) (hq : Rds w B m (ints co)) (hv : Rds w V p (flts va)) :
    Calls Try.prog 35 #[.agg #[.int .i64 sd, .slice A n ca, .slice B m cb, .slice V p cv]] w (RetLB w (breD sd st co va)) := by
  have HM := Lib.hid hq.ilen
  cases hs : isSp sd st co va with
  | false =>
    have hd : breD sd st co va = ([], false) := by unfold breD; rw [hs]; rfl
    rw [hd]
    clear hd
    go_enter Try.func35, Try.ntmps35
    go_upto_region 1 with (fail)
    obtain ⟨w0, hw0⟩ : ∃ w0, w0 = (w.alloc (.cells #[.int .i64 sd, .slice A n ca, .slice B m cb, .slice V p cv] 27)) := ⟨_, rfl⟩
    have hx0 : Ext w w0 := by subst hw0; exact (Ext.refl _).alloc _
    have ba : Blk w0 (w.heap.size) #[.int .i64 sd, .slice A n ca, .slice B m cb, .slice V p cv] 27 := by subst hw0; exact (Blk.new w _ _)
    rw [← hw0]
    clear hw0
    have c0 := ba.cell 0 rfl
    have c1 := ba.cell 1 rfl
    have c2 := ba.cell 2 rfl
    have c3 := ba.cell 3 rfl
    go_wp2_with fail
    refine (implValidSparse_any sd A n ca B m cb V p cv st co va _ (hr.below hx0) (hq.below hx0) (hv.below hx0)).mono ?_
    rintro e w1 ⟨rfl, hx⟩
    rw [hs]
    replace ba := ba.ext hx
    replace hx0 := hx0.trans hx
    clear hx c0 c1 c2 c3
    go_wp2_with fail
    refine bodyPost_ret (v := .tuple #[.slice none 0 0, .bool false]) (by simp only [results, Try.results35]; simp [go_sem]) rfl ⟨none, 0, rfl, Own.nil _ _ _, hx0⟩
  | true =>
    have hsp := isSp_iff.1 hs
    obtain ⟨N, rfl⟩ : ∃ N : Nat, sd = N := ⟨sd.toNat, by have := hsp.s1; omega⟩
    have hn1 : 1 ≤ N := by have := hsp.s1; omega
    have hn32 : N ≤ 32 := by have := hsp.s1; omega
    have hd : breD N st co va = (natI (breL N (nbM (vw st co va m))), true) := by unfold breD; rw [hs, HM.out]; rfl
    rw [hd]
    clear hd
    obtain ⟨G, hG⟩ : ∃ G, G = nbM (vw st co va m) := ⟨_, rfl⟩
    rw [← hG]
    have HG := Lib.hid hG
    have HSP := Lib.hid hsp
    clear hG hsp
    go_enter Try.func35, Try.ntmps35
    go_upto_region 1 with (fail)
    obtain ⟨w0, hw0⟩ : ∃ w0, w0 = (w.alloc (.cells #[.int .i64 N, .slice A n ca, .slice B m cb, .slice V p cv] 27)) := ⟨_, rfl⟩
    have hx0 : Ext w w0 := by subst hw0; exact (Ext.refl _).alloc _
    have ba : Blk w0 (w.heap.size) #[.int .i64 N, .slice A n ca, .slice B m cb, .slice V p cv] 27 := by subst hw0; exact (Blk.new w _ _)
    rw [← hw0]
    clear hw0
    have c0 := ba.cell 0 rfl
    have c1 := ba.cell 1 rfl
    have c2 := ba.cell 2 rfl
    have c3 := ba.cell 3 rfl
    go_wp2_with fail
    refine (implValidSparse_any N A n ca B m cb V p cv st co va _ (hr.below hx0) (hq.below hx0) (hv.below hx0)).mono ?_
    rintro e w1 ⟨rfl, hx⟩
    rw [hs]
    replace ba := ba.ext hx
    replace hx0 := hx0.trans hx
    clear hx c0 c1 c2 c3
    have ba1 := ba
    have c0 := ba.cell 0 rfl
    have c1 := ba.cell 1 rfl
    have c2 := ba.cell 2 rfl
    have c3 := ba.cell 3 rfl
    go_wp2_with fail
    refine (neighbours_any N A n ca B m cb V p cv st co va HSP.out _ (hr.below hx0) (hq.below hx0) (hv.below hx0)).mono ?_
    rw [← HG.out]
    rintro e w2 ⟨GA, gc, rfl, og, hx⟩
    obtain ⟨g, rfl, hgb⟩ := og.head (by omega)
    have hg2 := og.lt_size g rfl
    replace ba := ba.ext hx
    have hx1 := hx
    clear hx c0 c1 c2 c3
    have c0 := ba.cell 0 rfl
    have lba := ba.lt
    have hsh := shl64' hn1 hn32
    have hsh2 := all_sub N hn32
    obtain ⟨al, hal⟩ : ∃ al, al = msk N (fun _ => true) := ⟨_, rfl⟩
    rw [← hal] at hsh2
    have HAL := Lib.hid hal
    clear hal
    go_wp2_with fail
    obtain ⟨w3, hw3⟩ : ∃ v : World, v = ((((w2.alloc (.cells #[] 2)).alloc (.cells #[.slice (some ⟨g, 0, none⟩) N gc] 81)).alloc (.cells #[.slice (some ⟨w2.heap.size, 0, none⟩) 0 0] 22)).alloc (.cells #[.int .u64 0] 86)) := ⟨_, rfl⟩
    rw [← hw3]
    have hx3 : Ext w2 w3 := by subst hw3; exact ((((Ext.refl _).alloc _).alloc _).alloc _).alloc _
    have hB : Bst w3 w1.heap.size N G g gc (w2.heap.size + 1) (w2.heap.size + 1 + 1) (w2.heap.size + 1 + 1 + 1) [] 0 (some ⟨w2.heap.size, 0, none⟩) 0 := by
      have hs := hx1.size
      refine ⟨?_, rfl, ?_, ?_, ?_, og.ext hx3, by omega, by omega, by omega⟩
      · subst hw3
        exact ((Own.empty w2 2).base hs).ext ((((Ext.refl _).alloc _).alloc _).alloc _)
      · subst hw3
        have h := (Blk.new ((w2.alloc (.cells #[] 2)).alloc (.cells #[.slice (some ⟨g, 0, none⟩) N gc] 81)) #[.slice (some ⟨w2.heap.size, 0, none⟩) 0 0] 22).ext ((Ext.refl _).alloc (.cells #[.int .u64 0] 86))
        simpa using h
      · subst hw3
        have h := Blk.new (((w2.alloc (.cells #[] 2)).alloc (.cells #[.slice (some ⟨g, 0, none⟩) N gc] 81)).alloc (.cells #[.slice (some ⟨w2.heap.size, 0, none⟩) 0 0] 22)) #[.int .u64 0] 86
        have e : (msk N fun k => !notIn [] k) = 0 := msk_nil' (by rw [List.eq_nil_iff_forall_not_mem]; intro x hx; have := (lsB_mem.1 hx).2; simp [notIn] at this)
        rw [e]
        simpa using h
      · subst hw3
        have h := (Blk.new (w2.alloc (.cells #[] 2)) #[.slice (some ⟨g, 0, none⟩) N gc] 81).ext (((Ext.refl _).alloc (.cells #[.slice (some ⟨w2.heap.size, 0, none⟩) 0 0] 22)).alloc (.cells #[.int .u64 0] 86))
        simpa using h
    obtain ⟨pm, hpm⟩ : ∃ pm, pm = w2.heap.size + 1 + 1 + 1 := ⟨_, rfl⟩
    obtain ⟨po, hpo⟩ : ∃ po, po = w2.heap.size + 1 + 1 := ⟨_, rfl⟩
    obtain ⟨pg, hpg⟩ : ∃ pg, pg = w2.heap.size + 1 := ⟨_, rfl⟩
    rw [← hpm, ← hpo, ← hpg] at hB
    rw [← hpm, ← hpo, ← hpg]
    have hx := hx1.trans hx3
    replace ba := ba.ext hx3
    clear hw3 hpm hpo hpg og hg2 hx1 hx3 c0 lba hgb
    have hB0 : Bst w3 w1.heap.size N G g gc pg po pm (bsSt N G 0).L 0 (some ⟨w2.heap.size, 0, none⟩) 0 := hB
    have hxb := hx0
    have bb : Blk w1 w.heap.size #[.int .i64 N, .slice A n ca, .slice B m cb, .slice V p cv] 27 := ba1
    clear ba ba1
    go_loopg [] N (fun k wr => ∃ (t : Nat) (A : Option Addr) (c : Nat), t + k = N ∧ Hid ((bsSt N G t).L.length = t) ∧ Bst wr w1.heap.size N G g gc pg po pm (bsSt N G t).L t A c ∧ Ext w1 wr)
    case atStart => exact ⟨0, _, _, by omega, (show (bsSt N G 0).L.length = 0 from rfl), hB0, hx⟩
    case round =>
      rename World => wA
      clear hB0 hB hx
      obtain ⟨t, A1, c1, hk, hlt', bst, hx⟩ := hrel
      have htN : t ≤ N := by omega
      have zo : wA.cell? ⟨po, 0, none⟩ = some (.slice A1 t c1) := bst.bo.cell 0 rfl
      have c0 : wA.cell? ⟨w.heap.size, 0, none⟩ = some (.int .i64 N) := (bb.ext hx).cell 0 rfl
      by_cases hlt : t < N
      · have htI : (t : Int) < N := by omega
        go_upto_region 6 with (fail)
        refine wp_region_T (cs := []) [0, 1, 2, 3, 4] [] [1] [] (fun i__ v => match i__ with | 1 => v = (.int .i64 (t : Int)) | _ => False) (fun _ _ _ => True) (by kernel_rfl) (by kernel_rfl) (fun _ _ _ _ _ _ => trivial) ?_
        refine' wpT_det (o := ⟨some 21, Op.load 22 (Operand.tmp 5), 22, "l05_sparse.go:241", #[], none⟩) rfl (by rfl) (by rfl) (fun w' hw' => ?_) ?_; rotate_left
        · have zo_ := Ext.cell hw' zo; have c0_ := Ext.cell hw' c0; go_simp <;> first | rfl | exact ⟨rfl, rfl⟩
        simp only [Act.put, List.setIfInBounds_toArray, List.set_cons_zero, List.set_cons_succ]
        refine wpT_nd (o := ⟨some 22, Op.call { callee := Callee.value (Operand.func 87), args := #[Operand.tmp 21], argTypes := #[22] }, 2, "l05_sparse.go:241", #[{ on := 0, ground := Ground.data }], none⟩) rfl (by rfl) (by rfl) (fun w' hw' hF R__ hGo => ?_) ⟨_, rfl⟩ ?_
        · go_simp
          refine gives_enter rfl ?_
          refine (length_any A1 t c1 (by omega) _).mono ?_
          rintro e w2 ⟨rfl, rfl⟩
          exact ⟨_, rfl, hGo _ _ (Ext.refl _) rfl trivial⟩
        intro v hv
        obtain rfl : v = (.int .i64 (t : Int)) := hv
        simp only [Act.put, List.setIfInBounds_toArray, List.set_cons_zero, List.set_cons_succ]
        refine' wpT_det (o := ⟨some 23, Op.fieldAddr 27 (Operand.tmp 1) 0, 0, "l05_sparse.go:241", #[], none⟩) rfl (by rfl) (by rfl) (fun w' hw' => ?_) ?_; rotate_left
        · go_simp <;> first | rfl | exact ⟨rfl, rfl⟩
        simp only [Act.put, List.setIfInBounds_toArray, List.set_cons_zero, List.set_cons_succ]
        refine' wpT_det (o := ⟨some 24, Op.load 2 (Operand.tmp 23), 2, "l05_sparse.go:241", #[{ on := 2, ground := Ground.data }], none⟩) rfl (by rfl) (by rfl) (fun w' hw' => ?_) ?_; rotate_left
        · have zo_ := Ext.cell hw' zo; have c0_ := Ext.cell hw' c0; go_simp <;> first | rfl | exact ⟨rfl, rfl⟩
        simp only [Act.put, List.setIfInBounds_toArray, List.set_cons_zero, List.set_cons_succ]
        refine' wpT_det (o := ⟨some 25, Op.binOp BinOp.lss 2 (Operand.tmp 22) (Operand.tmp 24) 2, 4, "l05_sparse.go:241", #[{ on := 1, ground := Ground.data }, { on := 3, ground := Ground.data }], none⟩) rfl (by rfl) (by rfl) (fun w' hw' => ?_) ?_; rotate_left
        · go_simp <;> first | rfl | exact ⟨rfl, rfl⟩
        simp only [Act.put, List.setIfInBounds_toArray, List.set_cons_zero, List.set_cons_succ]
        refine wpT_nil (fun w4 hw' hF => ?_)
        refine wpList_nil ?_
        have hx4 := hw'.undrew
        clear hF hw' zo c0
        replace bst := bst.ext hx4
        replace hx := hx.trans hx4
        clear hx4
        obtain ⟨x, hlow, hxN, hxn⟩ := bs_low (B := G) (bsSt_ok N G t htN) (by rw [hlt'.out]; exact hlt)
        have zo : w4.cell? ⟨po, 0, none⟩ = some (.slice A1 t c1) := bst.bo.cell 0 rfl
        have c0 : w4.cell? ⟨w.heap.size, 0, none⟩ = some (.int .i64 N) := (bb.ext hx).cell 0 rfl
        have HST := Lib.hid (inB_start hlt hlt'.out hlow)
        obtain ⟨L, hL⟩ : ∃ L, L = (bsSt N G t).L := ⟨_, rfl⟩
        rw [← hL] at hlow hxn bst HST
        obtain ⟨mm, hmm⟩ : ∃ mm, mm = msk N (fun k => !notIn L k) := ⟨_, rfl⟩
        obtain ⟨ml, hml⟩ : ∃ ml, ml = msk N (notIn L) := ⟨_, rfl⟩
        obtain ⟨nl, hnl⟩ : ∃ nl, (lsB N (notIn L)).length = nl := ⟨_, rfl⟩
        have hnl32 := lsB_len N (notIn L)
        rw [hnl] at hnl32
        have hnot : bits .andNot .u64 (al : Int) (mm : Int) = (ml : Int) := by
          have h := left_mask hn32 L (fun _ => true)
          rw [← HAL.out, ← hmm] at h
          rw [h, hml]
          rfl
        have zm : w4.cell? ⟨pm, 0, none⟩ = some (.int .u64 (mm : Int)) := by rw [hmm]; exact bst.bm.cell 0 rfl
        have HLI : Hid (∀ W, Calls Try.prog 104 #[.int .u64 (ml : Nat)] W fun e w' => ∃ q k, e = .returned (.slice (some ⟨q, 0, none⟩) nl k) ∧ Own w' W.heap.size 2 (.slice (some ⟨q, 0, none⟩) nl k) (ints (natI (lsB N (notIn L)))) ∧ Ext W w') := by
          show ∀ W, _
          rw [hml]
          exact fun W => list_own N (notIn L) hn32 nl hnl W
        have HMF : Hid (∀ (W : World) (q k : Nat), Ext w4 W → Rds W (some ⟨q, 0, none⟩) nl (ints (natI (lsB N (notIn L)))) → Calls Try.prog 103 #[.slice (some ⟨q, 0, none⟩) nl k, .func (.func 98) #[] #[.pointer (some ⟨pg, 0, none⟩)]] W fun e w' => e = .returned (.int .i64 (x : Nat)) ∧ Ext W w') := by
          show ∀ (W : World) (q k : Nat), _
          intro W q k hxW hrW
          have hne : lsB N (notIn L) ≠ [] := by intro e; rw [e] at hlow; cases hlow
          have h := minFunc_any 98 #[.pointer (some ⟨pg, 0, none⟩)] (enters_of Try.func98 (by kernel_rfl) rfl) (some ⟨q, 0, none⟩) nl k (lsB N (notIn L)) (degB N G) (lsB_sorted N _) hne hnl.symm (by omega) W (fun W => W.cell? ⟨pg, 0, none⟩ = some (.slice (some ⟨g, 0, none⟩) N gc) ∧ Rds W (some ⟨g, 0, none⟩) N (u64s (gl N G))) (fun W W' h hx => ⟨hx.cell h.1, h.2.below hx⟩) ?_ hrW ⟨(bst.ext hxW).bg.cell 0 rfl, (bst.ext hxW).og.reads⟩
          · rw [hlow] at h
            exact h
          · show ∀ (a b : Nat) (W : World), _
            intro a b W ha hb hph
            exact (D.breadth1_any N G hn32 ⟨g, 0, none⟩ gc pg a b (lsB_mem.1 ha).1 (lsB_mem.1 hb).1 W hph.1 hph.2).mono fun e w' ⟨he, hx⟩ => ⟨he, hx.1⟩
        have HL := Lib.hid hL
        clear hL hlow hxn hmm hml hnl
        go_upto_region 8 with (fail)
        clear zo
        refine wp_region_T (cs := []) [0, 1, 2, 3, 4, 5, 6, 7, 8, 9] [10] [7, 9] [(9, [7])] (fun i__ v => match i__ with | 7 => ∃ (q k : Nat), v = .slice (some ⟨q, 0, none⟩) nl k | 9 => v = (.int .i64 (x : Int)) | _ => False) (fun i__ v w' => match i__ with | 7 => RdsF w' v [] (ints (natI (lsB N (notIn L)))) | _ => True) (by kernel_rfl) (by kernel_rfl) (by intro i v w' w2 h hx; revert h; (try dsimp only); split <;> intro h <;> first | trivial | exact RdsF.ext h hx) ?_
        refine' wpT_det (o := ⟨some 28, Op.move (Operand.tmp 8), 103, "l05_sparse.go:243", #[], none⟩) rfl (by rfl) (by rfl) (fun w' hw' => ?_) ?_; rotate_left
        · go_simp <;> first | rfl | exact ⟨rfl, rfl⟩
        simp only [Act.put, List.setIfInBounds_toArray, List.set_cons_zero, List.set_cons_succ]
        refine' wpT_det (o := ⟨some 29, Op.fieldAddr 27 (Operand.tmp 1) 0, 0, "l05_sparse.go:243", #[], none⟩) rfl (by rfl) (by rfl) (fun w' hw' => ?_) ?_; rotate_left
        · go_simp <;> first | rfl | exact ⟨rfl, rfl⟩
        simp only [Act.put, List.setIfInBounds_toArray, List.set_cons_zero, List.set_cons_succ]
        refine' wpT_det (o := ⟨some 30, Op.load 2 (Operand.tmp 29), 2, "l05_sparse.go:243", #[{ on := 1, ground := Ground.data }], none⟩) rfl (by rfl) (by rfl) (fun w' hw' => ?_) ?_; rotate_left
        · have c0_ := Ext.cell hw' c0; have zm_ := Ext.cell hw' zm; go_simp <;> first | rfl | exact ⟨rfl, rfl⟩
        simp only [Act.put, List.setIfInBounds_toArray, List.set_cons_zero, List.set_cons_succ]
        refine' wpT_det (o := ⟨some 31, Op.binOp BinOp.shl 86 (Operand.const (Value.int IntKind.u64 1)) (Operand.tmp 30) 2, 86, "l05_sparse.go:243", #[{ on := 2, ground := Ground.data }], none⟩) rfl (by rfl) (by rfl) (fun w' hw' => ?_) ?_; rotate_left
        · go_simp <;> first | rfl | exact ⟨rfl, rfl⟩
        simp only [Act.put, List.setIfInBounds_toArray, List.set_cons_zero, List.set_cons_succ]
        refine' wpT_det (o := ⟨some 32, Op.binOp BinOp.sub 86 (Operand.tmp 31) (Operand.const (Value.int IntKind.u64 1)) 86, 86, "l05_sparse.go:243", #[{ on := 3, ground := Ground.data }], none⟩) rfl (by rfl) (by rfl) (fun w' hw' => ?_) ?_; rotate_left
        · go_simp <;> first | rfl | exact ⟨rfl, rfl⟩
        simp only [Act.put, List.setIfInBounds_toArray, List.set_cons_zero, List.set_cons_succ]
        refine' wpT_det (o := ⟨some 33, Op.load 86 (Operand.tmp 6), 86, "l05_sparse.go:243", #[], none⟩) rfl (by rfl) (by rfl) (fun w' hw' => ?_) ?_; rotate_left
        · have c0_ := Ext.cell hw' c0; have zm_ := Ext.cell hw' zm; go_simp <;> first | rfl | exact ⟨rfl, rfl⟩
        simp only [Act.put, List.setIfInBounds_toArray, List.set_cons_zero, List.set_cons_succ]
        refine' wpT_det (o := ⟨some 34, Op.binOp BinOp.andNot 86 (Operand.tmp 32) (Operand.tmp 33) 86, 86, "l05_sparse.go:243", #[{ on := 4, ground := Ground.data }, { on := 5, ground := Ground.data }], none⟩) rfl (by rfl) (by rfl) (fun w' hw' => ?_) ?_; rotate_left
        · go_simp <;> first | rfl | exact ⟨rfl, rfl⟩
        simp only [Act.put, List.setIfInBounds_toArray, List.set_cons_zero, List.set_cons_succ]
        refine wpT_nd (o := ⟨some 35, Op.call { callee := Callee.value (Operand.func 104), args := #[Operand.tmp 34], argTypes := #[86] }, 22, "l05_sparse.go:243", #[{ on := 6, ground := Ground.data }], none⟩) rfl (by rfl) (by rfl) (fun w' hw' hF R__ hGo => ?_) ⟨_, 0, 0, rfl⟩ ?_
        · go_simp
          refine gives_enter rfl ?_
          refine (HLI.out _).mono ?_
          rintro e w2 ⟨LA, lc, rfl, oL, hx⟩
          exact ⟨_, rfl, hGo _ _ hx ⟨_, _, rfl⟩ (RdsF.of oL.reads rfl)⟩
        rintro _ ⟨lq, lk, rfl⟩
        simp only [Act.put, List.setIfInBounds_toArray, List.set_cons_zero, List.set_cons_succ]
        refine' wpT_det (o := ⟨some 36, Op.move (Operand.tmp 7), 101, "l05_sparse.go:243", #[], none⟩) rfl (by rfl) (by rfl) (fun w' hw' => ?_) ?_; rotate_left
        · go_simp <;> first | rfl | exact ⟨rfl, rfl⟩
        simp only [Act.put, List.setIfInBounds_toArray, List.set_cons_zero, List.set_cons_succ]
        refine wpT_nd (o := ⟨some 37, Op.call { callee := Callee.value (Operand.func 103), args := #[Operand.tmp 35, Operand.tmp 36], argTypes := #[22, 101] }, 2, "l05_sparse.go:243", #[{ on := 7, ground := Ground.data }, { on := 8, ground := Ground.data }, { on := 7, ground := Ground.chain }], none⟩) rfl (by rfl) (by rfl) (fun w' hw' hF R__ hGo => ?_) ⟨_, rfl⟩ ?_
        · go_simp
          refine gives_enter rfl ?_
          refine (HMF.out _ lq lk hw'.undrew ((hF 7 (by simp [uses]) _ rfl) _ _ _ rfl)).mono ?_
          rintro e w2 ⟨rfl, hx⟩
          exact ⟨_, rfl, hGo _ _ hx rfl trivial⟩
        intro v hv
        obtain rfl : v = (.int .i64 (x : Int)) := hv
        simp only [Act.put, List.setIfInBounds_toArray, List.set_cons_zero, List.set_cons_succ]
        refine wpT_nil (fun w5 hw' hF => ?_)
        show wpList _ _ _ [(⟨some 38, Op.call { callee := Callee.value (Operand.tmp 28), args := #[Operand.tmp 37], argTypes := #[2] }, 0, "l05_sparse.go:243", #[{ on := 0, ground := Ground.data }, { on := 9, ground := Ground.data }, { on := 9, ground := Ground.chain }], none⟩ : Oper)] _ _
        have hx5 := hw'.undrew
        clear hF hw' zm c0 HLI HMF hnot
        replace bst := bst.ext hx5
        replace hx := hx.trans hx5
        clear hx5
        go_wp2_with fail
        refine (breadth2_any w1.heap.size N G g gc pg po pm x L t A1 c1 hn32 hxN (by omega) _ bst hx.size).mono ?_
        rintro e w6 ⟨rfl, A2, c2, bst2, hE, _, _⟩
        replace hx := hE w1 (Nat.le_refl _) hx
        clear hE bst
        have zo : w6.cell? ⟨po, 0, none⟩ = some (.slice A2 (t + 1) c2) := bst2.bo.cell 0 rfl
        go_wp2_with fail
        clear zo
        go_loopg [9] (N - t) (fun k u wr => ∃ (q : Nat) (Lc : List Nat) (l : Nat) (A : Option Addr) (c : Nat), q + k = N ∧ u = .int .i64 q ∧ t ≤ q ∧ Hid (InB N G t q l Lc) ∧ Bst wr w1.heap.size N G g gc pg po pm Lc l A c ∧ Ext w1 wr)
        case atStart => exact ⟨t, L ++ [x], t + 1, A2, c2, by omega, rfl, Nat.le_refl _, HST, bst2, hx⟩
        case round =>
          rename World => wB
          clear HST bst2 hx
          obtain ⟨q, Lc, l, A3, c3, hqk, rfl, htq, HI, bst, hx⟩ := hrel
          have zo : wB.cell? ⟨po, 0, none⟩ = some (.slice A3 l c3) := bst.bo.cell 0 rfl
          by_cases hql : q < l
          · have hqI : (q : Int) < l := by omega
            obtain ⟨hrow, hqN, hlN⟩ := inB_row HI.out hql bst.len
            obtain ⟨go, rfl, _⟩ := bst.out.head (by omega)
            obtain ⟨hd1, _⟩ := bst.out.at_ q hql
            rw [show (ints (natI Lc))[q]? = some (.int .i64 ((Lc.getD q 0 : Nat) : Int)) from ints_nat_get (by rw [bst.len]; exact hql)] at hd1
            have hst := fun nl h => inB_step (nl := nl) HI.out htq hql bst.len h
            obtain ⟨r, hr'⟩ : ∃ r, r = Lc.getD q 0 := ⟨_, rfl⟩
            rw [← hr'] at hrow hd1 hst
            clear hr'
            have hrI : (r : Int) < N := by omega
            obtain ⟨hd2, _⟩ := bst.og.at_ r hrow
            rw [u64s_get (by rw [gl_length]; exact hrow), gl_at _ hrow] at hd2
            obtain ⟨mg, hmg⟩ : ∃ mg, mg = msk N (G r) := ⟨_, rfl⟩
            obtain ⟨mm, hmm⟩ : ∃ mm, mm = msk N (fun k => !notIn Lc k) := ⟨_, rfl⟩
            obtain ⟨ml, hml⟩ : ∃ ml, ml = msk N (fun k => G r k && notIn Lc k) := ⟨_, rfl⟩
            obtain ⟨nl, hnl⟩ : ∃ nl, (lsB N (fun k => G r k && notIn Lc k)).length = nl := ⟨_, rfl⟩
            have hnl32 := lsB_len N (fun k => G r k && notIn Lc k)
            rw [hnl] at hnl32
            rw [← hmg] at hd2
            have hnot : bits .andNot .u64 (mg : Int) (mm : Int) = (ml : Int) := by
              have h := left_mask hn32 Lc (G r)
              rw [← hmg, ← hmm, ← hml] at h
              exact h
            have zm : wB.cell? ⟨pm, 0, none⟩ = some (.int .u64 (mm : Int)) := by rw [hmm]; exact bst.bm.cell 0 rfl
            have zg : wB.cell? ⟨pg, 0, none⟩ = some (.slice (some ⟨g, 0, none⟩) N gc) := bst.bg.cell 0 rfl
            have HLI : Hid (∀ W, Calls Try.prog 104 #[.int .u64 (ml : Nat)] W fun e w' => ∃ q k, e = .returned (.slice (some ⟨q, 0, none⟩) nl k) ∧ Own w' W.heap.size 2 (.slice (some ⟨q, 0, none⟩) nl k) (ints (natI (nxt N G Lc r))) ∧ Ext W w') := by
              show ∀ W, _
              rw [hml]
              exact fun W => list_own N _ hn32 nl hnl W
            have hS : Hid (∀ y ∈ nxt N G Lc r, y < N) := by show ∀ y ∈ _, _; intro y hy; exact (lsB_mem.1 hy).1
            have hsl : (srt (degB N G) (nxt N G Lc r)).length = nl := (srt_len _ _).trans hnl
            have HST := Lib.hid (hst nl hsl)
            obtain ⟨S0, hS0⟩ : ∃ S0, S0 = nxt N G Lc r := ⟨_, rfl⟩
            rw [← hS0] at HLI hS hsl HST
            clear hmg hmm hml hnl hS0 hst HI
            have HSL := Lib.hid hsl
            clear hsl
            go_upto_region 11 with (fail)
            refine wp_region_T (cs := []) [0, 1, 2, 3, 4, 5, 6, 7, 8, 9, 10] [] [9] [] (fun i__ v => match i__ with | 9 => ∃ (q k : Nat), v = .slice (some ⟨q, 0, none⟩) nl k | _ => False) (fun i__ v w' => match i__ with | 9 => OwnF w' wB.heap.size 2 v [] (ints (natI S0)) | _ => True) (by kernel_rfl) (by kernel_rfl) (by intro i v w' w2 h hx; revert h; (try dsimp only); split <;> intro h <;> first | trivial | exact OwnF.ext h hx) ?_
            refine' wpT_det (o := ⟨some 45, Op.load 81 (Operand.tmp 4), 81, "l05_sparse.go:245", #[], none⟩) rfl (by rfl) (by rfl) (fun w' hw' => ?_) ?_; rotate_left
            · have zg_ := Ext.cell hw' zg; have zo_ := Ext.cell hw' zo; have hd1_ := Ext.cell hw' hd1; have hd2_ := Ext.cell hw' hd2; have zm_ := Ext.cell hw' zm; go_simp <;> first | rfl | exact ⟨rfl, rfl⟩
            simp only [Act.put, List.setIfInBounds_toArray, List.set_cons_zero, List.set_cons_succ]
            refine' wpT_det (o := ⟨some 46, Op.load 22 (Operand.tmp 5), 22, "l05_sparse.go:245", #[], none⟩) rfl (by rfl) (by rfl) (fun w' hw' => ?_) ?_; rotate_left
            · have zg_ := Ext.cell hw' zg; have zo_ := Ext.cell hw' zo; have hd1_ := Ext.cell hw' hd1; have hd2_ := Ext.cell hw' hd2; have zm_ := Ext.cell hw' zm; go_simp <;> first | rfl | exact ⟨rfl, rfl⟩
            simp only [Act.put, List.setIfInBounds_toArray, List.set_cons_zero, List.set_cons_succ]
            refine' wpT_det (o := ⟨some 47, Op.move (Operand.tmp 9), 3, "l05_sparse.go:245", #[], none⟩) rfl (by rfl) (by rfl) (fun w' hw' => ?_) ?_; rotate_left
            · go_simp <;> first | rfl | exact ⟨rfl, rfl⟩
            simp only [Act.put, List.setIfInBounds_toArray, List.set_cons_zero, List.set_cons_succ]
            refine' wpT_det (o := ⟨some 48, Op.indexAddr 22 (Operand.tmp 46) (Operand.tmp 47), 0, "l05_sparse.go:245", #[{ on := 1, ground := Ground.data }, { on := 2, ground := Ground.data }], none⟩) rfl (by rfl) (by rfl) (fun w' hw' => ?_) ?_; rotate_left
            · go_simp <;> first | rfl | exact ⟨rfl, rfl⟩
            simp only [Act.put, List.setIfInBounds_toArray, List.set_cons_zero, List.set_cons_succ]
            refine' wpT_det (o := ⟨some 49, Op.load 2 (Operand.tmp 48), 2, "l05_sparse.go:245", #[{ on := 3, ground := Ground.data }], none⟩) rfl (by rfl) (by rfl) (fun w' hw' => ?_) ?_; rotate_left
            · have zg_ := Ext.cell hw' zg; have zo_ := Ext.cell hw' zo; have hd1_ := Ext.cell hw' hd1; have hd2_ := Ext.cell hw' hd2; have zm_ := Ext.cell hw' zm; go_simp <;> first | rfl | exact ⟨rfl, rfl⟩
            simp only [Act.put, List.setIfInBounds_toArray, List.set_cons_zero, List.set_cons_succ]
            refine' wpT_det (o := ⟨some 50, Op.indexAddr 81 (Operand.tmp 45) (Operand.tmp 49), 0, "l05_sparse.go:245", #[{ on := 0, ground := Ground.data }, { on := 4, ground := Ground.data }], none⟩) rfl (by rfl) (by rfl) (fun w' hw' => ?_) ?_; rotate_left
            · go_simp <;> first | rfl | exact ⟨rfl, rfl⟩
            simp only [Act.put, List.setIfInBounds_toArray, List.set_cons_zero, List.set_cons_succ]
            refine' wpT_det (o := ⟨some 51, Op.load 86 (Operand.tmp 50), 86, "l05_sparse.go:245", #[{ on := 5, ground := Ground.data }], none⟩) rfl (by rfl) (by rfl) (fun w' hw' => ?_) ?_; rotate_left
            · have zg_ := Ext.cell hw' zg; have zo_ := Ext.cell hw' zo; have hd1_ := Ext.cell hw' hd1; have hd2_ := Ext.cell hw' hd2; have zm_ := Ext.cell hw' zm; go_simp <;> first | rfl | exact ⟨rfl, rfl⟩
            simp only [Act.put, List.setIfInBounds_toArray, List.set_cons_zero, List.set_cons_succ]
            refine' wpT_det (o := ⟨some 52, Op.load 86 (Operand.tmp 6), 86, "l05_sparse.go:245", #[], none⟩) rfl (by rfl) (by rfl) (fun w' hw' => ?_) ?_; rotate_left
            · have zg_ := Ext.cell hw' zg; have zo_ := Ext.cell hw' zo; have hd1_ := Ext.cell hw' hd1; have hd2_ := Ext.cell hw' hd2; have zm_ := Ext.cell hw' zm; go_simp <;> first | rfl | exact ⟨rfl, rfl⟩
            simp only [Act.put, List.setIfInBounds_toArray, List.set_cons_zero, List.set_cons_succ]
            refine' wpT_det (o := ⟨some 53, Op.binOp BinOp.andNot 86 (Operand.tmp 51) (Operand.tmp 52) 86, 86, "l05_sparse.go:245", #[{ on := 6, ground := Ground.data }, { on := 7, ground := Ground.data }], none⟩) rfl (by rfl) (by rfl) (fun w' hw' => ?_) ?_; rotate_left
            · go_simp <;> first | rfl | exact ⟨rfl, rfl⟩
            simp only [Act.put, List.setIfInBounds_toArray, List.set_cons_zero, List.set_cons_succ]
            refine wpT_nd (o := ⟨some 54, Op.call { callee := Callee.value (Operand.func 104), args := #[Operand.tmp 53], argTypes := #[86] }, 22, "l05_sparse.go:245", #[{ on := 8, ground := Ground.data }], none⟩) rfl (by rfl) (by rfl) (fun w' hw' hF R__ hGo => ?_) ⟨_, 0, 0, rfl⟩ ?_
            · go_simp
              refine gives_enter rfl ?_
              refine (HLI.out _).mono ?_
              rintro e w2 ⟨LA, lc, rfl, oL, hx⟩
              exact ⟨_, rfl, hGo _ _ hx ⟨_, _, rfl⟩ (OwnF.of (oL.base hw'.size) rfl)⟩
            rintro _ ⟨lq, lk, rfl⟩
            simp only [Act.put, List.setIfInBounds_toArray, List.set_cons_zero, List.set_cons_succ]
            refine' wpT_det (o := ⟨some 10, Op.assign (Operand.tmp 54), 22, "l05_sparse.go:245", #[{ on := 9, ground := Ground.data }, { on := 9, ground := Ground.chain }, { on := 0, ground := Ground.phase }, { on := 1, ground := Ground.phase }, { on := 2, ground := Ground.phase }, { on := 3, ground := Ground.phase }, { on := 4, ground := Ground.phase }, { on := 5, ground := Ground.phase }, { on := 6, ground := Ground.phase }, { on := 7, ground := Ground.phase }, { on := 8, ground := Ground.phase }, { on := 9, ground := Ground.phase }], none⟩) rfl (by rfl) (by rfl) (fun w' hw' => ?_) ?_; rotate_left
            · go_simp <;> first | rfl | exact ⟨rfl, rfl⟩
            simp only [Act.put, List.setIfInBounds_toArray, List.set_cons_zero, List.set_cons_succ]
            refine wpT_nil (fun w5 hw' hF => ?_)
            refine wpList_nil ?_
            have oL := (hF 9 _ rfl) _ _ _ rfl
            have hx5 := hw'.undrew
            clear hF hw' zm zg zo hd1 hd2 HLI hnot
            have hbq := own_ge oL
            have hne : (Value.slice (some ⟨go, 0, none⟩) l c3).ownBlock ≠ some lq := by
              have h := bst.out.lt_size go rfl
              intro e
              have e' : go = lq := Option.some.inj e
              omega
            have hbB := hx.size
            replace bst := bst.ext hx5
            replace hx := hx.trans hx5
            clear hx5
            go_wp2_with fail
            refine (sortBy_any N G hn32 (by omega) ⟨g, 0, none⟩ gc pg _ _ S0 hS.out lq nl lk _ oL bst.bg bst.og).mono ?_
            rintro e w6 ⟨rfl, oS, hw6⟩
            replace bst := bst.wr oL hw6 hne
            replace hx := hw6.ext hx (oL.base hbB)
            clear oL hw6
            obtain ⟨S, hSe⟩ : ∃ S, S = srt (degB N G) S0 := ⟨_, rfl⟩
            have hSN : Hid (∀ y ∈ S, y < N) := by show ∀ y ∈ _, _; intro y hy; rw [hSe] at hy; exact hS.out y ((srt_perm _ _).mem_iff.1 hy)
            rw [← hSe] at oS HST HSL
            clear hSe hS
            go_wp2_with fail
            have bst0 : Bst w6 w1.heap.size N G g gc pg po pm (Lc ++ S.take 0) (l + 0) (some ⟨go, 0, none⟩) c3 := by rw [List.take_zero, List.append_nil]; exact bst
            go_loopg [60] nl (fun k u wr => ∃ (p : Nat) (A : Option Addr) (c : Nat), p + k = nl ∧ u = .int .i64 p ∧ Own wr wB.heap.size 2 (.slice (some ⟨lq, 0, none⟩) nl lk) (ints (natI S)) ∧ Bst wr w1.heap.size N G g gc pg po pm (Lc ++ S.take p) (l + p) A c ∧ Hid ((Value.slice A (l + p) c).ownBlock ≠ some lq) ∧ Ext w1 wr)
            case atStart => exact ⟨0, _, _, by omega, rfl, oS, bst0, hne, hx⟩
            case round =>
              rename World => wC
              clear bst bst0 oS hne hx
              obtain ⟨p, A4, c4, hpk, rfl, oS, bst, hne, hx⟩ := hrel
              by_cases hpl : p < nl
              · have hpI : (p : Int) < nl := by omega
                have hpS : p < S.length := by rw [HSL.out]; exact hpl
                obtain ⟨hd1, _⟩ := oS.at_ p hpl
                rw [show (ints (natI S))[p]? = some (.int .i64 ((S.getD p 0 : Nat) : Int)) from ints_nat_get hpS] at hd1
                have hyN : S.getD p 0 < N := hSN.out _ (by rw [List.getD_eq_getElem?_getD, List.getElem?_eq_getElem hpS]; exact List.getElem_mem _)
                have HTK := Lib.hid (takeS_next hpS)
                obtain ⟨y, hy⟩ : ∃ y, y = S.getD p 0 := ⟨_, rfl⟩
                rw [← hy] at hd1 hyN HTK
                clear hy hpS
                have g1 : IntKind.i64.wrap ((p : Int) + 1) = (p : Int) + 1 := IntWalk.i64_in _ (by omega)
                go_wp2_with fail
                refine (breadth2_any w1.heap.size N G g gc pg po pm y (Lc ++ S.take p) (l + p) A4 c4 hn32 hyN (by omega) _ bst hx.size).mono ?_
                rintro e w7 ⟨rfl, A5, c5, bst5, hE, hLk, _⟩
                replace hx := hE w1 (Nat.le_refl _) hx
                obtain ⟨oS5, hne5⟩ := hLk lq nl lk _ _ oS hne.out
                clear hE hLk bst hd1 oS hne
                rw [List.append_assoc, ← HTK.out] at bst5
                go_wp2_with fail
                go_roundg (nl - (p + 1))
                case measure => omega
                case rel => exact ⟨p + 1, A5, c5, by omega, by go_num, oS5, bst5, hne5, hx⟩
              · obtain rfl : p = nl := by omega
                have g1 : IntKind.i64.wrap ((q : Int) + 1) = (q : Int) + 1 := IntWalk.i64_in _ (by omega)
                have hTA : S.take p = S := List.take_of_length_le (by rw [HSL.out]; exact Nat.le_refl _)
                rw [hTA] at bst
                clear hTA
                go_wp2_with fail
                go_roundg (N - (q + 1))
                case measure => omega
                case rel => exact ⟨q + 1, Lc ++ S, l + p, A4, c4, by omega, by go_num, by omega, HST, bst, hx⟩
          · have hqI : ¬ (q : Int) < l := by omega
            obtain ⟨hql', hLq, htq'⟩ := HI.out.2 hql
            subst hql'
            subst hLq
            have hlen : Hid ((bsSt N G q).L.length = q) := by show _ = _; exact bst.len
            have hqN : q ≤ N := by omega
            go_wp2_with fail
            go_roundg (N - q)
            case measure => omega
            case rel => exact ⟨q, A3, c3, by omega, hlen, bst, hx⟩
      · obtain rfl : t = N := by omega
        go_upto_region 6 with (fail)
        refine wp_region_T (cs := []) [0, 1, 2, 3, 4] [] [1] [] (fun i__ v => match i__ with | 1 => v = (.int .i64 (t : Int)) | _ => False) (fun _ _ _ => True) (by kernel_rfl) (by kernel_rfl) (fun _ _ _ _ _ _ => trivial) ?_
        refine' wpT_det (o := ⟨some 21, Op.load 22 (Operand.tmp 5), 22, "l05_sparse.go:241", #[], none⟩) rfl (by rfl) (by rfl) (fun w' hw' => ?_) ?_; rotate_left
        · have zo_ := Ext.cell hw' zo; have c0_ := Ext.cell hw' c0; go_simp <;> first | rfl | exact ⟨rfl, rfl⟩
        simp only [Act.put, List.setIfInBounds_toArray, List.set_cons_zero, List.set_cons_succ]
        refine wpT_nd (o := ⟨some 22, Op.call { callee := Callee.value (Operand.func 87), args := #[Operand.tmp 21], argTypes := #[22] }, 2, "l05_sparse.go:241", #[{ on := 0, ground := Ground.data }], none⟩) rfl (by rfl) (by rfl) (fun w' hw' hF R__ hGo => ?_) ⟨_, rfl⟩ ?_
        · go_simp
          refine gives_enter rfl ?_
          refine (length_any A1 t c1 (by omega) _).mono ?_
          rintro e w2 ⟨rfl, rfl⟩
          exact ⟨_, rfl, hGo _ _ (Ext.refl _) rfl trivial⟩
        intro v hv
        obtain rfl : v = (.int .i64 (t : Int)) := hv
        simp only [Act.put, List.setIfInBounds_toArray, List.set_cons_zero, List.set_cons_succ]
        refine' wpT_det (o := ⟨some 23, Op.fieldAddr 27 (Operand.tmp 1) 0, 0, "l05_sparse.go:241", #[], none⟩) rfl (by rfl) (by rfl) (fun w' hw' => ?_) ?_; rotate_left
        · go_simp <;> first | rfl | exact ⟨rfl, rfl⟩
        simp only [Act.put, List.setIfInBounds_toArray, List.set_cons_zero, List.set_cons_succ]
        refine' wpT_det (o := ⟨some 24, Op.load 2 (Operand.tmp 23), 2, "l05_sparse.go:241", #[{ on := 2, ground := Ground.data }], none⟩) rfl (by rfl) (by rfl) (fun w' hw' => ?_) ?_; rotate_left
        · have zo_ := Ext.cell hw' zo; have c0_ := Ext.cell hw' c0; go_simp <;> first | rfl | exact ⟨rfl, rfl⟩
        simp only [Act.put, List.setIfInBounds_toArray, List.set_cons_zero, List.set_cons_succ]
        refine' wpT_det (o := ⟨some 25, Op.binOp BinOp.lss 2 (Operand.tmp 22) (Operand.tmp 24) 2, 4, "l05_sparse.go:241", #[{ on := 1, ground := Ground.data }, { on := 3, ground := Ground.data }], none⟩) rfl (by rfl) (by rfl) (fun w' hw' => ?_) ?_; rotate_left
        · go_simp <;> first | rfl | exact ⟨rfl, rfl⟩
        simp only [Act.put, List.setIfInBounds_toArray, List.set_cons_zero, List.set_cons_succ]
        refine wpT_nil (fun w4 hw' hF => ?_)
        refine wpList_nil ?_
        have hx4 := hw'.undrew
        clear hF hw' zo c0
        replace bst := bst.ext hx4
        replace hx := hx.trans hx4
        clear hx4
        obtain ⟨go, rfl, _⟩ := bst.out.head (by omega)
        have zo : w4.cell? ⟨po, 0, none⟩ = some (.slice (some ⟨go, 0, none⟩) t c1) := bst.bo.cell 0 rfl
        go_wp2_with fail
        refine (rev_any _ _ go t c1 _ bst.out).mono ?_
        rintro e w5 ⟨rfl, oR, hw5⟩
        have zo : w5.cell? ⟨po, 0, none⟩ = some (.slice (some ⟨go, 0, none⟩) t c1) := (bst.bo.wr hw5 bst.out (by decide)).cell 0 rfl
        replace hx := hw5.ext hx bst.out
        have HLL : Hid ((natI (breL t G)).length = t) := by show _ = _; rw [natI_length, breL_len]
        have oR2 : Own w5 w1.heap.size 2 (.slice (some ⟨go, 0, none⟩) t c1) (ints (natI (breL t G))) := oR
        replace oR2 := oR2.base hx0.size
        replace hx0 := hx0.trans hx
        clear hx bst oR hw5
        go_wp2_with fail
        refine bodyPost_ret (v := .tuple #[.slice (some ⟨go, 0, none⟩) t c1, .bool true]) (by simp only [results, Try.results35]; simp [go_sem]) rfl ?_
        refine ⟨some ⟨go, 0, none⟩, c1, ?_, ?_, hx0⟩
        · rw [HLL.out]
        · rw [HLL.out]; exact oR2

end Go.Proofs.Ytkifpligpobiaaa
