
/- How a slice of entries is read as data. -/

import Derived.Test.YtkifpligpobiaaaRowLibS

import Derived.Test.YtkifpligpobiaaaEN1
set_option linter.unusedVariables false
set_option linter.unusedSimpArgs false

namespace Go.Proofs.Ytkifpligpobiaaa

open Go.RowKit Go.ChangeShapes Go.WideShapes Go.Deep Go.Joins

section

variable {H : Type} {enc : TypeId × Value → H} {P : Program} {w : World}

def giC (w : World) (a : Addr) : Int := match w.cell? a with | some (.int _ z) => z | _ => 0
def gfC (w : World) (a : Addr) : Nat := match w.cell? a with | some (.float _ z) => z | _ => 0
theorem add_add (a : Addr) (i j : Nat) : (a.add i).add j = a.add (i + j) := by
  unfold Addr.add
  by_cases h : j = 0
  · subst h; simp
  · by_cases h2 : i = 0
    · subst h2; simp [h]
    · rw [if_neg h, if_neg h2, if_neg (by omega)]
      simp [Nat.add_assoc]
/-- A slice of entries that came in. -/
theorem open_ent_slice {t e : TypeId} {f0 f1 f2 : Field} {fuel : Nat} {v : Value} {x : DataW H × List MemPlace} (ht : P.underlying t = some (.slice e)) (he : P.underlying e = some (.struct #[f0, f1, f2])) (hone : oneCellFields P #[f0, f1, f2] = true) (hc : P.cellsOf e = 3)
    (t0 : P.underlying f0.type = some (.int .i64)) (t1 : P.underlying f1.type = some (.int .i64)) (t2 : P.underlying f2.type = some (.float .f32))
    (h : DataW.trod enc P w 0 (fun _ => true) true fuel t [v] = some x) : ∃ A n cap es, v = .slice A n cap ∧ RdsE w A n es := by
  rcases DataW.trod_slice ht h with ⟨hcs, _⟩ | ⟨a, len, cap, elems, rest, n, _, hcs, _, hb, hl, hm, hlen, hel, hsp, hns⟩
  · simp only [List.cons.injEq, and_true] at hcs
    exact ⟨none, 0, 0, [], hcs, rfl, by omega, fun h => by omega⟩
  · simp only [List.cons.injEq, and_true] at hcs
    have each : ∀ i, i < len → ∃ r c y, w.cell? (a.add (i * 3)) = some (.int .i64 r) ∧ w.cell? (a.add (i * 3 + 1)) = some (.int .i64 c) ∧ w.cell? (a.add (i * 3 + 2)) = some (.float .f32 y) := by
      intro i hi
      have h1 := hel i hi
      have hi' : i < elems.length := by omega
      rw [List.getElem?_eq_getElem hi', hc, Option.bind_eq_some_iff] at h1
      obtain ⟨cs', hcs', hy'⟩ := h1
      obtain ⟨hl3, hcell⟩ : cs'.length = 3 ∧ ∀ j, j < 3 → w.cell? ((a.add (i * 3)).add j) = cs'[j]? := by
        have := World.cells?_some hcs'
        exact ⟨this.2.1, this.2.2⟩
      match cs', hl3 with
      | [c0, c1, c2], _ =>
        obtain ⟨y0, y1, y2, m, hx, _, g0, g1, g2⟩ := trod_struct3 he hy'
        obtain ⟨o0, k0⟩ := hone_of hone 0 f0 rfl
        obtain ⟨o1, k1⟩ := hone_of hone 1 f1 rfl
        obtain ⟨o2, k2⟩ := hone_of hone 2 f2 rfl
        have e0 : DataW.trod enc P w 0 (fun _ => true) true m f0.type [c0] = some y0 := by simpa [o0, k0] using g0
        have e1 : DataW.trod enc P w 0 (fun _ => true) true m f1.type [c1] = some y1 := by simpa [o1, k1] using g1
        have e2 : DataW.trod enc P w 0 (fun _ => true) true m f2.type [c2] = some y2 := by simpa [o2, k2] using g2
        obtain ⟨r, er, -, -⟩ := DataW.trod_int t0 e0
        obtain ⟨c, ec, -, -⟩ := DataW.trod_int t1 e1
        obtain ⟨y, ey, _, _⟩ := trod_flt t2 e2
        have er' : c0 = .int .i64 r := by simpa using er
        have ec' : c1 = .int .i64 c := by simpa using ec
        have ey' : c2 = .float .f32 y := by simpa using ey
        subst er' ec' ey'
        have q0 := hcell 0 (by omega)
        have q1 := hcell 1 (by omega)
        have q2 := hcell 2 (by omega)
        rw [add_add] at q0 q1 q2
        exact ⟨r, c, y, q0, q1, q2⟩
    have hcells : ∀ j, j < len → ∀ es : List Ent, es = ((List.range len).map fun (i : Nat) => (giC w (a.add (i * 3)), giC w (a.add (i * 3 + 1)), gfC w (a.add (i * 3 + 2)))) → rdE es j = (giC w (a.add (j * 3)), giC w (a.add (j * 3 + 1)), gfC w (a.add (j * 3 + 2))) := by
      intro j hj es he
      subst he
      simp [rdE, hj]
    refine ⟨some a, len, cap, (List.range len).map fun (i : Nat) => (giC w (a.add (i * 3)), giC w (a.add (i * 3 + 1)), gfC w (a.add (i * 3 + 2))), hcs, by simp, by unfold maxLen at hm; omega, fun _ => ⟨a, rfl, fun j hj => ?_⟩⟩
    obtain ⟨es, hes⟩ : ∃ es, es = (List.range len).map fun (i : Nat) => (giC w (a.add (i * 3)), giC w (a.add (i * 3 + 1)), gfC w (a.add (i * 3 + 2))) := ⟨_, rfl⟩
    rw [← hes]
    have hlE : es.length = len := by rw [hes]; simp
    have hi : j / 3 < len := by omega
    obtain ⟨h0, h1, h2⟩ := ents_get es (j / 3) (by omega)
    rw [hcells _ hi es hes] at h0 h1 h2
    obtain ⟨r, c, y, q0, q1, q2⟩ := each (j / 3) hi
    have hm3 : j % 3 = 0 ∨ j % 3 = 1 ∨ j % 3 = 2 := by omega
    rcases hm3 with e | e | e
    · rw [show j = j / 3 * 3 from by omega, h0, q0]
      simp [giC, q0]
    · rw [show j = j / 3 * 3 + 1 from by omega, h1, q1]
      simp [giC, q1]
    · rw [show j = j / 3 * 3 + 2 from by omega, h2, q2]
      simp [gfC, q2]
end

end Go.Proofs.Ytkifpligpobiaaa
