/- Draws are counted on: no step of a program's own takes a draw back. Nothing of the program. -/
import Derived.Still
import Derived.Below
import Derived.Test.YtkifpligpobiaaaH14
set_option linter.unusedVariables false
set_option linter.unusedSimpArgs false
namespace Go.Proofs.Ytkifpligpobiaaa
open Go.RowKit

theorem viewStore_drawn {p : Program} {w w' : World} {at_ : Addr} {u : TypeId} {k : Addr} {v : Value} {b : Bool} {l : List Addr} (h : w.viewStore p at_ u k v b = .ok (w', l)) : w'.drawn = w.drawn := by
  unfold World.viewStore at h
  simp only [bind, Except.bind, pure, Except.pure, throw, throwThe, MonadExceptOf.throw] at h
  repeat' (split at h)
  all_goals first
    | (cases h; done)
    | (cases h; rfl)
    | (simp at h; done)
    | (simp only [Except.ok.injEq, Prod.mk.injEq] at h; rw [← h.1])
theorem farStore_drawn {p : Program} {w w' : World} {a : Addr} {v : Value} {b : Bool} {l : List Addr} (h : w.farStore p a v b = .ok (w', l)) : w'.drawn = w.drawn := by
  unfold World.farStore at h
  split at h
  · split at h
    · rename_i r hr
      cases h
      exact viewStore_drawn hr
    · cases h
  · cases h
theorem ask_drawn {α : Type} : ∀ (q : Ask α) (w : World), w.drawn ≤ (w.ask q).2.drawn
  | .done a, w => Nat.le_refl _
  | .ask what range k, w => by
    unfold World.ask
    simp only []
    split
    · exact ask_drawn (k 0) w
    · exact Nat.le_trans (Nat.le_succ _) (ask_drawn _ { w with drawn := w.drawn + 1 })
theorem sys_drawn (w : World) (c : Sys) : w.drawn ≤ (w.sys c).2.drawn := by
  have h := ask_drawn (Kernel.perform c w.os) w
  unfold World.sys
  split
  · exact Nat.le_refl _
  · rename_i e
    rw [e] at h
    exact h
theorem run_drawn {α : Type} {p : Program} : ∀ (s : Sem α) (w w' : World) (a : α), s.run p w = .ok a w' → w.drawn ≤ w'.drawn := by
  intro s
  induction s with
  | pure a => intro w w' b h; simp only [Sem.run] at h; cases h; exact Nat.le_refl _
  | load m a k ih =>
    intro w w' b h
    simp only [Sem.run] at h
    split at h
    · exact ih _ _ _ _ h
    · split at h
      · exact ih _ _ _ _ h
      · cases h
  | store m a v k ih =>
    intro w w' b h
    cases v <;> simp only [Sem.run] at h <;> first
      | (cases h; done)
      | (split at h
         · split at h
           · cases h
           · exact ih (w.setCell a _) _ _ h
         · split at h
           · rename_i hf
             have := ih _ _ _ h
             rw [farStore_drawn hf] at this
             exact this
           · cases h)
  | new o k ih => intro w w' b h; simp only [Sem.run] at h; exact ih _ { w with heap := w.heap.push o } _ _ h
  | shape r k ih => intro w w' b h; simp only [Sem.run] at h; exact ih _ _ _ _ h
  | freeze a n k ih =>
    intro w w' b h
    simp only [Sem.run] at h
    have e : (w.freeze a n).drawn = w.drawn := by unfold World.freeze; (repeat' split) <;> rfl
    have h2 := ih (w.freeze a n) _ _ h
    rw [e] at h2
    exact h2
  | frozen a k ih => intro w w' b h; simp only [Sem.run] at h; exact ih _ _ _ _ h
  | getObj r k ih =>
    intro w w' b h
    simp only [Sem.run] at h
    split at h
    · cases h
    · exact ih _ _ _ _ h
    · cases h
  | setObj r o k ih =>
    intro w w' b h
    simp only [Sem.run] at h
    split at h
    · cases h
    · exact ih { w with heap := w.heap.setIfInBounds r o } _ _ h
    · cases h
  | choose q k ih =>
    intro w w' b h
    simp only [Sem.run] at h
    split at h
    · exact ih _ _ _ _ h
    · exact Nat.le_trans (Nat.le_succ _) (ih _ { w with drawn := w.drawn + 1 } _ _ h)
  | sys c k ih => intro w w' b h; simp only [Sem.run] at h; exact Nat.le_trans (sys_drawn w c) (ih _ _ _ _ h)
  | program k ih => intro w w' b h; simp only [Sem.run] at h; exact ih _ _ _ _ h
  | mark m k ih => intro w w' b h; simp only [Sem.run] at h; exact ih _ _ _ h
  | halt q => intro w w' b h; simp only [Sem.run] at h; cases h

end Go.Proofs.Ytkifpligpobiaaa

namespace Go.Proofs.Ytkifpligpobiaaa.D
open Go.RowKit

/-- All that lay in w lies in w' as it did. -/
def Ext (w w' : World) : Prop := Below w.heap.size w w' ∧ w.drawn ≤ w'.drawn
theorem Ext.refl (w : World) : Ext w w := ⟨Below.refl _ _, Nat.le_refl _⟩
theorem Ext.trans {a b c : World} (h : Ext a b) (k : Ext b c) : Ext a c := ⟨Below.trans h.1 (Below.mono k.1 (Below.size h.1)), Nat.le_trans h.2 k.2⟩

/-- A result that is a value, in whatever way it came. -/
def Gives (P : Program) (R : Value → World → Prop) : Result Next → Prop
  | .ok (.value v) w' => R v w'
  | .ok (.enter f args) w' => Calls P f args w' fun e w'' => ∃ v, e = .returned v ∧ R v w''
  | _ => False

theorem gives_enter {P : Program} {R : Value → World → Prop} {f : FuncId} {args : Array Value} {w : World} {r : Result Next} (hr : r = .ok (.enter f args) w) (h : Calls P f args w fun e w'' => ∃ v, e = .returned v ∧ R v w'') : Gives P R r := by rw [hr]; exact h
theorem gives_value {P : Program} {R : Value → World → Prop} {v : Value} {w : World} {r : Result Next} (hr : r = .ok (.value v) w) (h : R v w) : Gives P R r := by rw [hr]; exact h
theorem Ext.cell {w w' : World} (h : Ext w w') {a : Addr} {v : Value} (hc : w.cell? a = some v) : w'.cell? a = some v := (Below.cell h.1 (World.block_lt_of_cell? w a hc)).trans hc
theorem Ext.drew {w w' : World} (h : Ext w w') : Ext w w'.drew := ⟨Below.drew h.1, Nat.le_trans h.2 (Nat.le_succ _)⟩
theorem Ext.alloc {w w' : World} (h : Ext w w') (o : Obj) : Ext w (w'.alloc o) := ⟨Below.alloc h.1 (Below.size h.1) o, h.2⟩
theorem Ext.undrew {w w' : World} (h : Ext w.drew w') : Ext w w' := ⟨⟨h.1.os, h.1.tape, h.1.output, h.1.size, h.1.block⟩, Nat.le_trans (Nat.le_succ _) h.2⟩

section
variable {P : Program} {ops : Array Oper} {md : Region.Mode} {w0 : World} {nd : List Nat} {uf cs : List (Nat × List Nat)} {σ : Nat → Value → Prop} {τ : Nat → Value → World → Prop}

/-- Of which earlier results operation i may use the facts. -/
def uses (uf : List (Nat × List Nat)) (i : Nat) : List Nat := ((uf.find? (·.1 == i)).map (·.2)).getD []

def Facts (τ : Nat → Value → World → Prop) (l : List Nat) (φ : Nat → Option Value) (w : World) : Prop := ∀ k ∈ l, ∀ v, φ k = some v → τ k v w

/-- What operation i owes, and the values that it may leave. -/
def Ob (P : Program) (ops : Array Oper) (w0 : World) (nd : List Nat) (uf cs : List (Nat × List Nat)) (σ : Nat → Value → Prop) (τ : Nat → Value → World → Prop) (i : Nat) (o : Oper) (φ : Nat → Option Value) (a : Act) (V : Value → Prop) : Prop :=
  if Region.wanted o (yielded ops a.tmps) = true then
    if nd.contains i = true then V = σ i ∧ ∀ w, Ext w0 w → Facts τ (uses uf i) φ w → Gives P (fun v w' => (Ext w w' ∨ (Ext w0 w' ∧ ∀ k u, k ∉ uses cs i → k ≠ i → τ k u w → τ k u w')) ∧ σ i v ∧ τ i v w') ((execOp a.eval o).run P w)
    else ∃ v, (V = fun u => u = v) ∧ ∀ w, Ext w0 w → (execOp a.eval o).run P w = .ok (.value v) w
  else V = fun u => u = undef

theorem Ob.unique {i : Nat} {o : Oper} {φ : Nat → Option Value} {a : Act} {V V' : Value → Prop} (h : Ob P ops w0 nd uf cs σ τ i o φ a V) (h' : Ob P ops w0 nd uf cs σ τ i o φ a V') : V = V' := by
  unfold Ob at *
  split at h
  · rename_i hw
    rw [if_pos hw] at h'
    split at h
    · rename_i hn
      rw [if_pos hn] at h'
      exact h.1.trans h'.1.symm
    · rename_i hn
      rw [if_neg hn] at h'
      obtain ⟨v, rfl, hv⟩ := h
      obtain ⟨v', rfl, hv'⟩ := h'
      have := (hv w0 (Ext.refl _)).symm.trans (hv' w0 (Ext.refl _))
      simp only [Result.ok.injEq, Next.value.injEq, and_true] at this
      rw [this]
  · rename_i hw
    rw [if_neg hw] at h'
    exact h.trans h'.symm

def upd (φ : Nat → Option Value) (i : Nat) (v : Value) : Nat → Option Value := fun k => if k = i then some v else φ k
theorem upd_comm {φ : Nat → Option Value} {i j : Nat} (h : i ≠ j) (v u : Value) : upd (upd φ i v) j u = upd (upd φ j u) i v := by
  funext k
  unfold upd
  by_cases h1 : k = j
  · subst h1; simp [Ne.symm h]
  · simp [h1]

def del (φ : Nat → Option Value) (l : List Nat) : Nat → Option Value := fun k => if k ∈ l then none else φ k
/-- The result is written down where the operation was carried out and bears a fact; what the operation spoils is struck. -/
def updW (ops : Array Oper) (nd : List Nat) (cs : List (Nat × List Nat)) (i : Nat) (o : Oper) (a : Act) (φ : Nat → Option Value) (v : Value) : Nat → Option Value :=
  if Region.wanted o (yielded ops a.tmps) = true ∧ nd.contains i = true then upd (del φ (uses cs i)) i v else φ

def St (P : Program) (ops : Array Oper) (w0 : World) (nd : List Nat) (uf cs : List (Nat × List Nat)) (σ : Nat → Value → Prop) (τ : Nat → Value → World → Prop) (i : Nat) (K : (Nat → Option Value) → Act → Prop) (φ : Nat → Option Value) (a : Act) : Prop :=
  ∃ o, ops[i]? = some o ∧ ∃ V, Ob P ops w0 nd uf cs σ τ i o φ a V ∧ (∃ v, V v) ∧ ∀ v, V v → K (updW ops nd cs i o a φ v) (a.put o.dst v)

theorem St.mono {i : Nat} {K K' : (Nat → Option Value) → Act → Prop} {φ : Nat → Option Value} {a : Act} (hK : ∀ φ a, K φ a → K' φ a) (h : St P ops w0 nd uf cs σ τ i K φ a) : St P ops w0 nd uf cs σ τ i K' φ a :=
  let ⟨o, ho, V, hV, hn, h⟩ := h
  ⟨o, ho, V, hV, hn, fun v hv => hK _ _ (h v hv)⟩

theorem Ob.apart {i j : Nat} {oi oj : Oper} {φ : Nat → Option Value} {a : Act} {V : Value → Prop} {v : Value} (hd : ∀ d, oi.dst = some d → d ∉ oj.looksAt ops) (hs : ∀ cs b, oj.op ≠ .select cs b) (hu : i ∉ uses uf j) (hc : ∀ k ∈ uses cs i, k ∉ uses uf j) :
    Ob P ops w0 nd uf cs σ τ j oj (updW ops nd cs i oi a φ v) (a.put oi.dst v) V ↔ Ob P ops w0 nd uf cs σ τ j oj φ a V := by
  unfold Ob
  rw [wanted_put oj a oi.dst v hd, execOp_put oj hs a oi.dst v hd]
  have hf : ∀ w, Facts τ (uses uf j) (updW ops nd cs i oi a φ v) w ↔ Facts τ (uses uf j) φ w := fun w => by
    unfold updW
    split
    · unfold Facts upd del
      refine forall_congr' fun k => forall_congr' fun hk => ?_
      rw [if_neg (fun e => hu (by rw [← e]; exact hk)), if_neg (fun e => hc k e hk)]
    · rfl
  simp only [hf]

theorem updW_comm {i j : Nat} {oi oj : Oper} {φ : Nat → Option Value} {a : Act} (hij : i ≠ j) (d1 : ∀ d, oi.dst = some d → d ∉ oj.looksAt ops) (d3 : ∀ d, oj.dst = some d → d ∉ oi.looksAt ops) (c1 : i ∉ uses cs j) (c2 : j ∉ uses cs i) (v u : Value) :
    updW ops nd cs j oj (a.put oi.dst v) (updW ops nd cs i oi a φ v) u = updW ops nd cs i oi (a.put oj.dst u) (updW ops nd cs j oj a φ u) v := by
  unfold updW
  rw [wanted_put oj a oi.dst v d1, wanted_put oi a oj.dst u d3]
  split <;> split <;> first | rfl | skip
  funext k
  unfold upd del
  by_cases h1 : k = j
  · subst h1; simp [Ne.symm hij, c2]
  · by_cases h2 : k = i
    · subst h2; simp [h1, c1]
    · simp only [h1, h2, if_false]
      by_cases h3 : k ∈ uses cs j <;> by_cases h4 : k ∈ uses cs i <;> simp [h3, h4]

theorem St.swap {i j : Nat} {K : (Nat → Option Value) → Act → Prop} {φ : Nat → Option Value} {a : Act} (hij : i ≠ j) (hap : ∀ oi oj, ops[i]? = some oi → ops[j]? = some oj → oi.apart ops oj = true)
    (hsel : ∀ (j : Nat) (o : Oper) cs b, ops[j]? = some o → o.op ≠ .select cs b) (hi : i ∉ uses uf j) (hj : j ∉ uses uf i) (c1 : i ∉ uses cs j) (c2 : j ∉ uses cs i) (c3 : ∀ k ∈ uses cs i, k ∉ uses uf j) (c4 : ∀ k ∈ uses cs j, k ∉ uses uf i)
    (h : St P ops w0 nd uf cs σ τ i (fun φ a => St P ops w0 nd uf cs σ τ j K φ a) φ a) : St P ops w0 nd uf cs σ τ j (fun φ a => St P ops w0 nd uf cs σ τ i K φ a) φ a := by
  obtain ⟨oi, hoi, Vi, hVi, ⟨v0, hv0⟩, H⟩ := h
  obtain ⟨oj, hoj, Vj, hVj, hnj, _⟩ := H v0 hv0
  obtain ⟨d1, d2, d3⟩ := Oper.apart_spec (hap oi oj hoi hoj)
  have e1 : ∀ {v V}, Ob P ops w0 nd uf cs σ τ j oj (updW ops nd cs i oi a φ v) (a.put oi.dst v) V ↔ Ob P ops w0 nd uf cs σ τ j oj φ a V := fun {v V} => Ob.apart d1 (fun cs b => hsel j oj cs b hoj) hi c3
  have e2 : ∀ {v V}, Ob P ops w0 nd uf cs σ τ i oi (updW ops nd cs j oj a φ v) (a.put oj.dst v) V ↔ Ob P ops w0 nd uf cs σ τ i oi φ a V := fun {v V} => Ob.apart d3 (fun cs b => hsel i oi cs b hoi) hj c4
  have hVj' := e1.1 hVj
  refine ⟨oj, hoj, Vj, hVj', hnj, fun u hu => ⟨oi, hoi, Vi, e2.2 hVi, ⟨v0, hv0⟩, fun v hv => ?_⟩⟩
  obtain ⟨oj', hoj', Vj2, hVj2, _, H2⟩ := H v hv
  rw [hoj] at hoj'
  obtain rfl := Option.some.inj hoj'
  have : Vj2 = Vj := Ob.unique (e1.1 hVj2) hVj'
  have := H2 u (this ▸ hu)
  rwa [updW_comm hij d1 d3 c1 c2, Act.put_comm a v u d2] at this

/-- Whatever order, till all but the last ones have come up. (h, the first of the last ones, may come up ahead of p.) -/
def wpE (P : Program) (md : Region.Mode) (ops : Array Oper) (w0 : World) (nd : List Nat) (uf cs : List (Nat × List Nat)) (σ : Nat → Value → Prop) (τ : Nat → Value → World → Prop) (p h : Nat) (last : Array Bool) (Q : (Nat → Option Value) → Act → Prop) : Nat → Array Bool → (Nat → Option Value) → Act → Prop
  | 0, listed, φ, a => listed = last ∧ Q φ a
  | fuel + 1, listed, φ, a => Region.ready md ops listed ≠ [] ∧ ∀ i ∈ Region.ready md ops listed, (i ≠ h ∧ St P ops w0 nd uf cs σ τ i (wpE P md ops w0 nd uf cs σ τ p h last Q fuel (listed.setIfInBounds i true)) φ a) ∨
      (i = h ∧ fuel = 0 ∧ listed.setIfInBounds p true = last ∧ p ∈ Region.ready md ops listed ∧ St P ops w0 nd uf cs σ τ p Q φ a)

/-- What has come up has all come up behind what it waits for. -/
def Down (md : Region.Mode) (ops : Array Oper) (listed : Array Bool) : Prop := ∀ j o, ops[j]? = some o → listed.getD j true = true → ∀ e ∈ o.after, Region.binds md e = true → listed.getD e.on false = true
/-- j waits for i, straight or by others. -/
def waits (md : Region.Mode) (ops : Array Oper) : Nat → Nat → Nat → Bool
  | 0, _, _ => false
  | fuel + 1, j, i => match ops[j]? with
    | none => false
    | some o => o.after.any fun e => Region.binds md e && (e.on == i || waits md ops fuel e.on i)
theorem getD_any {listed : Array Bool} {i : Nat} (h : listed.getD i false = true) : listed.getD i true = true := by
  rcases Nat.lt_or_ge i listed.size with h' | h'
  · simp [h'] at h ⊢; exact h
  · simp [Array.getElem?_eq_none h'] at h
theorem waits_spec {listed : Array Bool} (hd : Down md ops listed) {i : Nat} : ∀ (fuel j : Nat), (∀ o, ops[j]? = some o → ∀ e ∈ o.after, Region.binds md e = true → listed.getD e.on false = true) → waits md ops fuel j i = true → listed.getD i false = true
  | 0, _, _, h => by simp [waits] at h
  | fuel + 1, j, hj, h => by
    unfold waits at h
    split at h
    · cases h
    · rename_i o ho
      obtain ⟨e, he, hb⟩ := Array.any_eq_true'.1 h
      simp only [Bool.and_eq_true, Bool.or_eq_true, beq_iff_eq] at hb
      obtain ⟨hb, hb'⟩ := hb
      have h1 := hj o ho e he hb
      rcases hb' with rfl | hb'
      · exact h1
      · exact waits_spec hd fuel e.on (fun o' ho' e' he' hb'' => hd e.on o' ho' (getD_any h1) e' he' hb'') hb'
theorem Down.step {listed : Array Bool} (hd : Down md ops listed) {i : Nat} (hi : i ∈ Region.ready md ops listed) : Down md ops (listed.setIfInBounds i true) := by
  intro j o ho hj e he hb
  refine getD_set_true ?_
  by_cases h : i = j
  · subst h
    obtain ⟨_, o', ho', hall⟩ := mem_ready.1 hi
    rw [ho] at ho'
    obtain rfl := Option.some.inj ho'
    exact hall e he hb
  · rw [getD_set_ne true h] at hj
    exact hd j o ho hj e he hb

theorem set_back {listed last : Array Bool} {i : Nat} (hun : listed.getD i true = false) (h : listed.setIfInBounds i true = last) : last.setIfInBounds i false = listed := by
  rw [← h]
  apply Array.ext
  · simp
  · intro k hk1 hk2
    by_cases hk : k = i
    · subst hk
      simp [hk2] at hun ⊢
      exact hun
    · rw [Array.getElem_setIfInBounds (by simpa using hk2), if_neg (Ne.symm hk), Array.getElem_setIfInBounds hk2, if_neg (Ne.symm hk)]

theorem wpE_first {p h : Nat} {last : Array Bool} {Q : (Nat → Option Value) → Act → Prop} {i : Nat} {oi : Oper} (hi : ops[i]? = some oi) (hsel : ∀ (j : Nat) (o : Oper) cs b, ops[j]? = some o → o.op ≠ .select cs b) (hih : i ≠ h)
    (hend : i ≠ p → Down md ops (last.setIfInBounds i false) → Region.ready md ops (last.setIfInBounds i false) = [i])
    (hendp : i = p → Down md ops (last.setIfInBounds p false) → ∀ j ∈ Region.ready md ops (last.setIfInBounds p false), j = p ∨ j = h)
    (hsec : i ≠ p → Down md ops ((last.setIfInBounds p false).setIfInBounds i false) → h ∉ Region.ready md ops ((last.setIfInBounds p false).setIfInBounds i false))
    (hu : ∀ j k, k ∈ uses uf j → k < ops.size → waits md ops ops.size j k = true) (hc : ∀ j k, k ∈ uses cs j → k < ops.size → waits md ops ops.size j k = true) (hcd : ∀ i j, i ≠ j → ∀ k ∈ uses cs i, k ∉ uses uf j) :
    ∀ (fuel : Nat) (listed : Array Bool) (φ : Nat → Option Value) (a : Act), Down md ops listed →
      (∀ j oj, ops[j]? = some oj → j ≠ i → listed.getD j true = false → (∀ e ∈ oj.after, Region.binds md e = true → e.on ≠ i) → oi.apart ops oj = true) →
      i ∈ Region.ready md ops listed → St P ops w0 nd uf cs σ τ i (wpE P md ops w0 nd uf cs σ τ p h last Q fuel (listed.setIfInBounds i true)) φ a → wpE P md ops w0 nd uf cs σ τ p h last Q (fuel + 1) listed φ a := by
  intro fuel
  induction fuel with
  | zero =>
    intro listed φ a hd _ hr H
    refine ⟨fun h => (by rw [h] at hr; cases hr), fun j hj => ?_⟩
    by_cases hji : j = i
    · subst hji; exact .inl ⟨hih, H⟩
    · have hun := (mem_ready.1 hr).1
      have hl : listed.setIfInBounds i true = last := by
        obtain ⟨_, _, _, _, ⟨v, hv⟩, h0⟩ := H
        exact (h0 v hv).1
      have h1 : last.setIfInBounds i false = listed := set_back hun hl
      by_cases hip : i = p
      · subst hip
        have h2 := hendp rfl
        rw [h1] at h2
        rcases h2 hd j hj with h3 | h3
        · exact absurd h3 hji
        · exact .inr ⟨h3, rfl, hl, hr, St.mono (fun φ a h => h.2) H⟩
      · have h2 := hend hip
        rw [h1] at h2
        rw [h2 hd] at hj
        simp at hj
        exact absurd hj hji
  | succ fuel ih =>
    intro listed φ a hd hfree hr H
    refine ⟨fun h => (by rw [h] at hr; cases hr), fun j hj => ?_⟩
    by_cases hji : j = i
    · subst hji; exact .inl ⟨hih, H⟩
    · obtain ⟨hjun, oj, hoj, hall⟩ := mem_ready.1 hj
      obtain ⟨hiun, oi', hoi', halli⟩ := mem_ready.1 hr
      by_cases hjh : j = h
      · exfalso
        subst hjh
        have key : (listed.setIfInBounds i true).setIfInBounds p true = last ∧ p ∈ Region.ready md ops (listed.setIfInBounds i true) := by
          obtain ⟨_, _, _, _, ⟨v, hv⟩, h0⟩ := H
          rcases (h0 v hv).2 j (ready_mono hj hji) with h1 | h1
          · exact absurd rfl h1.1
          · exact ⟨h1.2.2.1, h1.2.2.2.1⟩
        have hpun := (mem_ready.1 key.2).1
        have hip : i ≠ p := by
          intro e
          subst e
          rcases Nat.lt_or_ge i listed.size with h' | h'
          · simp [h'] at hpun
          · simp [Array.getElem?_eq_none h'] at hpun
        have h1 := set_back hpun key.1
        have h2 : (last.setIfInBounds p false).setIfInBounds i false = listed := by rw [h1]; exact set_back hiun rfl
        have h3 := hsec hip
        rw [h2] at h3
        exact h3 hd hj
      refine .inl ⟨hjh, ?_⟩
      have hun : ∀ {k : Nat}, listed.getD k true = false → listed.getD k false = true → False := fun {k} h0 h1 => by
        rcases Nat.lt_or_ge k listed.size with h' | h'
        · simp [h'] at h0 h1; rw [h0] at h1; cases h1
        · simp [Array.getElem?_eq_none h'] at h1
      have hnot : ∀ e ∈ oj.after, Region.binds md e = true → e.on ≠ i := fun e he hb heq => hun hiun (heq ▸ hall e he hb)
      have hij : i ∉ uses uf j := fun hm => hun hiun (waits_spec hd _ j (fun o ho e he hb => by rw [hoj] at ho; obtain rfl := Option.some.inj ho; exact hall e he hb) (hu j i hm (Array.getElem?_eq_some_iff.1 hoi').1))
      have hji' : j ∉ uses uf i := fun hm => hun hjun (waits_spec hd _ i (fun o ho e he hb => by rw [hoi'] at ho; obtain rfl := Option.some.inj ho; exact halli e he hb) (hu i j hm (Array.getElem?_eq_some_iff.1 hoj).1))
      have cij : i ∉ uses cs j := fun hm => hun hiun (waits_spec hd _ j (fun o ho e he hb => by rw [hoj] at ho; obtain rfl := Option.some.inj ho; exact hall e he hb) (hc j i hm (Array.getElem?_eq_some_iff.1 hoi').1))
      have cji : j ∉ uses cs i := fun hm => hun hjun (waits_spec hd _ i (fun o ho e he hb => by rw [hoi'] at ho; obtain rfl := Option.some.inj ho; exact halli e he hb) (hc i j hm (Array.getElem?_eq_some_iff.1 hoj).1))
      have h1 : St P ops w0 nd uf cs σ τ i (fun φ a => St P ops w0 nd uf cs σ τ j (wpE P md ops w0 nd uf cs σ τ p h last Q fuel ((listed.setIfInBounds i true).setIfInBounds j true)) φ a) φ a := St.mono (fun φ a h => by
        rcases h.2 j (ready_mono hj hji) with h1 | h1
        · exact h1.2
        · exact absurd h1.1 hjh) H
      have h2 := St.swap (Ne.symm hji) (fun oi' oj' h h' => by rw [hi] at h; rw [hoj] at h'; obtain rfl := Option.some.inj h; obtain rfl := Option.some.inj h'; exact hfree j oj hoj hji hjun hnot) hsel hij hji' cij cji (hcd i j (Ne.symm hji)) (hcd j i hji) h1
      have hfree' : ∀ k ok, ops[k]? = some ok → k ≠ i → (listed.setIfInBounds j true).getD k true = false →
          (∀ e ∈ ok.after, Region.binds md e = true → e.on ≠ i) → oi.apart ops ok = true := fun k ok hk hki hun hno => by
        refine hfree k ok hk hki ?_ hno
        by_cases hjk : j = k
        · subst hjk; exact hjun
        · rw [getD_set_ne true hjk] at hun; exact hun
      refine St.mono (fun φ' a' h3 => ih (listed.setIfInBounds j true) φ' a' (hd.step hj) hfree' (ready_mono hr (Ne.symm hji)) ?_) h2
      rw [Array.setIfInBounds_comm _ _ hji]
      exact h3

/-- The one walk. -/
def wpT (P : Program) (ops : Array Oper) (w0 : World) (nd : List Nat) (uf cs : List (Nat × List Nat)) (σ : Nat → Value → Prop) (τ : Nat → Value → World → Prop) (Q : (Nat → Option Value) → Act → Prop) : List Nat → (Nat → Option Value) → Act → Prop
  | [], φ, a => Q φ a
  | i :: rest, φ, a => St P ops w0 nd uf cs σ τ i (wpT P ops w0 nd uf cs σ τ Q rest) φ a

def downB (md : Region.Mode) (ops : Array Oper) (listed : Array Bool) : Bool := (List.range ops.size).all fun j => match ops[j]? with
  | none => true
  | some o => !listed.getD j true || o.after.all fun e => !Region.binds md e || listed.getD e.on false
theorem Down.bool {listed : Array Bool} (h : Down md ops listed) : downB md ops listed = true := by
  unfold downB
  rw [List.all_eq_true]
  intro j _
  cases ho : ops[j]? with
  | none => rfl
  | some o =>
    simp only [Bool.or_eq_true, Bool.not_eq_true', Array.all_eq_true']
    cases hj : listed.getD j true with
    | false => exact .inl rfl
    | true =>
      refine .inr fun e he => ?_
      cases hb : Region.binds md e with
      | false => exact .inl rfl
      | true => exact .inr (h j o ho hj e he hb)
/-- The order fits: each may come up in its turn, is apart from what does not wait for it, and nothing of the last ones may come up ahead of it. -/
def ordB (md : Region.Mode) (ops : Array Oper) (p h : Nat) (last : Array Bool) : List Nat → Array Bool → Bool
  | [], listed => listed == last
  | i :: rest, listed => (Region.ready md ops listed).contains i && Region.free md ops listed i && i != h &&
      (if i = p then (Region.ready md ops (last.setIfInBounds p false)).all fun j => j == p || j == h
       else (Region.ready md ops (last.setIfInBounds i false) == [i] || !downB md ops (last.setIfInBounds i false)) &&
         (!(Region.ready md ops ((last.setIfInBounds p false).setIfInBounds i false)).contains h || !downB md ops ((last.setIfInBounds p false).setIfInBounds i false))) &&
      ordB md ops p h last rest (listed.setIfInBounds i true)

theorem wpE_of_T {p h : Nat} {last : Array Bool} {Q : (Nat → Option Value) → Act → Prop} (hsel : ∀ (j : Nat) (o : Oper) cs b, ops[j]? = some o → o.op ≠ .select cs b) (hu : ∀ j k, k ∈ uses uf j → k < ops.size → waits md ops ops.size j k = true) (hc : ∀ j k, k ∈ uses cs j → k < ops.size → waits md ops ops.size j k = true) (hcd : ∀ i j, i ≠ j → ∀ k ∈ uses cs i, k ∉ uses uf j) :
    ∀ (l : List Nat) (listed : Array Bool) (φ : Nat → Option Value) (a : Act), Down md ops listed → ordB md ops p h last l listed = true → wpT P ops w0 nd uf cs σ τ Q l φ a → wpE P md ops w0 nd uf cs σ τ p h last Q l.length listed φ a
  | [], _, _, _, _, hB, h => ⟨by simpa [ordB] using hB, h⟩
  | i :: l, listed, φ, a, hd, hB, hT => by
    simp only [ordB, Bool.and_eq_true] at hB
    obtain ⟨⟨⟨⟨hr, hf⟩, hih⟩, he⟩, hB'⟩ := hB
    have hr' : i ∈ Region.ready md ops listed := by simpa using hr
    obtain ⟨_, o, ho, _⟩ := mem_ready.1 hr'
    refine wpE_first ho hsel (by simpa using hih) (fun hip hdd => ?_) (fun hip hdd j hj => ?_) (fun hip hdd hm => ?_) hu hc hcd l.length listed φ a hd (Region.free_spec ho hf) hr' (St.mono (fun φ' a' h' => wpE_of_T hsel hu hc hcd l _ φ' a' (hd.step hr') hB' h') hT)
    · rw [if_neg hip] at he
      simp only [Bool.and_eq_true, Bool.or_eq_true, beq_iff_eq] at he
      rcases he.1 with h1 | h1
      · exact h1
      · rw [hdd.bool] at h1; cases h1
    · rw [if_pos hip] at he
      have h1 := List.all_eq_true.1 he j hj
      simpa using h1
    · rw [if_neg hip] at he
      simp only [Bool.and_eq_true, Bool.or_eq_true] at he
      rcases he.2 with h1 | h1
      · simp [hm] at h1
      · rw [hdd.bool] at h1; cases h1

theorem wpAny_of_E {p h : Nat} {last : Array Bool} {Q : Exit → Act → World → Prop} {f2 : Nat} {F : Act → World → Prop} (hτ : ∀ i v w w', τ i v w → Ext w w' → τ i v w')
    (hz : ∀ a w, F a w → wpAny P md ops Q f2 last a w)
    (hh : ∀ (listed : Array Bool) (φ : Nat → Option Value) (a : Act) (w : World), Ext w0 w → (∀ k v, φ k = some v → τ k v w) → listed.setIfInBounds p true = last → p ∈ Region.ready md ops listed → h ∈ Region.ready md ops listed →
      St P ops w0 nd uf cs σ τ p (fun φ a => ∀ w, Ext w0 w → (∀ k v, φ k = some v → τ k v w) → F a w) φ a → wpOp P ops Q h (wpAny P md ops Q f2 (listed.setIfInBounds h true)) a w) :
    ∀ (fuel : Nat) (listed : Array Bool) (φ : Nat → Option Value) (a : Act) (w : World), Ext w0 w → (∀ k v, φ k = some v → τ k v w) →
      wpE P md ops w0 nd uf cs σ τ p h last (fun φ a => ∀ w, Ext w0 w → (∀ k v, φ k = some v → τ k v w) → F a w) fuel listed φ a → wpAny P md ops Q (fuel + f2) listed a w
  | 0, listed, φ, a, w, hw, hf, h => by rw [Nat.zero_add, h.1]; exact hz _ _ (h.2 w hw hf)
  | fuel + 1, listed, φ, a, w, hw, hf, h => by
    rw [Nat.add_right_comm]
    refine ⟨fun h0 => absurd h0 h.1, fun i hi => ?_⟩
    rcases h.2 i hi with hE | ⟨hE1, hE2, hE3, hE4, hE5⟩
    rotate_left
    · subst hE1 hE2
      rw [Nat.zero_add]
      exact hh listed φ a w hw hf hE3 hE4 hi hE5
    obtain ⟨o, ho, V, hV, _, H⟩ := hE.2
    unfold wpOp
    simp only [ho]
    unfold Ob at hV
    split at hV
    · rename_i hwant
      rw [if_pos hwant]
      left
      split at hV
      · rename_i hn
        obtain ⟨rfl, hg⟩ := hV
        have hg := hg w hw (fun k _ v hv => hf k v hv)
        have next : ∀ v w', (Ext w w' ∨ (Ext w0 w' ∧ ∀ k u, k ∉ uses cs i → k ≠ i → τ k u w → τ k u w')) ∧ σ i v ∧ τ i v w' → wpAny P md ops Q (fuel + f2) (listed.setIfInBounds i true) (a.put o.dst v) w' := fun v w' ⟨h1, h2, h3⟩ => by
          refine wpAny_of_E hτ hz hh fuel _ _ _ w' (h1.elim hw.trans And.left) ?_ (H v h2)
          unfold updW
          rw [if_pos ⟨hwant, hn⟩]
          intro k u hk
          unfold upd del at hk
          split at hk
          · rename_i e
            subst e
            obtain rfl := Option.some.inj hk
            exact h3
          · rename_i hki
            split at hk
            · cases hk
            · rename_i hkc
              rcases h1 with h1 | h1
              · exact hτ k u w w' (hf k u hk) h1
              · exact h1.2 k u hkc hki (hf k u hk)
        unfold Oper.wp
        generalize (execOp a.eval o).run P w = r at hg ⊢
        cases r with
        | halt x w' => exact hg.elim
        | ok n w' =>
          cases n <;> simp only [Gives] at hg <;> simp only [Oper.upon]
          case value v => exact next v w' hg
          case enter f args =>
            refine hg.mono fun e w'' ⟨v, he, hr⟩ => ?_
            subst he
            exact next v w'' hr
      · rename_i hn
        obtain ⟨v, rfl, hv⟩ := hV
        have hK := H v rfl
        unfold updW at hK
        rw [if_neg (fun e => hn e.2)] at hK
        unfold Oper.wp
        rw [hv w hw]
        exact wpAny_of_E hτ hz hh fuel _ _ _ w hw hf hK
    · rename_i hwant
      rw [if_neg hwant]
      subst hV
      have hK := H undef rfl
      unfold updW at hK
      rw [if_neg (fun e => hwant e.1)] at hK
      exact wpAny_of_E hτ hz hh fuel _ _ _ w hw hf hK

/-- The last ones come up one behind the other. -/
def seqB (md : Region.Mode) (ops : Array Oper) : List Nat → Array Bool → Bool
  | [], listed => Region.ready md ops listed == []
  | i :: rest, listed => Region.ready md ops listed == [i] && seqB md ops rest (listed.setIfInBounds i true)
theorem wpAny_seq {Q : Exit → Act → World → Prop} : ∀ (hs : List Nat) (listed : Array Bool) (a : Act) (w : World), seqB md ops hs listed = true → wpList P ops Q (hs.filterMap fun i => ops[i]?) a w → wpAny P md ops Q hs.length listed a w
  | [], _, _, _, hB, h => ⟨by simpa [seqB] using hB, h⟩
  | i :: hs, listed, a, w, hB, h => by
    simp only [seqB, Bool.and_eq_true, beq_iff_eq] at hB
    obtain ⟨hr, hB'⟩ := hB
    refine ⟨fun h0 => (by rw [hr] at h0; cases h0), fun j hj => ?_⟩
    rw [hr] at hj
    obtain rfl : j = i := by simpa using hj
    unfold wpOp
    cases ho : ops[j]? with
    | none =>
      simp only [List.filterMap_cons, ho] at h
      exact wpAny_seq hs _ a w hB' h
    | some o =>
      simp only [List.filterMap_cons, ho, wpList] at h
      simp only
      split
      · rename_i hw
        rw [if_pos hw] at h
        exact h.imp (Oper.wp_mono fun a w h => wpAny_seq hs _ a w hB' h) id
      · rename_i hw
        rw [if_neg hw] at h
        exact wpAny_seq hs _ _ w hB' h

def lastOf (n : Nat) (hs : List Nat) : Array Bool := ((List.range n).map fun i => !hs.contains i).toArray
def regB (ops : Array Oper) (p h : Nat) (ord hs : List Nat) (uf cs : List (Nat × List Nat)) : Bool :=
  Region.noSelect ops && ordB .any ops p h (lastOf ops.size hs) ord (Array.replicate ops.size false) && seqB .any ops hs (lastOf ops.size hs) && (ord.length + hs.length == ops.size) && (uf.all fun x => x.2.all fun k => decide (ops.size ≤ k) || waits .any ops ops.size x.1 k) && (cs.all fun x => x.2.all fun k => decide (ops.size ≤ k) || waits .any ops ops.size x.1 k) && cs.all fun x => x.2.all fun k => uf.all fun y => y.1 == x.1 || !y.2.contains k
theorem uses_spec (h : (uf.all fun x => x.2.all fun k => decide (ops.size ≤ k) || waits md ops ops.size x.1 k) = true) : ∀ j k, k ∈ uses uf j → k < ops.size → waits md ops ops.size j k = true := by
  intro j k hk hlt
  unfold uses at hk
  cases hf : uf.find? (·.1 == j) with
  | none => simp [hf] at hk
  | some x =>
    simp only [hf, Option.map_some, Option.getD_some] at hk
    have h1 := List.all_eq_true.1 h x (List.mem_of_find?_eq_some hf)
    have h2 := List.find?_some hf
    simp only [beq_iff_eq] at h2
    rw [← h2]
    have h3 := List.all_eq_true.1 h1 k hk
    rw [decide_eq_false (by omega), Bool.false_or] at h3
    exact h3

theorem uses_mem {uf : List (Nat × List Nat)} {i k : Nat} (h : k ∈ uses uf i) : ∃ x ∈ uf, x.1 = i ∧ k ∈ x.2 := by
  unfold uses at h
  cases hf : uf.find? (·.1 == i) with
  | none => simp [hf] at h
  | some x =>
    simp only [hf, Option.map_some, Option.getD_some] at h
    have h2 := List.find?_some hf
    exact ⟨x, List.mem_of_find?_eq_some hf, by simpa using h2, h⟩
theorem cons_spec {uf cs : List (Nat × List Nat)} (h : (cs.all fun x => x.2.all fun k => uf.all fun y => y.1 == x.1 || !y.2.contains k) = true) : ∀ i j, i ≠ j → ∀ k ∈ uses cs i, k ∉ uses uf j := by
  intro i j hij k hk hk'
  obtain ⟨x, hx, rfl, hkx⟩ := uses_mem hk
  obtain ⟨y, hy, rfl, hky⟩ := uses_mem hk'
  have := List.all_eq_true.1 (List.all_eq_true.1 (List.all_eq_true.1 h x hx) k hkx) y hy
  simp only [Bool.or_eq_true, beq_iff_eq, Bool.not_eq_true', List.contains_eq_mem, decide_eq_false_iff_not] at this
  rcases this with e | e
  · exact hij e.symm
  · exact e hky

theorem wp_region_FW {id : Nat} {l : List Oper} {Q : Exit → Act → World → Prop} {a : Act} {w : World} (p h : Nat) (ord hs nd : List Nat) (uf cs : List (Nat × List Nat)) (σ : Nat → Value → Prop) (τ : Nat → Value → World → Prop) (F : Act → World → Prop)
    (w0 : World) (hw0 : Ext w0 w.drew) (φ0 : Nat → Option Value) (hφ0 : ∀ k v, φ0 k = some v → τ k v w.drew) (hm : P.follows .mixedOrders = true) (hB : regB l.toArray p h ord hs uf cs = true) (hτ : ∀ i v w w', τ i v w → Ext w w' → τ i v w')
    (hz : ∀ a w, F a w → wpAny P .any l.toArray Q hs.length (lastOf l.toArray.size hs) a w)
    (hh : ∀ (listed : Array Bool) (φ : Nat → Option Value) (a : Act) (w1 : World), Ext w0 w1 → (∀ k v, φ k = some v → τ k v w1) → listed.setIfInBounds p true = lastOf l.toArray.size hs → p ∈ Region.ready .any l.toArray listed → h ∈ Region.ready .any l.toArray listed →
      St P l.toArray w0 nd uf cs σ τ p (fun φ a => ∀ w1, Ext w0 w1 → (∀ k v, φ k = some v → τ k v w1) → F a w1) φ a → wpOp P l.toArray Q h (wpAny P .any l.toArray Q hs.length (listed.setIfInBounds h true)) a w1)
    (hT : wpT P l.toArray w0 nd uf cs σ τ (fun φ a' => ∀ w', Ext w0 w' → (∀ k v, φ k = some v → τ k v w') → F a' w') ord φ0 a) : (Code.region id l.toArray true).wp P Q a w := by
  simp only [regB, Bool.and_eq_true, beq_iff_eq] at hB
  obtain ⟨⟨⟨⟨⟨⟨h1, h2⟩, h3⟩, h4⟩, h5⟩, h6⟩, h7⟩ := hB
  refine wp_region_any hm ?_
  rw [← h4]
  have hw : ({ w with drawn := w.drawn + 1 } : World) = w.drew := rfl
  rw [hw]
  refine wpAny_of_E (w0 := w0) (nd := nd) (uf := uf) (cs := cs) (σ := σ) (p := p) (h := h) (last := lastOf l.toArray.size hs) hτ hz hh ord.length _ φ0 a w.drew hw0 hφ0 ?_
  rw [h4]
  refine wpE_of_T (Region.noSelect_spec h1) (uses_spec h5) (uses_spec h6) (cons_spec h7) ord _ _ _ ?_ h2 hT
  intro j o ho hj
  have hlt := (Array.getElem?_eq_some_iff.1 ho).1
  rw [Array.getD_eq_getD_getElem?, Array.getElem?_replicate, if_pos hlt] at hj
  cases hj

theorem wp_region_F {id : Nat} {l : List Oper} {Q : Exit → Act → World → Prop} {a : Act} {w : World} (p h : Nat) (ord hs nd : List Nat) (uf cs : List (Nat × List Nat)) (σ : Nat → Value → Prop) (τ : Nat → Value → World → Prop) (F : Act → World → Prop)
    (hm : P.follows .mixedOrders = true) (hB : regB l.toArray p h ord hs uf cs = true) (hτ : ∀ i v w w', τ i v w → Ext w w' → τ i v w')
    (hz : ∀ a w, F a w → wpAny P .any l.toArray Q hs.length (lastOf l.toArray.size hs) a w)
    (hh : ∀ (listed : Array Bool) (φ : Nat → Option Value) (a : Act) (w1 : World), Ext w.drew w1 → (∀ k v, φ k = some v → τ k v w1) → listed.setIfInBounds p true = lastOf l.toArray.size hs → p ∈ Region.ready .any l.toArray listed → h ∈ Region.ready .any l.toArray listed →
      St P l.toArray w.drew nd uf cs σ τ p (fun φ a => ∀ w1, Ext w.drew w1 → (∀ k v, φ k = some v → τ k v w1) → F a w1) φ a → wpOp P l.toArray Q h (wpAny P .any l.toArray Q hs.length (listed.setIfInBounds h true)) a w1)
    (hT : wpT P l.toArray w.drew nd uf cs σ τ (fun φ a' => ∀ w', Ext w.drew w' → (∀ k v, φ k = some v → τ k v w') → F a' w') ord (fun _ => none) a) : (Code.region id l.toArray true).wp P Q a w :=
  wp_region_FW p h ord hs nd uf cs σ τ F w.drew (Ext.refl _) (fun _ => none) (fun k v hk => by cases hk) hm hB hτ hz hh hT

/-- ONE WALK SERVES EVERY ORDER. -/
theorem wp_region_T {id : Nat} {l : List Oper} {Q : Exit → Act → World → Prop} {a : Act} {w : World} (ord hs nd : List Nat) (uf : List (Nat × List Nat)) (σ : Nat → Value → Prop) (τ : Nat → Value → World → Prop) {cs : List (Nat × List Nat)}
    (hm : P.follows .mixedOrders = true) (hB : regB l.toArray l.length l.length ord hs uf cs = true) (hτ : ∀ i v w w', τ i v w → Ext w w' → τ i v w')
    (h : wpT P l.toArray w.drew nd uf cs σ τ (fun φ a' => ∀ w', Ext w.drew w' → (∀ k v, φ k = some v → τ k v w') → wpList P l.toArray Q (hs.filterMap fun i => l.toArray[i]?) a' w') ord (fun _ => none) a) : (Code.region id l.toArray true).wp P Q a w := by
  have h3 : seqB .any l.toArray hs (lastOf l.toArray.size hs) = true := by
    simp only [regB, Bool.and_eq_true, beq_iff_eq] at hB
    exact hB.1.1.1.1.2
  refine wp_region_F l.length l.length ord hs nd uf cs σ τ (fun a w => wpList P l.toArray Q (hs.filterMap fun i => l.toArray[i]?) a w) hm hB hτ (fun a w h => wpAny_seq hs _ a w h3 h) (fun listed φ a w _ _ _ _ hr _ => ?_) h
  obtain ⟨_, o, ho, _⟩ := mem_ready.1 hr
  simp at ho

/-- ONE WALK SERVES EVERY ORDER; from an older world on, with facts on what has come since. -/
theorem wp_region_TW {id : Nat} {l : List Oper} {Q : Exit → Act → World → Prop} {a : Act} {w : World} (ord hs nd : List Nat) (uf : List (Nat × List Nat)) (σ : Nat → Value → Prop) (τ : Nat → Value → World → Prop) {cs : List (Nat × List Nat)}
    (w0 : World) (hw0 : Ext w0 w.drew) (φ0 : Nat → Option Value) (hφ0 : ∀ k v, φ0 k = some v → τ k v w.drew) (hm : P.follows .mixedOrders = true) (hB : regB l.toArray l.length l.length ord hs uf cs = true) (hτ : ∀ i v w w', τ i v w → Ext w w' → τ i v w')
    (h : wpT P l.toArray w0 nd uf cs σ τ (fun φ a' => ∀ w', Ext w0 w' → (∀ k v, φ k = some v → τ k v w') → wpList P l.toArray Q (hs.filterMap fun i => l.toArray[i]?) a' w') ord φ0 a) : (Code.region id l.toArray true).wp P Q a w := by
  have h3 : seqB .any l.toArray hs (lastOf l.toArray.size hs) = true := by
    simp only [regB, Bool.and_eq_true, beq_iff_eq] at hB
    exact hB.1.1.1.1.2
  refine wp_region_FW l.length l.length ord hs nd uf cs σ τ (fun a w => wpList P l.toArray Q (hs.filterMap fun i => l.toArray[i]?) a w) w0 hw0 φ0 hφ0 hm hB hτ (fun a w h => wpAny_seq hs _ a w h3 h) (fun listed φ a w _ _ _ _ hr _ => ?_) h
  obtain ⟨_, o, ho, _⟩ := mem_ready.1 hr
  simp at ho

/-- The first of the last ones, h, runs through, and may come up ahead of p. -/
def floatB (ops : Array Oper) (p h : Nat) (rest nd : List Nat) : Bool :=
  let last := lastOf ops.size (h :: rest)
  !nd.contains p && p != h && (Region.ready .any ops ((last.setIfInBounds p false).setIfInBounds h true) == [p]) && match ops[p]?, ops[h]? with
  | some op, some oh => op.apart ops oh && oh.guard.isNone
  | _, _ => false
def Fl (P : Program) (ops : Array Oper) (Q : Exit → Act → World → Prop) (h : Nat) (rest : List Nat) (w0 : World) (a : Act) (w : World) : Prop :=
  ∃ o w2, ops[h]? = some o ∧ (execOp a.eval o).run P w = .ok .skip w2 ∧ Ext w0 w2 ∧ wpList P ops Q (rest.filterMap fun i => ops[i]?) (a.put o.dst undef) w2
theorem wp_region_Fl {id : Nat} {l : List Oper} {Q : Exit → Act → World → Prop} {a : Act} {w : World} (p h : Nat) (ord rest nd : List Nat) (uf : List (Nat × List Nat)) (σ : Nat → Value → Prop) (τ : Nat → Value → World → Prop) {cs : List (Nat × List Nat)}
    (hm : P.follows .mixedOrders = true) (hB : regB l.toArray p h ord (h :: rest) uf cs = true) (hF : floatB l.toArray p h rest nd = true) (hτ : ∀ i v w w', τ i v w → Ext w w' → τ i v w')
    (hT : wpT P l.toArray w.drew nd uf cs σ τ (fun φ a' => ∀ w', Ext w.drew w' → (∀ k v, φ k = some v → τ k v w') → Fl P l.toArray Q h rest w.drew a' w') ord (fun _ => none) a) : (Code.region id l.toArray true).wp P Q a w := by
  have hB' := hB
  simp only [regB, Bool.and_eq_true, beq_iff_eq] at hB'
  obtain ⟨⟨⟨⟨⟨⟨h1, _⟩, h3⟩, _⟩, _⟩, _⟩, _⟩ := hB'
  have hsel := Region.noSelect_spec h1
  simp only [floatB, Bool.and_eq_true, beq_iff_eq] at hF
  obtain ⟨⟨⟨f1, f2⟩, f3⟩, f4⟩ := hF
  have wantedN : ∀ (o : Oper) (a : Act), o.guard = none → Region.wanted o (yielded l.toArray a.tmps) = true := fun o a hg => by simp [Region.wanted, hg]
  simp only [seqB, Bool.and_eq_true, beq_iff_eq] at h3
  refine wp_region_F p h ord (h :: rest) nd uf cs σ τ (Fl P l.toArray Q h rest w.drew) hm hB hτ (fun a w1 hf => ?_) (fun listed φ a w1 hx hfa hl hp hr hS => ?_) hT
  · obtain ⟨o, w2, ho, hrun, _, hK⟩ := hf
    have hg : o.guard = none := by
      cases hp' : l.toArray[p]? with
      | none => rw [hp'] at f4; simp at f4
      | some op => rw [hp', ho] at f4; simp at f4; exact f4.2
    refine ⟨fun h0 => (by rw [h3.1] at h0; cases h0), fun j hj => ?_⟩
    rw [h3.1] at hj
    obtain rfl : j = h := by simpa using hj
    unfold wpOp
    simp only [ho]
    rw [if_pos (wantedN o a hg)]
    left
    unfold Oper.wp
    rw [hrun]
    exact wpAny_seq rest _ _ w2 h3.2 hK
  · obtain ⟨op, hop, V, hV, ⟨v0, hv0⟩, H⟩ := hS
    obtain ⟨_, oh, hoh, _⟩ := mem_ready.1 hr
    rw [hop, hoh] at f4
    simp only [Bool.and_eq_true] at f4
    obtain ⟨fa, fg⟩ := f4
    have hg : oh.guard = none := by simpa using fg
    obtain ⟨d1, d2, d3⟩ := Oper.apart_spec fa
    have hn : nd.contains p = false := by simpa using f1
    have hup : updW l.toArray nd cs p op a φ v0 = φ := by unfold updW; rw [if_neg (by rw [hn]; simp)]
    obtain ⟨o', w2, ho', hrun, hx2, hK⟩ := H v0 hv0 w1 hx (by rw [hup]; exact hfa)
    rw [hoh] at ho'
    obtain rfl := Option.some.inj ho'
    rw [execOp_put oh (fun cs b => hsel h oh cs b hoh) a op.dst v0 d1] at hrun
    unfold wpOp
    simp only [hoh]
    rw [if_pos (wantedN oh a hg)]
    left
    unfold Oper.wp
    rw [hrun]
    have hpun := (mem_ready.1 hp).1
    have hback := set_back hpun hl
    have hrdy : Region.ready .any l.toArray (listed.setIfInBounds h true) = [p] := by rw [← hback]; exact f3
    have hpq : p ≠ h := by simpa using f2
    show wpAny P .any l.toArray Q (rest.length + 1) (listed.setIfInBounds h true) (a.put oh.dst undef) w2
    refine ⟨fun h0 => (by rw [hrdy] at h0; cases h0), fun j hj => ?_⟩
    rw [hrdy] at hj
    obtain rfl : j = p := by simpa using hj
    have hset : (listed.setIfInBounds h true).setIfInBounds j true = (lastOf l.toArray.size (h :: rest)).setIfInBounds h true := by rw [Array.setIfInBounds_comm _ _ (Ne.symm hpq), hl]
    rw [hset]
    have hK' : wpAny P .any l.toArray Q rest.length ((lastOf l.toArray.size (h :: rest)).setIfInBounds h true) ((a.put oh.dst undef).put op.dst v0) w2 := by
      rw [← Act.put_comm a v0 undef d2]
      exact wpAny_seq rest _ _ w2 h3.2 hK
    unfold wpOp
    simp only [hop]
    rw [wanted_put op a oh.dst undef d3]
    unfold Ob at hV
    split at hV
    · rename_i hw
      rw [if_pos hw]
      left
      rw [if_neg (by rw [hn]; simp)] at hV
      obtain ⟨u, rfl, hu⟩ := hV
      obtain rfl : v0 = u := hv0
      unfold Oper.wp
      rw [execOp_put op (fun cs b => hsel j op cs b hop) a oh.dst undef d3, hu w2 hx2]
      exact hK'
    · rename_i hw
      rw [if_neg hw]
      subst hV
      obtain rfl : v0 = undef := hv0
      exact hK'

theorem wp_region_FlW {id : Nat} {l : List Oper} {Q : Exit → Act → World → Prop} {a : Act} {w : World} (p h : Nat) (ord rest nd : List Nat) (uf : List (Nat × List Nat)) (σ : Nat → Value → Prop) (τ : Nat → Value → World → Prop) {cs : List (Nat × List Nat)}
    (w0 : World) (hw0 : Ext w0 w.drew) (φ0 : Nat → Option Value) (hφ0 : ∀ k v, φ0 k = some v → τ k v w.drew) (hm : P.follows .mixedOrders = true) (hB : regB l.toArray p h ord (h :: rest) uf cs = true) (hF : floatB l.toArray p h rest nd = true) (hτ : ∀ i v w w', τ i v w → Ext w w' → τ i v w')
    (hT : wpT P l.toArray w0 nd uf cs σ τ (fun φ a' => ∀ w', Ext w0 w' → (∀ k v, φ k = some v → τ k v w') → Fl P l.toArray Q h rest w0 a' w') ord φ0 a) : (Code.region id l.toArray true).wp P Q a w := by
  have hB' := hB
  simp only [regB, Bool.and_eq_true, beq_iff_eq] at hB'
  obtain ⟨⟨⟨⟨⟨⟨h1, _⟩, h3⟩, _⟩, _⟩, _⟩, _⟩ := hB'
  have hsel := Region.noSelect_spec h1
  simp only [floatB, Bool.and_eq_true, beq_iff_eq] at hF
  obtain ⟨⟨⟨f1, f2⟩, f3⟩, f4⟩ := hF
  have wantedN : ∀ (o : Oper) (a : Act), o.guard = none → Region.wanted o (yielded l.toArray a.tmps) = true := fun o a hg => by simp [Region.wanted, hg]
  simp only [seqB, Bool.and_eq_true, beq_iff_eq] at h3
  refine wp_region_FW p h ord (h :: rest) nd uf cs σ τ (Fl P l.toArray Q h rest w0) w0 hw0 φ0 hφ0 hm hB hτ (fun a w1 hf => ?_) (fun listed φ a w1 hx hfa hl hp hr hS => ?_) hT
  · obtain ⟨o, w2, ho, hrun, _, hK⟩ := hf
    have hg : o.guard = none := by
      cases hp' : l.toArray[p]? with
      | none => rw [hp'] at f4; simp at f4
      | some op => rw [hp', ho] at f4; simp at f4; exact f4.2
    refine ⟨fun h0 => (by rw [h3.1] at h0; cases h0), fun j hj => ?_⟩
    rw [h3.1] at hj
    obtain rfl : j = h := by simpa using hj
    unfold wpOp
    simp only [ho]
    rw [if_pos (wantedN o a hg)]
    left
    unfold Oper.wp
    rw [hrun]
    exact wpAny_seq rest _ _ w2 h3.2 hK
  · obtain ⟨op, hop, V, hV, ⟨v0, hv0⟩, H⟩ := hS
    obtain ⟨_, oh, hoh, _⟩ := mem_ready.1 hr
    rw [hop, hoh] at f4
    simp only [Bool.and_eq_true] at f4
    obtain ⟨fa, fg⟩ := f4
    have hg : oh.guard = none := by simpa using fg
    obtain ⟨d1, d2, d3⟩ := Oper.apart_spec fa
    have hn : nd.contains p = false := by simpa using f1
    have hup : updW l.toArray nd cs p op a φ v0 = φ := by unfold updW; rw [if_neg (by rw [hn]; simp)]
    obtain ⟨o', w2, ho', hrun, hx2, hK⟩ := H v0 hv0 w1 hx (by rw [hup]; exact hfa)
    rw [hoh] at ho'
    obtain rfl := Option.some.inj ho'
    rw [execOp_put oh (fun cs b => hsel h oh cs b hoh) a op.dst v0 d1] at hrun
    unfold wpOp
    simp only [hoh]
    rw [if_pos (wantedN oh a hg)]
    left
    unfold Oper.wp
    rw [hrun]
    have hpun := (mem_ready.1 hp).1
    have hback := set_back hpun hl
    have hrdy : Region.ready .any l.toArray (listed.setIfInBounds h true) = [p] := by rw [← hback]; exact f3
    have hpq : p ≠ h := by simpa using f2
    show wpAny P .any l.toArray Q (rest.length + 1) (listed.setIfInBounds h true) (a.put oh.dst undef) w2
    refine ⟨fun h0 => (by rw [hrdy] at h0; cases h0), fun j hj => ?_⟩
    rw [hrdy] at hj
    obtain rfl : j = p := by simpa using hj
    have hset : (listed.setIfInBounds h true).setIfInBounds j true = (lastOf l.toArray.size (h :: rest)).setIfInBounds h true := by rw [Array.setIfInBounds_comm _ _ (Ne.symm hpq), hl]
    rw [hset]
    have hK' : wpAny P .any l.toArray Q rest.length ((lastOf l.toArray.size (h :: rest)).setIfInBounds h true) ((a.put oh.dst undef).put op.dst v0) w2 := by
      rw [← Act.put_comm a v0 undef d2]
      exact wpAny_seq rest _ _ w2 h3.2 hK
    unfold wpOp
    simp only [hop]
    rw [wanted_put op a oh.dst undef d3]
    unfold Ob at hV
    split at hV
    · rename_i hw
      rw [if_pos hw]
      left
      rw [if_neg (by rw [hn]; simp)] at hV
      obtain ⟨u, rfl, hu⟩ := hV
      obtain rfl : v0 = u := hv0
      unfold Oper.wp
      rw [execOp_put op (fun cs b => hsel j op cs b hop) a oh.dst undef d3, hu w2 hx2]
      exact hK'
    · rename_i hw
      rw [if_neg hw]
      subst hV
      obtain rfl : v0 = undef := hv0
      exact hK'

/-! ### The steps -/
section
variable {Q : (Nat → Option Value) → Act → Prop} {rest : List Nat} {i : Nat} {o : Oper} {φ : Nat → Option Value} {a : Act}
theorem wpT_nil (h : Q φ a) : wpT P ops w0 nd uf cs σ τ Q [] φ a := h
theorem wpT_det {v : Value} (ho : ops[i]? = some o) (hw : Region.wanted o (yielded ops a.tmps) = true) (hn : nd.contains i = false) (h : ∀ w, Ext w0 w → (execOp a.eval o).run P w = .ok (.value v) w)
    (hK : wpT P ops w0 nd uf cs σ τ Q rest φ (a.put o.dst v)) : wpT P ops w0 nd uf cs σ τ Q (i :: rest) φ a :=
  ⟨o, ho, fun u => u = v, by unfold Ob; rw [if_pos hw, if_neg (by rw [hn]; simp)]; exact ⟨v, rfl, h⟩, ⟨v, rfl⟩, fun u hu => by
    subst hu
    unfold updW
    rw [if_neg (by rw [hn]; simp)]
    exact hK⟩
theorem wpT_skip (ho : ops[i]? = some o) (hw : Region.wanted o (yielded ops a.tmps) = false) (hK : wpT P ops w0 nd uf cs σ τ Q rest φ (a.put o.dst undef)) : wpT P ops w0 nd uf cs σ τ Q (i :: rest) φ a :=
  ⟨o, ho, fun u => u = undef, by unfold Ob; rw [if_neg (by rw [hw]; simp)], ⟨undef, rfl⟩, fun u hu => by
    subst hu
    unfold updW
    rw [if_neg (by rw [hw]; simp)]
    exact hK⟩
theorem wpT_nd (ho : ops[i]? = some o) (hw : Region.wanted o (yielded ops a.tmps) = true) (hn : nd.contains i = true)
    (h : ∀ w, Ext w0 w → Facts τ (uses uf i) φ w → ∀ R : Value → World → Prop, (∀ v w', Ext w w' → σ i v → τ i v w' → R v w') → Gives P R ((execOp a.eval o).run P w)) (hv : ∃ v, σ i v)
    (hK : ∀ v, σ i v → wpT P ops w0 nd uf cs σ τ Q rest (upd (del φ (uses cs i)) i v) (a.put o.dst v)) : wpT P ops w0 nd uf cs σ τ Q (i :: rest) φ a :=
  ⟨o, ho, σ i, by unfold Ob; rw [if_pos hw, if_pos hn]; exact ⟨rfl, fun w h1 h2 => h w h1 h2 _ fun v w' a b c => ⟨.inl a, b, c⟩⟩, hv, fun u hu => by
    unfold updW
    rw [if_pos ⟨hw, hn⟩]
    exact hK u hu⟩
/-- The same for one that writes to what earlier results of the region own: it spoils the facts on these alone. -/
theorem wpT_mv (ho : ops[i]? = some o) (hw : Region.wanted o (yielded ops a.tmps) = true) (hn : nd.contains i = true)
    (h : ∀ w, Ext w0 w → Facts τ (uses uf i) φ w → ∀ R : Value → World → Prop, (∀ v w', Ext w0 w' → (∀ k u, k ∉ uses cs i → k ≠ i → τ k u w → τ k u w') → σ i v → τ i v w' → R v w') → Gives P R ((execOp a.eval o).run P w)) (hv : ∃ v, σ i v)
    (hK : ∀ v, σ i v → wpT P ops w0 nd uf cs σ τ Q rest (upd (del φ (uses cs i)) i v) (a.put o.dst v)) : wpT P ops w0 nd uf cs σ τ Q (i :: rest) φ a :=
  ⟨o, ho, σ i, by unfold Ob; rw [if_pos hw, if_pos hn]; exact ⟨rfl, fun w h1 h2 => h w h1 h2 _ fun v w' a b c d => ⟨.inr ⟨a, b⟩, c, d⟩⟩, hv, fun u hu => by
    unfold updW
    rw [if_pos ⟨hw, hn⟩]
    exact hK u hu⟩
end
end

/-- Facts from ahead of a region stand under numbers that no operation of it has. -/
def phi (l : List Nat) : Nat → Option Value := fun k => if l.contains k then some undef else none
def allOf (τ : Nat → Value → World → Prop) (w : World) : List Nat → Prop
  | [] => True
  | k :: l => τ k undef w ∧ allOf τ w l
theorem phi_all {τ : Nat → Value → World → Prop} {w : World} {l : List Nat} (h : allOf τ w l) : ∀ k v, phi l k = some v → τ k v w := by
  intro k v hk
  unfold phi at hk
  split at hk
  · rename_i hc
    obtain rfl := Option.some.inj hk
    rw [List.contains_eq_mem] at hc
    have hm : k ∈ l := by simpa using hc
    clear hk hc
    induction l with
    | nil => cases hm
    | cons x l ih =>
      rcases List.mem_cons.1 hm with rfl | hm
      · exact h.1
      · exact ih h.2 hm
  · cases hk

end Go.Proofs.Ytkifpligpobiaaa.D

namespace Go.Proofs.Ytkifpligpobiaaa.D
open Go.RowKit

theorem wpList_app1 {P : Program} {ops : Array Oper} {rest : List Oper} {o : Oper} {a : Act} {Q : Exit → Act → World → Prop} (hgd : o.guard = none) (s x : Operand) (t : TypeId)
    (ho : o.op = .call { callee := .builtin .append, args := #[s, x], argTypes := #[t, t] })
    (W : World) (base : Nat) (e : TypeId) (z : Value) (bytes : Nat) (ht : P.underlying t = some (.slice e)) (hi : (P.info? e).map (fun i => (i.zero, i.size, i.bytes)) = some (some z, 1, bytes)) (hz : z.cells.size = 1) (hby : bytes ≤ 16)
    (v : Value) (vs : List Value) (hs : a.eval s = v) (g : Nat) (y : Value) (hx : a.eval x = .slice (some ⟨g, 0, none⟩) 1 1) (hg : One W (.slice (some ⟨g, 0, none⟩) 1 1) y e) (hown : Own W base e v vs) (hy : y.oneCell' = true) (hl : vs.length + 1 ≤ 1048576) (hb : base ≤ W.heap.size)
    (h : ∀ A k w', Own w' base e (.slice A (vs.length + 1) k) (vs ++ [y]) → Wr W w' v → W.drawn ≤ w'.drawn → wpList P ops Q rest (a.put o.dst (.slice A (vs.length + 1) k)) w') :
    wpList P ops Q (o :: rest) a W := by
  obtain ⟨i0, hi0, hz0, hz1, hz2⟩ := info_parts hi
  obtain ⟨v', w', hr, h2, h3, h4, h5⟩ := run_append_own_at (P := P) W base t o.type e i0 z 1 bytes ht hi0 hz0 hz1 hz2 hz (by decide) v vs.length vs hown.row ⟨g, 0, none⟩ 1 1 [y] rfl (by
    intro j u hj
    match j, hj with
    | 0, hj =>
      simp at hj
      subst hj
      exact (hg g rfl).cell 0 rfl) (by intro u hu; simp at hu; subst hu; exact hy) (by unfold maxLen; omega) (Nat.le_trans (Nat.mul_le_mul_left _ hby) (by omega)) hb
  have ho' : Own w' base e v' (vs ++ [y]) := ⟨by simpa using h2, by simp; omega⟩
  obtain ⟨A, k, e1, _⟩ := ho'.rds
  rw [List.length_append] at e1
  subst e1
  have hd := run_drawn _ _ _ _ hr
  refine wpList_plain hgd fun K hK => ?_
  unfold Oper.wp
  simp [execOp, ho, resolve, invoke, builtin, hs, hx, hr, Result.andThen]
  exact hK _ _ (h A k w' ho' h3 hd)

def RetIL (w : World) (xs : List Int) (e : Ending) (w' : World) : Prop := ∃ g c, e = .returned (.slice (some ⟨g, 0, none⟩) xs.length c) ∧ Own w' w.heap.size 2 (.slice (some ⟨g, 0, none⟩) xs.length c) (ints xs) ∧ Ext w w'

set_option maxRecDepth 20000 in
set_option maxHeartbeats 2000000 in
theorem list_any (m : Nat) (hm : m < 4294967296) (w : World) : Calls Try.prog 104 #[.int .u64 m] w (RetIL w (natI (lsB 64 fun k => m.testBit k))) := by
  go_enter Try.func104, Try.ntmps104
  go_wp2_with fail
  go_loopw [3, 6] (fun u v wr => ∃ k : Nat, k ≤ 64 ∧ v = .int .i64 k ∧ ∃ A n c, n = (lsB k fun k => m.testBit k).length ∧ u = .slice A n c ∧ (∃ g, A = some ⟨g, 0, none⟩) ∧ Own wr w.heap.size 2 (.slice A n c) (ints (natI (lsB k fun k => m.testBit k))) ∧ Ext w wr) (fun _ v _ => 64 - (intOf v).toNat)
  case atStart => exact ⟨0, Nat.zero_le _, rfl, _, 0, 0, rfl, rfl, ⟨_, rfl⟩, Own.empty _ _, (Ext.refl _).alloc _⟩
  case round =>
    obtain ⟨k, hk, rfl, A, n, c, hn, rfl, ha, ho, hx⟩ := hrel
    by_cases hlt : k < 64
    · have hb := bit32 hm k
      have hn64 := lsB_len k fun k => m.testBit k
      rw [← hn] at hn64
      have Hn := Lib.hid hn
      clear hn
      cases ht : m.testBit k with
      | true =>
        rw [ht] at hb
        have He := Lib.hid (lsB_yes (k := k) (f := fun k => m.testBit k) ht)
        clear ht
        have ho' := ho.ext ((Ext.refl wr).alloc (.cells #[.int .i64 k] 2)).1
        have hsz := hx.1.size
        have hl := ho.len
        go_wp2_with (at_builtin; go_loud (refine wpList_app1 rfl _ _ _ rfl (wr.alloc (.cells #[.int .i64 k] 2)) w.heap.size 2 (.int .i64 0) 8 Try.underlying22 info_i64 rfl (by decide) (.slice A n c) (ints (natI (lsB k fun k => m.testBit k))) rfl wr.heap.size (.int .i64 k) rfl (One.new _ _ _) ho' rfl (by omega) (by simp; omega) ?_); rw [hl]; intro A' c' w3 h5 h6 h7)
        go_roundw
        case rel =>
          refine ⟨k + 1, by omega, by go_num, A', n + 1, c', by rw [He.out, List.length_append, ← Hn.out]; rfl, rfl, (h5.head (Nat.succ_pos _)).imp fun _ h => h.1, ?_, h6.ext (hx.alloc _).1 ho', Nat.le_trans hx.2 h7⟩
          rw [He.out, natI_append, ints_append]
          exact h5
        case measure => simp [intOf]; omega
      | false =>
        rw [ht] at hb
        have He := Lib.hid (lsB_no (k := k) (f := fun k => m.testBit k) ht)
        clear ht
        go_wp2_with fail
        go_roundw
        case rel => exact ⟨k + 1, by omega, by go_num, A, n, c, by rw [He.out]; exact Hn.out, rfl, ha, by rw [He.out]; exact ho, hx⟩
        case measure => simp [intOf]; omega
    · obtain rfl : k = 64 := by omega
      rw [← natI_length] at hn
      subst hn
      obtain ⟨ga, rfl⟩ := ha
      go_wp2_with fail
      go_ret
      exact ⟨ga, c, rfl, ho, hx⟩
theorem list_msk (n : Nat) (f : Nat → Bool) (hn : n ≤ 32) (w : World) : Calls Try.prog 104 #[.int .u64 (msk n f : Nat)] w (RetIL w (natI (lsB n f))) := by
  have h := list_any (msk n f) (msk_lt32 hn f) w
  rw [lsB_msk n f (by omega)] at h
  exact h

set_option maxRecDepth 20000 in
set_option maxHeartbeats 1000000 in
theorem degree_anyD (n : Nat) (f : Nat → Bool) (hn : n ≤ 32) (w : World) : Calls Try.prog 101 #[.int .u64 (msk n f : Nat)] w fun e w' => e = .returned (.int .i64 (lsB n f).length) ∧ Ext w w' := by
  have hn64 := lsB_len n f
  obtain ⟨m, hm⟩ : ∃ m, m = msk n f := ⟨_, rfl⟩
  have hl : Hid (Calls Try.prog 104 #[.int .u64 m] w (RetIL w (natI (lsB n f)))) := by rw [hm]; exact list_msk n f hn w
  rw [← hm]
  clear hm
  go_enter Try.func101, Try.ntmps101
  go_wp2_with fail
  refine hl.out.mono ?_
  rintro e w1 ⟨A, c, rfl, ho, hx⟩
  rw [natI_length]
  go_wp2_with fail
  refine (length_any (some ⟨A, 0, none⟩) _ c (by omega) _).mono ?_
  rintro e w2 ⟨rfl, rfl⟩
  go_wp2_with fail
  go_ret
  exact ⟨rfl, hx⟩

set_option maxRecDepth 20000 in
set_option maxHeartbeats 4000000 in
theorem breadth1_any (N : Nat) (B : Grf) (hn32 : N ≤ 32) (ad : Addr) (gc pb i k : Nat) (hi : i < N) (hk : k < N) (w : World) (hp : w.cell? ⟨pb, 0, none⟩ = some (.slice (some ad) N gc)) (hg : Rds w (some ad) N (u64s (gl N B))) :
    Calls Try.prog 98 #[.int .i64 i, .int .i64 k, .pointer (some ⟨pb, 0, none⟩)] w fun e w' => e = .returned (.int .i64 (cmpD (degB N B) i k)) ∧ Ext w w' := by
  obtain ⟨ad', e', hcell⟩ := hg.at' (by omega)
  obtain rfl := Option.some.inj e'
  have h1 := hcell i hi
  have h2 := hcell k hk
  rw [u64s_get (by rw [gl_length]; exact hi), gl_at _ hi] at h1
  rw [u64s_get (by rw [gl_length]; exact hk), gl_at _ hk] at h2
  have hiI : (i : Int) < N := by omega
  have hkI : (k : Int) < N := by omega
  clear e' hcell
  have HR : Hid (orI (cmpI (degB N B i : Nat) (degB N B k : Nat)) (cmpI (i : Int) (k : Int)) = cmpD (degB N B) i k) := by show _ = _; rfl
  rw [← HR.out]
  have HD1 : Hid (∀ W, Calls Try.prog 101 #[.int .u64 (msk N (B i) : Nat)] W fun e w' => e = .returned (.int .i64 (degB N B i : Nat)) ∧ Ext W w') := by show ∀ W, _; exact fun W => degree_anyD N (B i) hn32 W
  have HD2 : Hid (∀ W, Calls Try.prog 101 #[.int .u64 (msk N (B k) : Nat)] W fun e w' => e = .returned (.int .i64 (degB N B k : Nat)) ∧ Ext W w') := by show ∀ W, _; exact fun W => degree_anyD N (B k) hn32 W
  obtain ⟨m1, hm1⟩ : ∃ m1, m1 = msk N (B i) := ⟨_, rfl⟩
  obtain ⟨m2, hm2⟩ : ∃ m2, m2 = msk N (B k) := ⟨_, rfl⟩
  obtain ⟨d1, hd1⟩ : ∃ d1, d1 = degB N B i := ⟨_, rfl⟩
  obtain ⟨d2, hd2⟩ : ∃ d2, d2 = degB N B k := ⟨_, rfl⟩
  rw [← hm1] at h1 HD1
  rw [← hm2] at h2 HD2
  rw [← hd1] at HD1
  rw [← hd2] at HD2
  rw [← hd1, ← hd2]
  clear hm1 hm2 hd1 hd2 hg HR
  obtain ⟨z1, hz1⟩ : ∃ z1, z1 = cmpI (d1 : Int) (d2 : Int) := ⟨_, rfl⟩
  obtain ⟨z2, hz2⟩ : ∃ z2, z2 = cmpI (i : Int) (k : Int) := ⟨_, rfl⟩
  have HZ1 := Lib.hid hz1
  have HZ2 := Lib.hid hz2
  rw [← hz1, ← hz2]
  clear hz1 hz2
  go_enter Try.func98, Try.ntmps98
  go_upto_region 1 with (fail)
  refine wp_region_T (cs := []) [0, 1, 2, 3, 4, 5, 6, 7, 8, 9, 10, 11, 12, 13, 14, 15, 16] [] [4, 9, 10, 13, 14, 15] [(15, [14])] (fun i__ v => match i__ with | 4 => v = (.int .i64 (d1 : Int)) | 9 => v = (.int .i64 (d2 : Int)) | 10 => v = (.int .i64 z1) | 13 => v = (.int .i64 z2) | 14 => ∃ g, v = .slice (some ⟨g, 0, none⟩) 2 2 | 15 => v = (.int .i64 (orI z1 z2)) | _ => False) (fun i__ v w' => match i__ with | 14 => RdsF w' v [] [.int .i64 z1, .int .i64 z2] | _ => True) (by kernel_rfl) (by kernel_rfl) (by intro i v w' w2 h hx; revert h; (try dsimp only); split <;> intro h <;> first | trivial | exact RdsF.ext h hx.1) ?_
  refine' wpT_det (o := ⟨some 6, Op.load 81 (Operand.tmp 2), 81, "l05_sparse.go:236", #[], none⟩) rfl (by rfl) (by rfl) (fun w' hw' => ?_) ?_; rotate_left
  · have hp_ := Ext.cell hw' hp; have h1_ := Ext.cell hw' h1; have h2_ := Ext.cell hw' h2; go_simp <;> first | rfl | exact ⟨rfl, rfl⟩
  simp only [Act.put, List.setIfInBounds_toArray, List.set_cons_zero, List.set_cons_succ]
  refine' wpT_det (o := ⟨some 7, Op.move (Operand.tmp 0), 2, "l05_sparse.go:236", #[], none⟩) rfl (by rfl) (by rfl) (fun w' hw' => ?_) ?_; rotate_left
  · go_simp <;> first | rfl | exact ⟨rfl, rfl⟩
  simp only [Act.put, List.setIfInBounds_toArray, List.set_cons_zero, List.set_cons_succ]
  refine' wpT_det (o := ⟨some 8, Op.indexAddr 81 (Operand.tmp 6) (Operand.tmp 7), 0, "l05_sparse.go:236", #[{ on := 0, ground := Ground.data }, { on := 1, ground := Ground.data }], none⟩) rfl (by rfl) (by rfl) (fun w' hw' => ?_) ?_; rotate_left
  · go_simp <;> first | rfl | exact ⟨rfl, rfl⟩
  simp only [Act.put, List.setIfInBounds_toArray, List.set_cons_zero, List.set_cons_succ]
  refine' wpT_det (o := ⟨some 9, Op.load 86 (Operand.tmp 8), 86, "l05_sparse.go:236", #[{ on := 2, ground := Ground.data }], none⟩) rfl (by rfl) (by rfl) (fun w' hw' => ?_) ?_; rotate_left
  · have hp_ := Ext.cell hw' hp; have h1_ := Ext.cell hw' h1; have h2_ := Ext.cell hw' h2; go_simp <;> first | rfl | exact ⟨rfl, rfl⟩
  simp only [Act.put, List.setIfInBounds_toArray, List.set_cons_zero, List.set_cons_succ]
  refine wpT_nd (o := ⟨some 10, Op.call { callee := Callee.value (Operand.func 101), args := #[Operand.tmp 9], argTypes := #[86] }, 2, "l05_sparse.go:236", #[{ on := 3, ground := Ground.data }], none⟩) rfl (by rfl) (by rfl) (fun w' hw' hF R__ hGo => ?_) ⟨_, rfl⟩ ?_
  · go_simp
    refine gives_enter rfl ?_
    refine (HD1.out _).mono ?_
    rintro e w2 ⟨rfl, hx⟩
    exact ⟨_, rfl, hGo _ _ hx rfl trivial⟩
  intro v hv
  obtain rfl : v = (.int .i64 (d1 : Int)) := hv
  simp only [Act.put, List.setIfInBounds_toArray, List.set_cons_zero, List.set_cons_succ]
  refine' wpT_det (o := ⟨some 11, Op.load 81 (Operand.tmp 2), 81, "l05_sparse.go:236", #[], none⟩) rfl (by rfl) (by rfl) (fun w' hw' => ?_) ?_; rotate_left
  · have hp_ := Ext.cell hw' hp; have h1_ := Ext.cell hw' h1; have h2_ := Ext.cell hw' h2; go_simp <;> first | rfl | exact ⟨rfl, rfl⟩
  simp only [Act.put, List.setIfInBounds_toArray, List.set_cons_zero, List.set_cons_succ]
  refine' wpT_det (o := ⟨some 12, Op.move (Operand.tmp 1), 2, "l05_sparse.go:236", #[], none⟩) rfl (by rfl) (by rfl) (fun w' hw' => ?_) ?_; rotate_left
  · go_simp <;> first | rfl | exact ⟨rfl, rfl⟩
  simp only [Act.put, List.setIfInBounds_toArray, List.set_cons_zero, List.set_cons_succ]
  refine' wpT_det (o := ⟨some 13, Op.indexAddr 81 (Operand.tmp 11) (Operand.tmp 12), 0, "l05_sparse.go:236", #[{ on := 5, ground := Ground.data }, { on := 6, ground := Ground.data }], none⟩) rfl (by rfl) (by rfl) (fun w' hw' => ?_) ?_; rotate_left
  · go_simp <;> first | rfl | exact ⟨rfl, rfl⟩
  simp only [Act.put, List.setIfInBounds_toArray, List.set_cons_zero, List.set_cons_succ]
  refine' wpT_det (o := ⟨some 14, Op.load 86 (Operand.tmp 13), 86, "l05_sparse.go:236", #[{ on := 7, ground := Ground.data }], none⟩) rfl (by rfl) (by rfl) (fun w' hw' => ?_) ?_; rotate_left
  · have hp_ := Ext.cell hw' hp; have h1_ := Ext.cell hw' h1; have h2_ := Ext.cell hw' h2; go_simp <;> first | rfl | exact ⟨rfl, rfl⟩
  simp only [Act.put, List.setIfInBounds_toArray, List.set_cons_zero, List.set_cons_succ]
  refine wpT_nd (o := ⟨some 15, Op.call { callee := Callee.value (Operand.func 101), args := #[Operand.tmp 14], argTypes := #[86] }, 2, "l05_sparse.go:236", #[{ on := 8, ground := Ground.data }, { on := 4, ground := Ground.chain }], none⟩) rfl (by rfl) (by rfl) (fun w' hw' hF R__ hGo => ?_) ⟨_, rfl⟩ ?_
  · go_simp
    refine gives_enter rfl ?_
    refine (HD2.out _).mono ?_
    rintro e w2 ⟨rfl, hx⟩
    exact ⟨_, rfl, hGo _ _ hx rfl trivial⟩
  intro v hv
  obtain rfl : v = (.int .i64 (d2 : Int)) := hv
  simp only [Act.put, List.setIfInBounds_toArray, List.set_cons_zero, List.set_cons_succ]
  refine wpT_nd (o := ⟨some 16, Op.call { callee := Callee.value (Operand.func 100), args := #[Operand.tmp 10, Operand.tmp 15], argTypes := #[2, 2] }, 3, "l05_sparse.go:236", #[{ on := 4, ground := Ground.data }, { on := 9, ground := Ground.data }, { on := 9, ground := Ground.chain }], none⟩) rfl (by rfl) (by rfl) (fun w' hw' hF R__ hGo => ?_) ⟨_, rfl⟩ ?_
  · go_simp
    refine gives_enter rfl ?_
    refine (cmpCompare_any _ _ z1 HZ1.out _).mono ?_
    rintro e w2 ⟨rfl, rfl⟩
    exact ⟨_, rfl, hGo _ _ (Ext.refl _) rfl trivial⟩
  intro v hv
  obtain rfl : v = (.int .i64 z1) := hv
  simp only [Act.put, List.setIfInBounds_toArray, List.set_cons_zero, List.set_cons_succ]
  refine' wpT_det (o := ⟨some 17, Op.move (Operand.tmp 0), 2, "l05_sparse.go:236", #[], none⟩) rfl (by rfl) (by rfl) (fun w' hw' => ?_) ?_; rotate_left
  · go_simp <;> first | rfl | exact ⟨rfl, rfl⟩
  simp only [Act.put, List.setIfInBounds_toArray, List.set_cons_zero, List.set_cons_succ]
  refine' wpT_det (o := ⟨some 18, Op.move (Operand.tmp 1), 2, "l05_sparse.go:236", #[], none⟩) rfl (by rfl) (by rfl) (fun w' hw' => ?_) ?_; rotate_left
  · go_simp <;> first | rfl | exact ⟨rfl, rfl⟩
  simp only [Act.put, List.setIfInBounds_toArray, List.set_cons_zero, List.set_cons_succ]
  refine wpT_nd (o := ⟨some 19, Op.call { callee := Callee.value (Operand.func 100), args := #[Operand.tmp 17, Operand.tmp 18], argTypes := #[2, 2] }, 3, "l05_sparse.go:236", #[{ on := 11, ground := Ground.data }, { on := 12, ground := Ground.data }, { on := 10, ground := Ground.chain }], none⟩) rfl (by rfl) (by rfl) (fun w' hw' hF R__ hGo => ?_) ⟨_, rfl⟩ ?_
  · go_simp
    refine gives_enter rfl ?_
    refine (cmpCompare_any _ _ z2 HZ2.out _).mono ?_
    rintro e w2 ⟨rfl, rfl⟩
    exact ⟨_, rfl, hGo _ _ (Ext.refl _) rfl trivial⟩
  intro v hv
  obtain rfl : v = (.int .i64 z2) := hv
  simp only [Act.put, List.setIfInBounds_toArray, List.set_cons_zero, List.set_cons_succ]
  refine wpT_nd (o := ⟨some 20, Op.buildSlice 134 2 #[(0, Operand.tmp 16), (1, Operand.tmp 19)], 134, "l05_sparse.go:236", #[{ on := 10, ground := Ground.data }, { on := 13, ground := Ground.data }], none⟩) rfl (by rfl) (by rfl) (fun w' hw' hF R__ hGo => ?_) ⟨_, 0, rfl⟩ ?_
  · go_simp; exact gives_value rfl (hGo _ _ ((Ext.refl _).alloc _) ⟨_, rfl⟩ (RdsF.of (rds_two _ _ _ _) rfl))
  rintro _ ⟨g9, rfl⟩
  simp only [Act.put, List.setIfInBounds_toArray, List.set_cons_zero, List.set_cons_succ]
  refine wpT_nd (o := ⟨some 21, Op.call { callee := Callee.value (Operand.func 99), args := #[Operand.tmp 20], argTypes := #[134] }, 3, "l05_sparse.go:236", #[{ on := 14, ground := Ground.data }, { on := 13, ground := Ground.chain }], none⟩) rfl (by rfl) (by rfl) (fun w' hw' hF R__ hGo => ?_) ⟨_, rfl⟩ ?_
  · go_simp
    refine gives_enter rfl ?_
    refine (cmpOr_any _ z1 z2 _ ((hF 14 (by simp [uses]) _ rfl) _ _ _ rfl)).mono ?_
    rintro e w2 ⟨rfl, rfl⟩
    exact ⟨_, rfl, hGo _ _ (Ext.refl _) rfl trivial⟩
  intro v hv
  obtain rfl : v = (.int .i64 (orI z1 z2)) := hv
  simp only [Act.put, List.setIfInBounds_toArray, List.set_cons_zero, List.set_cons_succ]
  refine' wpT_det (o := ⟨some 5, Op.assign (Operand.tmp 21), 3, "l05_sparse.go:236", #[{ on := 15, ground := Ground.data }, { on := 15, ground := Ground.chain }, { on := 0, ground := Ground.phase }, { on := 1, ground := Ground.phase }, { on := 2, ground := Ground.phase }, { on := 3, ground := Ground.phase }, { on := 4, ground := Ground.phase }, { on := 5, ground := Ground.phase }, { on := 6, ground := Ground.phase }, { on := 7, ground := Ground.phase }, { on := 8, ground := Ground.phase }, { on := 9, ground := Ground.phase }, { on := 10, ground := Ground.phase }, { on := 11, ground := Ground.phase }, { on := 12, ground := Ground.phase }, { on := 13, ground := Ground.phase }, { on := 14, ground := Ground.phase }, { on := 15, ground := Ground.phase }], none⟩) rfl (by rfl) (by rfl) (fun w' hw' => ?_) ?_; rotate_left
  · go_simp <;> first | rfl | exact ⟨rfl, rfl⟩
  simp only [Act.put, List.setIfInBounds_toArray, List.set_cons_zero, List.set_cons_succ]
  refine wpT_nil (fun w5 hw' hF => ?_)
  refine wpList_nil ?_
  have hx := hw'.undrew
  clear hF hw'
  go_wp2_with fail
  go_ret
  exact ⟨rfl, hx⟩

end Go.Proofs.Ytkifpligpobiaaa.D
