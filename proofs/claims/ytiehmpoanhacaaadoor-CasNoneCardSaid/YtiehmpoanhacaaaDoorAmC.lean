/-
  WHAT IS HELD OF ITS MEMORY: the operations by parts of a heap, and the plain data that the parts bear, under the conditions that each theorem states.
-/
import Derived.Test.YtiehmpoanhacaaaDoorAmB
import Derived.DataReads
import Derived.ChangeShapes
import Derived.WideShapes
import Derived.Carry
import Derived.Lib.TrailingZeros
import Derived.Laws.BitsAllLaws
import Derived.Laws.AppendOwn
import Derived.Laws.BitsLemmas
import Derived.OpenShut
import Derived.MakeChecks
import Derived.FnData
import Derived.ChangeArms
set_option linter.unusedSectionVars false
set_option linter.unusedVariables false
set_option linter.unusedSimpArgs false
/-
  What came in: the arguments' memory as blocks that are only read.
-/
namespace Go.Proofs.SakAm
set_option linter.unusedVariables false
set_option linter.unusedSimpArgs false
open Go
open Go.RowKit (Below)
set_option linter.unusedSectionVars false
variable [Tabs]

/-- The types of a value's cells, where each part is a number, a bool, a string or a slice. -/
def flatFs (P : Program) (g : TypeId → Option (List TypeId)) : List Field → Nat → Option (List TypeId × Nat)
  | [], o => some ([], o)
  | f :: r, o => if f.offset = o then (g f.type).bind fun l => if l.length = P.cellsOf f.type then (flatFs P g r (o + l.length)).bind fun m => some (l ++ m.1, m.2) else none else none

/-- The same n times. -/
def rep {α : Type} (l : List α) : Nat → List α
  | 0 => []
  | n + 1 => l ++ rep l n

theorem rep_length {α : Type} (l : List α) (n : Nat) : (rep l n).length = n * l.length := by
  induction n with
  | zero => simp [rep]
  | succ n ih => simp [rep, ih, Nat.succ_mul, Nat.add_comm]

def flatT (P : Program) : Nat → TypeId → Option (List TypeId)
  | 0, _ => none
  | n + 1, t => match P.underlying t with
    | some (.struct fs) => (flatFs P (flatT P n) fs.toList 0).bind fun r => if r.2 = P.cellsOf t then some r.1 else none
    | some (.array m e) => (flatT P n e).bind fun l => if l.length = P.cellsOf e ∧ m * l.length = P.cellsOf t then some (rep l m) else none
    | some .bool | some (.int _) | some .string | some (.slice _) => if P.cellsOf t = 1 then some [t] else none
    | _ => none

inductive All2 {α β : Type} (p : α → β → Prop) : List α → List β → Prop where
  | nil : All2 p [] []
  | cons {a : α} {b : β} {l : List α} {m : List β} (h : p a b) (t : All2 p l m) : All2 p (a :: l) (b :: m)

namespace All2
variable {α β : Type} {p q : α → β → Prop}
theorem length {l : List α} {m : List β} (h : All2 p l m) : l.length = m.length := by induction h <;> simp_all
theorem append {l l' : List α} {m m' : List β} (h : All2 p l m) (k : All2 p l' m') : All2 p (l ++ l') (m ++ m') := by
  induction h with
  | nil => exact k
  | cons h _ ih => exact .cons h ih
theorem mono {l : List α} {m : List β} (h : All2 p l m) (hm : ∀ a b, p a b → q a b) : All2 q l m := by
  induction h with
  | nil => exact .nil
  | cons h _ ih => exact .cons (hm _ _ h) ih
theorem split {l' : List α} : ∀ {l : List α} {m : List β}, All2 p (l ++ l') m → ∃ m1 m2, m = m1 ++ m2 ∧ All2 p l m1 ∧ All2 p l' m2
  | [], m, h => ⟨[], m, rfl, .nil, h⟩
  | a :: l, m, h => by
    cases h with
    | cons h t =>
      obtain ⟨m1, m2, e, h1, h2⟩ := split t
      exact ⟨_ :: m1, m2, by rw [e]; rfl, .cons h h1, h2⟩
end All2

/-- May a cell of this type be opened? n: how deep. -/
def okC (P : Program) : Nat → TypeId → Bool
  | 0, _ => false
  | n + 1, t => match P.underlying t with
    | some .bool | some (.int _) | some .string => true
    | some (.slice e) => match flatT P 9 e with
      | some ts => 0 < ts.length && ts.length == P.cellsOf e && ts.all (okC P n)
      | none => false
    | _ => false

/-- What is known of a cell that came in. -/
def Inp (P : Program) (H : Heap) : Nat → TypeId → Value → Prop
  | 0, _, _ => False
  | n + 1, t, v => match P.underlying t with
    | some .bool => ∃ b, v = .bool b
    | some (.int k) => ∃ z, v = .int k z ∧ (Lit.int k z).wf = true
    | some .string => ∃ s, v = .string s ∧ s.size ≤ maxLen
    | some (.slice e) => v = .slice none 0 0 ∨ (∃ i, v = .slice (some ⟨i, 0, none⟩) 0 0) ∨
      ∃ i l b ts, v = .slice (some ⟨i, 0, some 0⟩) l 2 ∧ 0 < l ∧ l ≤ maxLen ∧ H.get i = some b ∧ b.ver = 0 ∧ b.ro = true ∧ flatT P 9 e = some ts ∧ All2 (Inp P H n) (rep ts l) b.cells
    | _ => False

section
variable {P : Program} {w : World} {H : Heap} {φ : Nat → Place}

theorem Inp.grow {H' : Heap} (g : Grow H H') : ∀ (n : Nat) {t : TypeId} {v : Value}, Inp P H n t v → Inp P H' n t v
  | 0, _, _, h => h
  | n + 1, t, v, h => by
    unfold Inp at h
    split at h
    all_goals first | exact h.elim | skip
    all_goals rename_i hu
    all_goals unfold Inp
    all_goals simp only [hu]
    · exact h
    · exact h
    · exact h
    · rcases h with h | h | ⟨i, l, b, ts, h1, h2, h3, h4, h5, h6, h7, h8⟩
      · exact .inl h
      · exact .inr (.inl h)
      · exact .inr (.inr ⟨i, l, b, ts, h1, h2, h3, (g.get i (Heap.lt_of_get h4)).trans h4, h5, h6, h7, h8.mono fun _ _ k => Inp.grow g n k⟩)

theorem Inp.one : ∀ {n : Nat} {t : TypeId} {v : Value}, Inp P H n t v → SakAm.one v = true
  | 0, _, _, h => h.elim
  | n + 1, t, v, h => by
    unfold Inp at h
    split at h
    · obtain ⟨b, rfl⟩ := h; rfl
    · obtain ⟨b, rfl, _⟩ := h; rfl
    · obtain ⟨b, rfl, _⟩ := h; rfl
    · rcases h with rfl | ⟨i, rfl⟩ | ⟨i, l, b, ts, rfl, _⟩ <;> rfl
    · exact h.elim

theorem All2.one {n : Nat} {ts : List TypeId} {vs : List Value} (h : All2 (Inp P H n) ts vs) : vs.all SakAm.one = true := by
  induction h with
  | nil => rfl
  | cons h _ ih => simp [h.one, ih]

/-! ### The reading, cell by cell -/

variable {Hd : Type} {enc : TypeId × Value → Hd} {base : Nat} {sp : Nat → Bool} {held : Bool}

/-- A cell that the reading read. -/
def Trods (enc : TypeId × Value → Hd) (P : Program) (w : World) (base : Nat) (sp : Nat → Bool) (held : Bool) (t : TypeId) (c : Value) : Prop :=
  ∃ fuel x, DataW.trod enc P w base sp held fuel t [c] = some x

theorem take_add' {α : Type} (l : List α) (o a b : Nat) : (l.drop o).take (a + b) = (l.drop o).take a ++ (l.drop (o + a)).take b := by
  rw [List.take_add, List.drop_drop]

theorem rep_succ {α : Type} (l : List α) : ∀ n, rep l (n + 1) = rep l n ++ l
  | 0 => by simp [rep]
  | n + 1 => by
    show l ++ rep l (n + 1) = (l ++ rep l n) ++ l
    rw [rep_succ l n, List.append_assoc]

theorem flat_trod : ∀ (n : Nat) (t : TypeId) (ts : List TypeId), flatT P n t = some ts → ∀ fuel cs x, DataW.trod enc P w base sp held fuel t cs = some x → cs.length = P.cellsOf t ∧ All2 (Trods enc P w base sp held) ts cs := by
  intro n
  induction n with
  | zero => intro t ts h; cases h
  | succ n ih =>
    intro t ts h fuel cs x hx
    unfold flatT at h
    cases fuel with
    | zero => simp [DataW.trod] at hx
    | succ fuel =>
      have single : ∀ {c : Value}, cs = [c] → P.cellsOf t = 1 → cs.length = P.cellsOf t ∧ All2 (Trods enc P w base sp held) [t] cs := by
        intro c hc h1
        subst hc
        exact ⟨by rw [h1]; rfl, .cons ⟨fuel + 1, x, hx⟩ .nil⟩
      have hx0 := hx
      unfold DataW.trod at hx
      split at h
      · rename_i fs hu
        simp only [hu] at hx
        split at hx
        · rename_i hlen
          simp only [Option.map_eq_some_iff] at hx
          obtain ⟨xs, hxs, _⟩ := hx
          simp only [Option.bind_eq_some_iff] at h
          obtain ⟨⟨l, e⟩, hl, h⟩ := h
          split at h
          · rename_i he
            cases h
            refine ⟨hlen, ?_⟩
            have key : ∀ (gs : List Field) (o : Nat) (l : List TypeId) (e : Nat) (xs : List (DataW Hd × List MemPlace)), flatFs P (flatT P n) gs o = some (l, e) →
                (gs.mapM fun f => DataW.trod enc P w base sp held fuel f.type ((cs.drop f.offset).take (P.cellsOf f.type))) = some xs → o + l.length = e ∧ All2 (Trods enc P w base sp held) l ((cs.drop o).take l.length) := by
              intro gs
              induction gs with
              | nil => intro o l e xs h1 _; cases h1; exact ⟨rfl, by simpa using .nil⟩
              | cons f r ihr =>
                intro o l e xs h1 h2
                simp only [flatFs] at h1
                split at h1
                · rename_i ho
                  simp only [Option.bind_eq_some_iff] at h1
                  obtain ⟨lf, hlf, h1⟩ := h1
                  split at h1
                  · rename_i hlen
                    simp only [Option.bind_eq_some_iff] at h1
                    obtain ⟨⟨m, e'⟩, hm, h1⟩ := h1
                    cases h1
                    simp only [List.mapM_cons, Option.bind_eq_bind, Option.bind_eq_some_iff] at h2
                    obtain ⟨y, hy, ys, hys, _⟩ := h2
                    obtain ⟨k1, k2⟩ := ihr _ _ _ _ hm hys
                    obtain ⟨_, k4⟩ := ih _ _ hlf _ _ _ hy
                    refine ⟨by simp only [List.length_append]; omega, ?_⟩
                    rw [List.length_append, take_add']
                    refine All2.append ?_ k2
                    rw [hlen, ← ho]; exact k4
                  · cases h1
                · cases h1
            obtain ⟨k1, k2⟩ := key _ _ _ _ _ hl hxs
            rw [List.drop_zero, List.take_of_length_le (by omega)] at k2
            exact k2
          · cases h
        · cases hx
      · rename_i m e hu
        simp only [hu] at hx
        split at hx
        · rename_i hlen
          simp only [Option.map_eq_some_iff] at hx
          obtain ⟨xs, hxs, _⟩ := hx
          simp only [Option.bind_eq_some_iff] at h
          obtain ⟨l, hl, h⟩ := h
          split at h
          · rename_i he
            cases h
            refine ⟨hlen, ?_⟩
            have key : ∀ j, j ≤ m → All2 (Trods enc P w base sp held) (rep l j) (cs.take (j * P.cellsOf e)) := by
              intro j
              induction j with
              | zero => intro _; simpa [rep] using .nil
              | succ j ihj =>
                intro hj
                have h1 := mapM_some_get hxs j j (by simp [show j < m from by omega])
                rw [List.getElem?_eq_getElem (by rw [mapM_some_length hxs]; simp; omega)] at h1
                obtain ⟨_, k4⟩ := ih e l hl _ _ _ h1
                rw [rep_succ, Nat.succ_mul, List.take_add]
                exact (ihj (by omega)).append k4
            have := key m (Nat.le_refl _)
            rw [List.take_of_length_le (by rw [hlen, ← he.2, he.1]; exact Nat.le_refl _)] at this
            exact this
          · cases h
        · cases hx
      all_goals first | (cases h; done) | skip
      all_goals rename_i hu
      all_goals
        split at h
        · rename_i h1
          cases h
          simp only [hu] at hx
          refine single (c := cs.headD undef) ?_ h1
          split at hx <;> simp_all
        · cases h

/-! ### The opening -/

def AllRo (H : Heap) : Prop := ∀ i b, H.get i = some b → b.ro = true

/-- What an opening leaves. -/
structure Opened (P : Program) (w : World) (φ : Nat → Place) (H : Heap) (φ' : Nat → Place) (H' : Heap) : Prop where
  rel : Rel P w.heap.size w φ' H' w
  ro : AllRo H'
  ext : Ext φ H φ' H'
  grow : Grow H H'

theorem open_list {n : Nat} (hcell : ∀ t c φ H, okC P n t = true → Rel P w.heap.size w φ H w → AllRo H → Trods enc P w base sp held t c → ∃ φ' H' v, Opened P w φ H φ' H' ∧ VRel P φ' H' v c ∧ Inp P H' n t v) :
    ∀ ts cs φ H, ts.all (okC P n) = true → Rel P w.heap.size w φ H w → AllRo H → All2 (Trods enc P w base sp held) ts cs → ∃ φ' H' vs, Opened P w φ H φ' H' ∧ LRel P φ' H' vs cs ∧ All2 (Inp P H' n) ts vs
  | [], cs, φ, H, _, R, ro, h => by
    cases h
    exact ⟨φ, H, [], ⟨R, ro, Ext.refl _ _, Grow.refl _⟩, .nil, .nil⟩
  | t :: ts, cs, φ, H, hok, R, ro, h => by
    cases h with
    | cons h1 h2 =>
      simp only [List.all_cons, Bool.and_eq_true] at hok
      obtain ⟨φ1, H1, v, o1, k1, k2⟩ := hcell _ _ _ _ hok.1 R ro h1
      obtain ⟨φ2, H2, vs, o2, k3, k4⟩ := open_list hcell ts _ φ1 H1 hok.2 o1.rel o1.ro h2
      exact ⟨φ2, H2, v :: vs, ⟨o2.rel, o2.ro, o1.ext.trans o2.ext, o1.grow.trans o2.grow⟩, .cons (k1.ext o2.ext) k3, .cons (k2.grow o2.grow n) k4⟩

theorem add_eq {a : Addr} (h : a.spot = none) (n : Nat) : a.add n = ⟨a.block, a.off + n, none⟩ := by
  obtain ⟨b, o, s⟩ := a
  cases h
  exact addr_add b o n

theorem rep_all {α : Type} {l : List α} {p : α → Bool} (h : l.all p = true) : ∀ n, (rep l n).all p = true
  | 0 => rfl
  | n + 1 => by simp only [rep, List.all_append, h, Bool.true_and]; exact rep_all h n

/-- The cells of a row that the reading read. -/
theorem row_read {a : Addr} {c len : Nat} {ts : List TypeId} (hs : a.spot = none) (h : ∀ i, i < len → ∃ cs, w.cells? base (a.add (i * c)) c = some cs ∧ All2 (Trods enc P w base sp held) ts cs) :
    ∃ row : List Value, row.length = len * c ∧ All2 (Trods enc P w base sp held) (rep ts len) row ∧ ∀ k, k < len * c → w.cell? ⟨a.block, a.off + k, none⟩ = row[k]? := by
  induction len with
  | zero => exact ⟨[], by simp, .nil, fun k hk => by omega⟩
  | succ m ih =>
    obtain ⟨row, r1, r2, r3⟩ := ih fun i hi => h i (by omega)
    obtain ⟨cs, hcs, hall⟩ := h m (by omega)
    obtain ⟨_, hl, hc⟩ := World.cells?_some hcs
    refine ⟨row ++ cs, by simp [r1, hl, Nat.succ_mul], by rw [rep_succ]; exact r2.append hall, fun k hk => ?_⟩
    rw [Nat.succ_mul] at hk
    by_cases hlt : k < m * c
    · rw [List.getElem?_append_left (by omega)]; exact r3 k hlt
    · rw [List.getElem?_append_right (by omega), r1, ← hc (k - m * c) (by omega)]
      rw [add_eq hs, add_eq rfl]
      congr 2
      simp only
      omega

theorem AllRo.empty : AllRo Heap.empty := fun _ _ h => (nomatch h)

/-- A row of cells becomes a block that is only read. -/
theorem Rel.took (R : Rel P w.heap.size w φ H w) (ro : AllRo H) {bk off : Nat} {row vs : List Value} (hr : ∀ k, k < row.length → w.cell? ⟨bk, off + k, none⟩ = row[k]?) (hpos : 0 < row.length)
    (hl : LRel P φ H vs row) (ho : vs.all SakAm.one = true) (e : TypeId) :
    ∃ φ', Opened P w φ H φ' (H.new ⟨vs, e, 0, true⟩) ∧ φ' H.next = ⟨bk, off, 0⟩ := by
  have hext : Ext φ H (lay φ H.next ⟨bk, off, 0⟩) (H.new ⟨vs, e, 0, true⟩) := by
    refine ⟨by simp, fun j d hd => ?_⟩
    have hj := Heap.lt_of_get hd
    refine ⟨d, by rw [new_old hj]; exact hd, Nat.le_refl _, fun _ => ⟨by simp [lay, show j ≠ H.next from by omega], rfl, rfl⟩⟩
  have hro : AllRo (H.new ⟨vs, e, 0, true⟩) := by
    intro i b hb
    rw [new_get] at hb
    split at hb
    · cases hb; rfl
    · exact ro i b hb
  have hlen := hl.length
  have hcells : ∃ c e' fz, w.heap[bk]? = some (.cells c e' fz) ∧ off + row.length ≤ c.size ∧ ∀ k, k < row.length → c[off + k]? = row[k]? := by
    have h0 := hr 0 hpos
    have hsome : ∃ v, row[0]? = some v := ⟨row[0], by simp⟩
    obtain ⟨v, hv⟩ := hsome
    rw [hv] at h0
    have hb : ∃ c e' fz, w.heap[bk]? = some (.cells c e' fz) := by
      unfold World.cell? at h0
      split at h0
      · rename_i c e' fz hb; exact ⟨c, e', fz, hb⟩
      · cases h0
    obtain ⟨c, e', fz, hb⟩ := hb
    have hk : ∀ k, k < row.length → c[off + k]? = row[k]? := by
      intro k hk
      have := hr k hk
      simpa [World.cell?, hb] using this
    refine ⟨c, e', fz, hb, ?_, hk⟩
    have hlast := hk (row.length - 1) (by omega)
    rw [List.getElem?_eq_getElem (by omega)] at hlast
    have := (Array.getElem?_eq_some_iff.1 hlast).1
    omega
  refine ⟨lay φ H.next ⟨bk, off, 0⟩, ⟨⟨Below.refl _ _, R.base, fun i b hb => ?_, fun i j b b' hb hb' hf => ?_⟩, hro, hext, Grow.new _ _⟩, by simp [lay]⟩
  · rw [new_get] at hb
    split at hb
    · rename_i hi
      subst hi
      cases hb
      obtain ⟨c, e', fz, h1, h2, h3⟩ := hcells
      refine ⟨c, e', fz, by simpa [lay] using h1, by simp only [lay, if_pos]; omega, fun j v hj => ?_, fun hf => by cases hf⟩
      obtain ⟨u, hu, hvu⟩ := hl.get hj
      have hjl : j < row.length := (List.getElem?_eq_some_iff.1 hu).1
      exact ⟨(List.all_eq_true.1 ho) v (List.mem_of_getElem? hj), u, by simp only [lay, if_pos]; rw [h3 j hjl]; exact hu, hvu.ext hext⟩
    · rename_i hi
      obtain ⟨c2, e2, fz2, hw2, hl2, hc2, ho2⟩ := R.cell i b hb
      refine ⟨c2, e2, fz2, by simpa [lay, hi] using hw2, by simpa [lay, hi] using hl2, fun k v hk => ?_, by simpa [lay, hi] using ho2⟩
      obtain ⟨h1, u, h2, h3⟩ := hc2 k v hk
      exact ⟨h1, u, by simpa [lay, hi] using h2, h3.ext hext⟩
  · rw [hro i b hb] at hf; cases hf

theorem open_cell : ∀ (n : Nat) (t : TypeId) (c : Value) (φ : Nat → Place) (H : Heap), okC P n t = true → Rel P w.heap.size w φ H w → AllRo H → Trods enc P w base sp held t c →
    ∃ φ' H' v, Opened P w φ H φ' H' ∧ VRel P φ' H' v c ∧ Inp P H' n t v := by
  intro n
  induction n with
  | zero => intro t c φ H h; cases h
  | succ n ih =>
    intro t c φ H hok R ro h
    obtain ⟨fuel, x, hx⟩ := h
    have same : ∀ {v : Value}, v = c → leaf v = true → Inp P H (n + 1) t v → ∃ φ' H' v, Opened P w φ H φ' H' ∧ VRel P φ' H' v c ∧ Inp P H' (n + 1) t v :=
      fun {v} e hl hi => ⟨φ, H, v, ⟨R, ro, Ext.refl _ _, Grow.refl _⟩, by rw [← e]; exact .leaf _ hl, hi⟩
    cases fuel with
    | zero => simp [DataW.trod] at hx
    | succ fuel =>
      unfold okC at hok
      unfold DataW.trod at hx
      split at hok
      · rename_i hu
        simp only [hu] at hx
        split at hx <;> first | (simp at hx; done) | skip
        all_goals simp_all
        exact same rfl (by simp [Inp, hu])
      · rename_i k hu
        simp only [hu] at hx
        split at hx <;> first | (simp at hx; done) | skip
        all_goals simp_all
        obtain ⟨⟨rfl, hw⟩, _⟩ := hx
        exact same rfl (by simp [Inp, hu, hw])
      · rename_i hu
        simp only [hu] at hx
        split at hx <;> first | (simp at hx; done) | skip
        all_goals simp_all
        exact same rfl (by simp [Inp, hu, hx.1])
      · rename_i e hu
        split at hok
        · rename_i ts hts
          simp only [Bool.and_eq_true, decide_eq_true_eq, beq_iff_eq] at hok
          obtain ⟨⟨hpos, hsize⟩, hall⟩ := hok
          simp only [hu] at hx
          split at hx
          all_goals first | (simp at hx; done) | (rename_i h1 h2; cases h1; done) | (rename_i h1; cases h1; done) | skip
          · rename_i hc
            simp only [List.cons.injEq, and_true] at hc
            exact same hc.symm rfl (by simp [Inp, hu])
          · rename_i e' a len cap hue hc
            simp only [List.cons.injEq, and_true] at hc
            subst hc
            cases hue
            split at hx
            · rename_i hcond
              obtain ⟨_, hlc, hcm⟩ := hcond
              by_cases h0 : len = 0
              · subst h0
                exact ⟨φ, H, .slice (some ⟨0, 0, none⟩) 0 0, ⟨R, ro, Ext.refl _ _, Grow.refl _⟩, .empty _ _ _ _ _, by simp [Inp, hu]⟩
              · simp only [Option.bind_eq_some_iff] at hx
                obtain ⟨elems, hel, _⟩ := hx
                have helem : ∀ i, i < len → ∃ cs, w.cells? base (a.add (i * P.cellsOf e)) (P.cellsOf e) = some cs ∧ All2 (Trods enc P w base sp held) ts cs := by
                  intro i hi
                  have h1 := mapM_some_get hel i i (by simp [hi])
                  rw [List.getElem?_eq_getElem (by rw [mapM_some_length hel]; simpa using hi)] at h1
                  simp only [Option.bind_eq_some_iff] at h1
                  obtain ⟨cs, hcs, hd⟩ := h1
                  exact ⟨cs, hcs, (flat_trod 9 e ts hts _ _ _ hd).2⟩
                have hspot : a.spot = none := by
                  obtain ⟨cs, hcs, _⟩ := helem 0 (by omega)
                  obtain ⟨_, hl, hc⟩ := World.cells?_some hcs
                  have := hc 0 (by omega)
                  rw [List.getElem?_eq_getElem (by omega)] at this
                  simpa [Addr.add] using World.cell?_spot this
                obtain ⟨row, r1, r2, r3⟩ := row_read hspot helem
                have hrp : 0 < row.length := by rw [r1, ← hsize]; exact Nat.mul_pos (by omega) hpos
                have hallr : (rep ts len).all (okC P n) = true := rep_all hall len
                obtain ⟨φ1, H1, vs, o1, k1, k2⟩ := open_list (ih) (rep ts len) row φ H hallr R ro r2
                obtain ⟨φ2, o2, hat⟩ := Rel.took o1.rel o1.ro (fun k hk => r3 k (by omega)) hrp k1 k2.one e
                refine ⟨φ2, _, .slice (some ⟨H1.next, 0, some 0⟩) len 2, ⟨o2.rel, o2.ro, o1.ext.trans o2.ext, o1.grow.trans o2.grow⟩, ?_, ?_⟩
                · refine .slice _ _ _ _ _ ⟨vs, e, 0, true⟩ _ _ (by simp) (Nat.le_refl _) hlc fun _ _ => ⟨?_, fun hf => by cases hf⟩
                  rw [hat]
                  obtain ⟨bk, off, sp⟩ := a
                  cases hspot
                  rfl
                · unfold Inp
                  simp only [hu]
                  exact .inr (.inr ⟨_, _, ⟨vs, e, 0, true⟩, ts, rfl, by omega, by omega, by simp, rfl, rfl, hts, k2.mono fun _ _ k => k.grow o2.grow n⟩)
            · cases hx
        · cases hok
      · cases hok
end
end Go.Proofs.SakAm

/-
  From a law of the abstract machine to the call of a row.
-/
namespace Go.Proofs.SakAm
set_option linter.unusedVariables false
set_option linter.unusedSimpArgs false
open Go Go.WideShapes
open Go.RowKit (Below)
set_option linter.unusedSectionVars false
variable [Tabs]

/-- May an argument of this type be opened? -/
def argOk (P : Program) (t : TypeId) : Bool :=
  match P.underlying t with
  | some (.struct _) => match flatT P 9 t with
    | some ts => ts.all (okC P 8)
    | none => false
  | some (.array _ _) => match flatT P 9 t with
    | some ts => ts.all (okC P 8)
    | none => false
  | some .bool | some (.int _) | some .string | some (.slice _) => okC P 8 t
  | _ => false

/-- What is known of an argument. -/
def InpA (P : Program) (H : Heap) (t : TypeId) (u : Value) : Prop :=
  match P.underlying t with
  | some (.struct _) => ∃ vs ts, u = .agg vs.toArray ∧ flatT P 9 t = some ts ∧ All2 (Inp P H 8) ts vs
  | some (.array _ _) => ∃ vs ts, u = .agg vs.toArray ∧ flatT P 9 t = some ts ∧ All2 (Inp P H 8) ts vs
  | _ => Inp P H 8 t u

section
variable {P : Program} {w : World} {H : Heap} {φ : Nat → Place}
variable {Hd : Type} {enc : TypeId × Value → Hd} {base : Nat} {sp : Nat → Bool} {held : Bool}

theorem InpA.grow {H' : Heap} (g : Grow H H') {t : TypeId} {u : Value} (h : InpA P H t u) : InpA P H' t u := by
  unfold InpA at h ⊢
  split at h
  · obtain ⟨vs, ts, h1, h2, h3⟩ := h
    exact ⟨vs, ts, h1, h2, h3.mono fun _ _ k => k.grow g 8⟩
  · obtain ⟨vs, ts, h1, h2, h3⟩ := h
    exact ⟨vs, ts, h1, h2, h3.mono fun _ _ k => k.grow g 8⟩
  · exact h.grow g 8

theorem okWide_array {r : Reach} {b0 n : Nat} {t e : TypeId} {v : Value} (ht : P.underlying t = some (.array n e)) (h : Value.okWide P w r b0 t v) : ∃ cs, v = .agg cs ∧ cs.size = P.cellsOf t := by
  simp only [Value.okWide, ht] at h
  obtain ⟨cs, h1, h2, _⟩ := h
  exact ⟨cs, h1, h2⟩

theorem open_arg {r : Reach} {b0 : Nat} {t : TypeId} {v : Value} {d : DataW Hd} {ps : List MemPlace} (hok : argOk P t = true) (hval : Value.okWide P w r b0 t v)
    (hd : DataW.Trod enc P w base sp held t v d ps) (R : Rel P w.heap.size w φ H w) (ro : AllRo H) :
    ∃ φ' H' u, Opened P w φ H φ' H' ∧ VRel P φ' H' u v ∧ InpA P H' t u := by
  obtain ⟨fuel, hf⟩ := hd
  unfold argOk at hok
  have single : ∀ {c : Value}, v = c → c.cells.toList = [c] → okC P 8 t = true → (∀ H' u, Inp P H' 8 t u → InpA P H' t u) → ∃ φ' H' u, Opened P w φ H φ' H' ∧ VRel P φ' H' u v ∧ InpA P H' t u := by
    intro c hc hcs ho hi
    subst hc
    rw [hcs] at hf
    obtain ⟨φ', H', u, k1, k2, k3⟩ := open_cell (enc := enc) (base := base) (sp := sp) (held := held) 8 t v φ H ho R ro ⟨fuel, _, hf⟩
    exact ⟨φ', H', u, k1, k2, hi H' u k3⟩
  split at hok
  · rename_i fs hu
    split at hok
    · rename_i ts hts
      obtain ⟨cs, rfl, _⟩ := okWide_struct hu hval
      obtain ⟨_, hall⟩ := flat_trod 9 t ts hts _ _ _ hf
      obtain ⟨φ', H', vs, k1, k2, k3⟩ := open_list (open_cell 8) ts _ φ H hok R ro hall
      refine ⟨φ', H', .agg vs.toArray, k1, ?_, ?_⟩
      · have := agg_of_lrel k2
        simpa [Value.cells] using this
      · unfold InpA
        rw [hu]
        exact ⟨vs, ts, rfl, hts, k3⟩
    · cases hok
  · rename_i fn fe hu
    split at hok
    · rename_i ts hts
      obtain ⟨cs, rfl, _⟩ := okWide_array hu hval
      obtain ⟨_, hall⟩ := flat_trod 9 t ts hts _ _ _ hf
      obtain ⟨φ', H', vs, k1, k2, k3⟩ := open_list (open_cell 8) ts _ φ H hok R ro hall
      refine ⟨φ', H', .agg vs.toArray, k1, ?_, ?_⟩
      · have := agg_of_lrel k2
        simpa [Value.cells] using this
      · unfold InpA
        rw [hu]
        exact ⟨vs, ts, rfl, hts, k3⟩
    · cases hok
  · rename_i hu
    obtain ⟨b, rfl⟩ := okWide_bool hu hval
    exact single rfl rfl hok fun H' u k => by unfold InpA; rw [hu]; exact k
  · rename_i hu
    obtain ⟨b, rfl⟩ := okWide_int hu hval
    exact single rfl rfl hok fun H' u k => by unfold InpA; rw [hu]; exact k
  · rename_i hu
    obtain ⟨b, rfl⟩ := okWide_string hu hval
    exact single rfl rfl hok fun H' u k => by unfold InpA; rw [hu]; exact k
  · rename_i hu
    obtain ⟨b, _, _, rfl⟩ := okWide_slice hu hval
    exact single rfl rfl hok fun H' u k => by unfold InpA; rw [hu]; exact k
  · cases hok

theorem open_args {r : Reach} {b0 : Nat} : ∀ (ts : List TypeId) (vs : List Value) (ds : List (DataW Hd)) (ps : List MemPlace) (φ : Nat → Place) (H : Heap), ts.all (argOk P) = true →
    (∀ (j : Nat) t v, ts[j]? = some t → vs[j]? = some v → Value.okWide P w r b0 t v) → DataW.TrodAll enc P w base sp held ts vs ds ps → Rel P w.heap.size w φ H w → AllRo H →
    ∃ φ' H' us, Opened P w φ H φ' H' ∧ LRel P φ' H' us vs ∧ All2 (InpA P H') ts us
  | [], [], ds, ps, φ, H, _, _, h, R, ro => ⟨φ, H, [], ⟨R, ro, Ext.refl _ _, Grow.refl _⟩, .nil, .nil⟩
  | [], _ :: _, ds, ps, φ, H, _, _, h, R, ro => by cases ds <;> simp [DataW.TrodAll] at h
  | t :: ts, [], ds, ps, φ, H, _, _, h, R, ro => by cases ds <;> simp [DataW.TrodAll] at h
  | t :: ts, v :: vs, [], ps, φ, H, _, _, h, R, ro => by simp [DataW.TrodAll] at h
  | t :: ts, v :: vs, d :: ds, ps, φ, H, hok, hval, h, R, ro => by
    obtain ⟨p, q, h1, h2, _⟩ := h
    simp only [List.all_cons, Bool.and_eq_true] at hok
    obtain ⟨φ1, H1, u, o1, k1, k2⟩ := open_arg hok.1 (hval 0 t v rfl rfl) h1 R ro
    obtain ⟨φ2, H2, us, o2, k3, k4⟩ := open_args ts vs ds q φ1 H1 hok.2 (fun j t' v' e1 e2 => hval (j + 1) t' v' (by simpa using e1) (by simpa using e2)) h2 o1.rel o1.ro
    exact ⟨φ2, H2, u :: us, ⟨o2.rel, o2.ro, o1.ext.trans o2.ext, o1.grow.trans o2.grow⟩, .cons (k1.ext o2.ext) k3, .cons (k2.grow o2.grow) k4⟩

/-- The call of a law's row. -/
theorem calls_of {call : FuncId → List Value → Heap → Option (Value × Heap)} (hs : CallSound P call) {f : FuncId} {ts : List TypeId} (hok : ts.all (argOk P) = true)
    (law : ∀ us H, AllRo H → All2 (InpA P H) ts us → ∃ H', call f us H = some (.bool true, H'))
    {r : Reach} {b0 : Nat} {args : Array Value} {ds : List (DataW Hd)} {ps : List MemPlace}
    (hg : Tabs.good w.heap.size w) (hval : ∀ (j : Nat) t v, ts[j]? = some t → args.toList[j]? = some v → Value.okWide P w r b0 t v) (h : DataW.TrodAll enc P w base sp held ts args.toList ds ps) :
    Calls P f args w fun e w' => e = .returned (.bool true) ∧ Below w.heap.size w w' := by
  obtain ⟨φ, H, us, o, k1, k2⟩ := open_args ts args.toList ds ps (fun _ => ⟨0, 0, 0⟩) Heap.empty hok hval h (Rel.empty _ w hg) AllRo.empty
  obtain ⟨H', hc⟩ := law us H o.ro k2
  obtain ⟨_, hcall⟩ := hs f us H _ H' hc
  refine (hcall w.heap.size w φ w args o.rel k1).mono fun e w' he => ?_
  obtain ⟨φ', u, rfl, R', _, hu⟩ := he
  exact ⟨by rw [hu.bool_inv], R'.bel⟩

/-- The arguments read as they read. -/
theorem trodAll_back (hl : laidOutB P = true) {W W' : World} (hb : Below W.heap.size W W') : ∀ (ts : List TypeId) (vs : List Value) (ds : List (DataW Hd)) (ps : List MemPlace),
    ts.all (fun t => P.readableRec t && decide (t < P.types.size)) = true → DataW.TrodAll enc P W 0 (fun _ => true) true ts vs ds ps →
    DataW.TrodAll enc P W' 0 (fun b => decide (b < W.heap.size)) true ts vs ds ps
  | [], [], [], ps, _, h => h
  | [], _ :: _, ds, ps, _, h => by cases ds <;> simp [DataW.TrodAll] at h
  | [], [], _ :: _, ps, _, h => by simp [DataW.TrodAll] at h
  | t :: ts, [], ds, ps, _, h => by cases ds <;> simp [DataW.TrodAll] at h
  | t :: ts, v :: vs, [], ps, _, h => by simp [DataW.TrodAll] at h
  | t :: ts, v :: vs, d :: ds, ps, hr, h => by
    obtain ⟨p, q, h1, h2, h3⟩ := h
    simp only [List.all_cons, Bool.and_eq_true, decide_eq_true_eq] at hr
    have lt0 : ∀ x ∈ p, x.block < W.heap.size := by obtain ⟨m, hm⟩ := h1; exact DataW.trod_lt m _ _ _ hm
    exact ⟨p, q, Below.trod hl hr.1.1 hr.1.2 h1 hb lt0, trodAll_back hl hb ts vs ds q (by simpa using hr.2) h2, h3⟩

theorem arr_get {α : Type} {a : Array α} {l : List α} (h : a.toList = l) {j : Nat} {t : α} (k : l[j]? = some t) : a[j]? = some t := by
  rw [← Array.getElem?_toList, h]; exact k

def isStruct (P : Program) (t : TypeId) : Bool := match P.underlying t with | some (.struct _) => true | some (.array _ _) => true | _ => false
def isSlice (P : Program) (t e : TypeId) : Bool := match P.underlying t with | some (.slice e') => e == e' | _ => false

theorem InpA.struct {t : TypeId} {ts : List TypeId} {u : Value} (hs : isStruct P t = true) (hf : flatT P 9 t = some ts) (h : InpA P H t u) : ∃ vs, u = .agg vs.toArray ∧ All2 (Inp P H 8) ts vs := by
  unfold isStruct at hs
  unfold InpA at h
  split at hs
  · rename_i hu
    rw [hu] at h
    obtain ⟨vs, ts', h1, h2, h3⟩ := h
    rw [hf] at h2; cases h2
    exact ⟨vs, h1, h3⟩
  · rename_i hu
    rw [hu] at h
    obtain ⟨vs, ts', h1, h2, h3⟩ := h
    rw [hf] at h2; cases h2
    exact ⟨vs, h1, h3⟩
  · cases hs
theorem InpA.cell {t : TypeId} {u : Value} (hs : isStruct P t = false) (h : InpA P H t u) : Inp P H 8 t u := by
  unfold isStruct at hs
  unfold InpA at h
  split at hs
  · cases hs
  · cases hs
  · split at h
    · simp_all
    · simp_all
    · exact h
theorem Inp.int {n : Nat} {t : TypeId} {k : IntKind} {v : Value} (hi : isInt P t k = true) (h : Inp P H n t v) : ∃ z, v = .int k z ∧ (Lit.int k z).wf = true := by
  cases n with
  | zero => exact h.elim
  | succ n =>
    unfold isInt at hi
    unfold Inp at h
    split at hi
    · rename_i k' hu
      rw [hu] at h
      have := eq_of_beq hi
      subst this
      exact h
    · cases hi
theorem Inp.bool {n : Nat} {t : TypeId} {v : Value} (hi : isBool P t = true) (h : Inp P H n t v) : ∃ b, v = .bool b := by
  cases n with
  | zero => exact h.elim
  | succ n =>
    unfold isBool at hi
    unfold Inp at h
    split at hi
    · rename_i hu; rw [hu] at h; exact h
    · cases hi
theorem Inp.slice {n : Nat} {t e : TypeId} {ts : List TypeId} {v : Value} (hi : isSlice P t e = true) (hf : flatT P 9 e = some ts) (h : Inp P H (n + 1) t v) :
    v = .slice none 0 0 ∨ (∃ i, v = .slice (some ⟨i, 0, none⟩) 0 0) ∨
      ∃ i l b, v = .slice (some ⟨i, 0, some 0⟩) l 2 ∧ 0 < l ∧ l ≤ maxLen ∧ H.get i = some b ∧ b.ver = 0 ∧ b.ro = true ∧ All2 (Inp P H n) (rep ts l) b.cells := by
  unfold isSlice at hi
  unfold Inp at h
  split at hi
  · rename_i e' hu
    rw [hu] at h
    have := eq_of_beq hi
    subst this
    rcases h with h | h | ⟨i, l, b, ts', h1, h2, h3, h4, h5, h6, h7, h8⟩
    · exact .inl h
    · exact .inr (.inl h)
    · rw [hf] at h7; cases h7
      exact .inr (.inr ⟨i, l, b, h1, h2, h3, h4, h5, h6, h8⟩)
  · cases hi

theorem All2.nil_inv {α β : Type} {p : α → β → Prop} {m : List β} (h : All2 p [] m) : m = [] := by cases h; rfl
theorem All2.cons_inv {α β : Type} {p : α → β → Prop} {a : α} {l : List α} {m : List β} (h : All2 p (a :: l) m) : ∃ b m', m = b :: m' ∧ p a b ∧ All2 p l m' := by
  cases h with
  | cons h t => exact ⟨_, _, rfl, h, t⟩
end
end Go.Proofs.SakAm

/-
  The numbers of a group of 64, rising: by its bits.
-/
namespace Go.Proofs.SakAm
set_option linter.unusedSectionVars false
set_option linter.unusedVariables false
set_option linter.unusedSimpArgs false
open Go

/-- The numbers from lo on, n places looked at. -/
def els (g : Nat) : Nat → Nat → List Nat
  | _, 0 => []
  | lo, n + 1 => if g.testBit lo = true then lo :: els g (lo + 1) n else els g (lo + 1) n

theorem els_none (g : Nat) : ∀ (n lo : Nat), (∀ k, lo ≤ k → k < lo + n → g.testBit k = false) → els g lo n = []
  | 0, _, _ => rfl
  | n + 1, lo, h => by
    have h0 := h lo (Nat.le_refl _) (by omega)
    simp only [els, h0]
    exact els_none g n (lo + 1) fun k h1 h2 => h k (by omega) (by omega)

theorem els_some (g c : Nat) (hc : g.testBit c = true) : ∀ (n lo : Nat), lo ≤ c → c < lo + n → (∀ k, lo ≤ k → k < c → g.testBit k = false) → els g lo n = c :: els g (c + 1) (lo + n - (c + 1))
  | 0, _, h1, h2, _ => by omega
  | n + 1, lo, h1, h2, h => by
    by_cases hlo : lo = c
    · subst hlo
      simp only [els, hc, if_true]
      congr 2
      omega
    · have h0 := h lo (Nat.le_refl _) (by omega)
      simp only [els, h0]
      have := els_some g c hc n (lo + 1) (by omega) (by omega) fun k h1 h2 => h k (by omega) h2
      rw [show lo + (n + 1) - (c + 1) = lo + 1 + n - (c + 1) from by omega]
      simpa using this

/-- g without its numbers below lo. -/
def above (g lo : Nat) : Nat := g &&& (18446744073709551615 - (2 ^ lo - 1))

theorem above_bit (g lo k : Nat) (hlo : lo ≤ 64) (hk : k < 64) : (above g lo).testBit k = (g.testBit k && decide (lo ≤ k)) := by
  have hp : (2 : Nat) ^ lo ≤ 2 ^ 64 := Nat.pow_le_pow_right (by decide) hlo
  have h0 : 0 < (2 : Nat) ^ lo := Nat.pow_pos (by decide)
  have e : 18446744073709551615 - (2 ^ lo - 1) = 2 ^ 64 - ((2 ^ lo - 1) + 1) := by
    rw [show (18446744073709551615 : Nat) = 2 ^ 64 - 1 from rfl]; omega
  unfold above
  rw [Nat.testBit_and, e, Nat.testBit_two_pow_sub_succ (by omega), Nat.testBit_two_pow_sub_one]
  by_cases h : lo ≤ k
  · simp [h, hk, show ¬ k < lo from by omega]
  · simp [h, hk, show k < lo from by omega]

theorem above_lt (g lo : Nat) (hg : g < 18446744073709551616) : above g lo < 18446744073709551616 := Nat.lt_of_le_of_lt Nat.and_le_left hg

theorem above_zero (g : Nat) (hg : g < 18446744073709551616) : above g 0 = g := by
  apply Nat.eq_of_testBit_eq
  intro k
  by_cases hk : k < 64
  · rw [above_bit g 0 k (by omega) hk]; simp
  · have h2 : (2 : Nat) ^ 64 ≤ 2 ^ k := Nat.pow_le_pow_right (by decide) (by omega)
    have h1 : g < 2 ^ k := by omega
    have h3 : above g 0 < 2 ^ k := Nat.lt_of_le_of_lt Nat.and_le_left h1
    rw [Nat.testBit_lt_two_pow h1, Nat.testBit_lt_two_pow h3]

theorem ctz_bit (y : Nat) (hy : y ≠ 0) (hlt : y < 18446744073709551616) : Lib.ctz 64 y < 64 ∧ y.testBit (Lib.ctz 64 y) = true ∧ ∀ k, k < Lib.ctz 64 y → y.testBit k = false := by
  obtain ⟨m, hm, hc⟩ := Lib.ctzFrom_spec 64 y (by omega) hlt
  have e : Lib.ctz 64 y = Lib.ctzFrom 64 y := by simp [Lib.ctz, hy]
  rw [e]
  generalize Lib.ctzFrom 64 y = c at hm hc
  refine ⟨hc, ?_, fun k hk => ?_⟩
  · rw [hm, Nat.mul_comm, Nat.testBit_mul_two_pow]
    simp
  · rw [hm, Nat.mul_comm, Nat.testBit_mul_two_pow]
    simp [show ¬ c ≤ k from by omega]

theorem els_above_none (g lo : Nat) (hlo : lo ≤ 64) (h : above g lo = 0) : els g lo (64 - lo) = [] := by
  refine els_none g _ _ fun k h1 h2 => ?_
  have := above_bit g lo k hlo (by omega)
  rw [h, Nat.zero_testBit] at this
  simpa [h1] using this.symm

theorem els_above_some (g lo : Nat) (hg : g < 18446744073709551616) (hlo : lo ≤ 64) (h : above g lo ≠ 0) :
    Lib.ctz 64 (above g lo) < 64 ∧ lo ≤ Lib.ctz 64 (above g lo) ∧ els g lo (64 - lo) = Lib.ctz 64 (above g lo) :: els g (Lib.ctz 64 (above g lo) + 1) (64 - (Lib.ctz 64 (above g lo) + 1)) := by
  obtain ⟨h1, h2, h3⟩ := ctz_bit _ h (above_lt g lo hg)
  rw [above_bit g lo _ hlo h1] at h2
  simp only [Bool.and_eq_true, decide_eq_true_eq] at h2
  refine ⟨h1, h2.2, ?_⟩
  rw [els_some g _ h2.1 (64 - lo) lo h2.2 (by omega) fun k k1 k2 => ?_]
  · rw [show lo + (64 - lo) = 64 from by omega]
  · have := h3 k k2
    rw [above_bit g lo k hlo (by omega)] at this
    simpa [k1] using this

theorem above_key (g lo : Nat) (hg : g < 18446744073709551616) (hlo : lo < 64) : bits .andNot .u64 (g : Int) ((2 ^ lo - 1 : Nat) : Int) = (above g lo : Nat) := by
  have hp : (2 : Nat) ^ lo ≤ 2 ^ 63 := Nat.pow_le_pow_right (by decide) (by omega)
  rw [u64_andNot_nat g _ hg (by omega)]
  rfl

theorem els_length (g : Nat) : ∀ (n lo : Nat), (els g lo n).length ≤ n
  | 0, _ => by simp [els]
  | n + 1, lo => by
    have := els_length g n (lo + 1)
    simp only [els]; split <;> simp <;> omega
end Go.Proofs.SakAm

/-
  A call that hands back the list of a group's numbers, as a block of the call's own.
-/
namespace Go.Proofs.SakAm
set_option linter.unusedVariables false
set_option linter.unusedSimpArgs false
open Go
open Go.RowKit (Below)

/-- The table in its variable. -/
def TabAt (g : Nat) (tab : List Nat) (w : World) : Prop := ∀ j, j < tab.length → w.cell? ⟨g, j, none⟩ = some (.int .u8 (tab.getD j 0))

theorem TabAt.below {g : Nat} {tab : List Nat} {n : Nat} {w w' : World} (h : TabAt g tab w) (hb : Below n w w') (hg : g < n) : TabAt g tab w' :=
  fun j hj => (hb.cell (p := ⟨g, j, none⟩) hg).trans (h j hj)

/-- A world whose one table is known. -/
abbrev tabsOf (g : Nat) (tab : List Nat) : Tabs where
  good B w0 := g < B ∧ TabAt g tab w0
  keep h hB hb := ⟨Nat.lt_of_lt_of_le (Nat.lt_of_lt_of_le h.1 hB) hb.size, h.2.below hb h.1⟩

/-- Any world. -/
abbrev tabsNone : Tabs where
  good _ _ := True
  keep _ _ _ := trivial

set_option linter.unusedSectionVars false
variable [Tabs]

/-- The list of a group's numbers. -/
def listRes (t : TypeId) (g : Nat) (H : Heap) : Value × Heap :=
  if els g 0 64 = [] then (.slice none 0 0, H)
  else (.slice (some ⟨H.next, 0, some 0⟩) (els g 0 64).length 1, H.new ⟨(els g 0 64).map (fun x : Nat => Value.int .i64 x), t, 0, false⟩)

/-- The call. -/
def listX (fid : FuncId) (t : TypeId) (f : FuncId) (args : List Value) (H : Heap) : Option (Value × Heap) :=
  if f = fid then
    match args with
    | [.int .u64 g] => if 0 ≤ g ∧ g < 18446744073709551616 then some (listRes t g.toNat H) else none
    | _ => none
  else none

section
variable {P : Program} {fid : FuncId} {t : TypeId}

theorem listX_inv {f : FuncId} {args : List Value} {H : Heap} {r : Value × Heap} (h : listX fid t f args H = some r) :
    f = fid ∧ ∃ g : Nat, args = [.int .u64 (g : Nat)] ∧ g < 18446744073709551616 ∧ r = listRes t g H := by
  unfold listX at h
  split at h
  · rename_i hf
    split at h
    · rename_i g
      split at h
      · rename_i hg
        cases h
        exact ⟨hf, g.toNat, by rw [Int.toNat_of_nonneg hg.1], by omega, rfl⟩
      · cases h
    · cases h
  · cases h

theorem listX_over : CallOver (listX fid t) := by
  intro E f args G v G' D h
  obtain ⟨rfl, g, rfl, hg, hr⟩ := listX_inv h
  have e : ∀ H, listX f t f [.int .u64 (g : Nat)] H = some (listRes t g H) := by
    intro H
    simp only [listX, if_true]
    rw [if_pos ⟨by omega, by omega⟩]
    simp
  rw [e]
  unfold listRes at hr ⊢
  split at hr
  · rename_i h0; cases hr; rw [if_pos h0]; exact ⟨rfl, D⟩
  · rename_i h0
    cases hr
    rw [if_neg h0]
    obtain ⟨k1, k2⟩ := over_new D ⟨(els g 0 64).map (fun x : Nat => Value.int .i64 x), t, 0, false⟩
    rw [k1]
    exact ⟨rfl, k2⟩

theorem listX_none : ∀ E f args G, Disj E G → listX fid t f args G = none → listX fid t f args (over E G) = none := by
  intro E f args G D h
  unfold listX at h ⊢
  split at h
  · rename_i hf
    rw [if_pos hf]
    split at h
    · split at h
      · cases h
      · rename_i hg; rw [if_neg hg]
    · rfl
  · rename_i hf; rw [if_neg hf]

/-- A block of the model's that the call has made, wherever it lies. -/
theorem Rel.gain {B : Nat} {w0 w w' : World} {φ : Nat → Place} {H : Heap} (R : Rel P B w0 φ H w) (hb : Below w.heap.size w w') {at_ : Nat} (ha : w.heap.size ≤ at_) {b : Blk} {c : Array Value}
    (hat : w'.heap[at_]? = some (.cells c b.elem (0, 0))) (hl : b.cells.length ≤ c.size) (hc : ∀ (j : Nat) (v : Value), b.cells[j]? = some v → SakAm.leaf v = true ∧ c[j]? = some v) :
    Rel P B w0 (lay φ H.next ⟨at_, 0, c.size⟩) (H.new b) w' ∧ Ext φ H (lay φ H.next ⟨at_, 0, c.size⟩) (H.new b) := by
  have hext : Ext φ H (lay φ H.next ⟨at_, 0, c.size⟩) (H.new b) := by
    refine ⟨by simp, fun j d hd => ?_⟩
    have hj := Heap.lt_of_get hd
    exact ⟨d, by rw [new_old hj]; exact hd, Nat.le_refl _, fun _ => ⟨by simp [lay, show j ≠ H.next from by omega], rfl, rfl⟩⟩
  have hold := R.below hb
  have hlt : ∀ j d, H.get j = some d → (φ j).at_ < w.heap.size := by
    intro j d hd
    obtain ⟨c2, e2, fz2, hw2, _⟩ := R.cell j d hd
    rcases Nat.lt_or_ge (φ j).at_ w.heap.size with k | k
    · exact k
    · rw [Array.getElem?_eq_none k] at hw2; cases hw2
  have leafone : ∀ v, SakAm.leaf v = true → SakAm.one v = true := by intro v hv; cases v <;> simp_all [SakAm.leaf, SakAm.one]
  refine ⟨⟨hold.bel, hold.base, fun i d hd => ?_, fun i j d d' hd hd' hf hij => ?_⟩, hext⟩
  · rw [new_get] at hd
    split at hd
    · rename_i hi
      subst hi
      cases hd
      refine ⟨c, b.elem, (0, 0), by simpa [lay] using hat, by simp [lay]; omega, fun j v hj => ?_, fun _ => ⟨by simp [lay], by simp [lay], rfl, rfl, ?_⟩⟩
      · obtain ⟨h1, h2⟩ := hc j v hj
        exact ⟨leafone v h1, v, by simpa [lay] using h2, .leaf v h1⟩
      · have := R.size
        simp only [lay, if_true]; omega
    · rename_i hi
      obtain ⟨c2, e2, fz2, hw2, hl2, hc2, ho2⟩ := hold.cell i d hd
      refine ⟨c2, e2, fz2, by simpa [lay, hi] using hw2, by simpa [lay, hi] using hl2, fun k v hk => ?_, by simpa [lay, hi] using ho2⟩
      obtain ⟨h1, u, h2, h3⟩ := hc2 k v hk
      exact ⟨h1, u, by simpa [lay, hi] using h2, h3.ext hext⟩
  · rw [new_get] at hd hd'
    split at hd
    · rename_i hi
      split at hd'
      · rename_i hj; rw [hi, hj]
      · rename_i hj
        have := hlt j d' hd'
        simp [lay, hi, hj] at hij
        omega
    · rename_i hi
      split at hd'
      · rename_i hj
        have := hlt i d hd
        simp [lay, hi, hj] at hij
        omega
      · rename_i hj
        simp only [lay, if_neg hi, if_neg hj] at hij
        exact hold.inj i j d d' hd hd' hf hij

theorem listX_sound (hb : (bodyOf P fid).isSome = true) (hcell : P.cellsOf t = 1)
    (hc : ∀ (g : Nat) (B : Nat) (w0 w : World), g < 18446744073709551616 → Tabs.good B w0 → B ≤ w0.heap.size → Below B w0 w →
      Calls P fid #[.int .u64 (g : Nat)] w fun e W' => ∃ v, e = .returned v ∧ W'.ownsRow w.heap.size t 1 v (els g 0 64).length ((els g 0 64).map (fun x : Nat => Value.int .i64 x)) ∧ (v = .slice none 0 0 ↔ els g 0 64 = []) ∧ Below w.heap.size w W') :
    CallSound P (listX fid t) := by
  intro f args H v H' h
  obtain ⟨rfl, g, rfl, hg, hr⟩ := listX_inv h
  refine ⟨hb, fun B w0 φ w argsC R hl => ?_⟩
  have ha : argsC = #[.int .u64 (g : Nat)] := by
    obtain ⟨l⟩ := argsC
    cases hl with
    | cons h1 h2 => cases h2; rw [h1.int_inv]
  subst ha
  refine (hc g B w0 w hg R.base.2 R.base.1 R.bel).mono fun e W' he => ?_
  obtain ⟨u, rfl, hown, hnil, hbel⟩ := he
  unfold listRes at hr
  split at hr
  · rename_i h0
    cases hr
    rw [hnil.2 h0]
    exact ⟨φ, _, rfl, R.below hbel, Ext.refl _ _, .leaf _ rfl⟩
  · rename_i h0
    cases hr
    obtain ⟨hlen, hcase⟩ := hown
    rcases hcase with ⟨rfl, _⟩ | ⟨blk, cap, cur, rfl, hge, hat, rest⟩
    · exact absurd (hnil.1 rfl) h0
    · obtain ⟨hnc, _, hcs, htake⟩ := rest
      rw [Nat.mul_one] at hcs htake
      have hlen' : ((els g 0 64).map (fun x : Nat => Value.int .i64 x)).length = (els g 0 64).length := by simp
      obtain ⟨k1, k2⟩ := R.gain hbel hge (b := ⟨(els g 0 64).map (fun x : Nat => Value.int .i64 x), t, 0, false⟩) hat (by show _ ≤ cur.size; rw [hlen']; omega) fun j v hj => by
        have hlt : j < (els g 0 64).length := by rw [← hlen']; exact (List.getElem?_eq_some_iff.1 hj).1
        refine ⟨?_, ?_⟩
        · simp only [List.getElem?_map, Option.map_eq_some_iff] at hj
          obtain ⟨a, _, rfl⟩ := hj
          rfl
        · have := congrArg (fun l : List Value => l[j]?) htake
          rw [List.getElem?_take, if_pos hlt, Array.getElem?_toList] at this
          rw [this]; exact hj
      refine ⟨_, _, rfl, k1, k2, ?_⟩
      refine .slice _ _ _ _ _ ⟨(els g 0 64).map (fun x : Nat => Value.int .i64 x), t, 0, false⟩ _ _ (by simp) (Nat.le_refl _) hnc fun _ _ => ⟨by simp [lay], fun _ _ => ?_⟩
      simp [lay, hcell]; omega
end
end Go.Proofs.SakAm

/-
  Whose a block is: a heap as a list of what is held, each part apart from the others, beside what never turns again.
-/
namespace Go.Proofs.SakAm
set_option linter.unusedSimpArgs false
open Go
variable [Tabs]
set_option linter.unusedSectionVars false
set_option linter.unusedVariables false

/-- What is known for good: blocks that never turn again. -/
abbrev Kept := Nat → Option Blk

/-- Numbers and what lies there: a block, or nothing yet. -/
abbrev Cells := List (Nat × Option Blk)

/-- What is said of a part of a heap. -/
abbrev Asrt := Cells → Prop

structure Holds (K : Kept) (H : Heap) (s : Cells) : Prop where
  kept : ∀ i b, K i = some b → H.get i = some b
  nodup : (s.map Prod.fst).Nodup
  at_ : ∀ p, p ∈ s → H.get p.1 = p.2 ∧ p.1 < H.next ∧ K p.1 = none

/-- Several parts, apart from each other. -/
def star : List Asrt → Asrt
  | [], s => s = []
  | A :: L, s => ∃ s1 s2, s = s1 ++ s2 ∧ A s1 ∧ star L s2

/-- The heap holds these parts. -/
def Own (K : Kept) (H : Heap) (L : List Asrt) : Prop := ∃ s, star L s ∧ Holds K H s

section
variable {K : Kept} {H H' : Heap} {L L' : List Asrt} {s t : Cells} {A B : Asrt}

theorem Holds.perm (h : Holds K H s) (p : s.Perm t) : Holds K H t :=
  ⟨h.kept, (p.map Prod.fst).nodup_iff.1 h.nodup, fun q hq => h.at_ q (p.mem_iff.2 hq)⟩

theorem star_perm (p : L.Perm L') : ∀ s, star L s → ∃ t, s.Perm t ∧ star L' t := by
  induction p with
  | nil => intro s h; exact ⟨s, .refl _, h⟩
  | cons A _ ih =>
    rintro s ⟨s1, s2, rfl, h1, h2⟩
    obtain ⟨t, p, ht⟩ := ih s2 h2
    exact ⟨s1 ++ t, p.append_left s1, s1, t, rfl, h1, ht⟩
  | swap A B l =>
    rintro s ⟨s1, s2, rfl, h1, s3, s4, rfl, h3, h4⟩
    refine ⟨s3 ++ (s1 ++ s4), ?_, s3, s1 ++ s4, rfl, h3, s1, s4, rfl, h1, h4⟩
    rw [← List.append_assoc, ← List.append_assoc]
    exact List.perm_append_comm.append_right s4
  | trans _ _ i1 i2 =>
    intro s h
    obtain ⟨t, p, ht⟩ := i1 s h
    obtain ⟨u, q, hu⟩ := i2 t ht
    exact ⟨u, p.trans q, hu⟩

theorem Own.perm (own : Own K H L) (p : L.Perm L') : Own K H L' := by
  obtain ⟨s, h1, h2⟩ := own
  obtain ⟨t, q, ht⟩ := star_perm p s h1
  exact ⟨t, ht, h2.perm q⟩

/-- The k-th comes first. -/
def up {α : Type _} : Nat → List α → List α
  | 0, l => l
  | _ + 1, [] => []
  | k + 1, a :: l => match up k l with
    | [] => [a]
    | b :: m => b :: a :: m

theorem up_perm {α : Type _} : ∀ (k : Nat) (l : List α), (up k l).Perm l
  | 0, l => .refl _
  | _ + 1, [] => .refl _
  | k + 1, a :: l => by
    have := up_perm k l
    unfold up
    split
    · rename_i h; rw [h] at this; rw [← this.nil_eq]
    · rename_i b m h
      rw [h] at this
      exact (List.Perm.swap a b m).trans (this.cons a)

/-- The first becomes the k-th. -/
def dn {α : Type _} : Nat → List α → List α
  | 0, l => l
  | _ + 1, [] => []
  | _ + 1, [a] => [a]
  | k + 1, a :: b :: l => b :: dn k (a :: l)

theorem dn_perm {α : Type _} : ∀ (k : Nat) (l : List α), (dn k l).Perm l
  | 0, l => .refl _
  | _ + 1, [] => .refl _
  | _ + 1, [a] => .refl _
  | k + 1, a :: b :: l => by
    have := dn_perm k (a :: l)
    exact (this.cons b).trans (List.Perm.swap a b l)

theorem Own.up (k : Nat) (own : Own K H L) : Own K H (SakAm.up k L) := own.perm (up_perm k L).symm
theorem Own.dn (k : Nat) (own : Own K H L) : Own K H (SakAm.dn k L) := own.perm (dn_perm k L).symm

theorem Own.tl (own : Own K H (A :: L)) : Own K H L := by
  obtain ⟨s, ⟨s1, s2, rfl, _, h2⟩, h⟩ := own
  refine ⟨s2, h2, h.kept, ?_, fun p hp => h.at_ p (List.mem_append_right _ hp)⟩
  have := h.nodup
  rw [List.map_append] at this
  exact (List.nodup_append.1 this).2.1

theorem Own.nil (h : Own K H L) : Own K H [] := by
  induction L with
  | nil => exact h
  | cons A L ih => exact ih h.tl

theorem Own.imp (own : Own K H (A :: L)) (h : ∀ s, A s → B s) : Own K H (B :: L) := by
  obtain ⟨s, ⟨s1, s2, rfl, h1, h2⟩, k⟩ := own
  exact ⟨_, ⟨s1, s2, rfl, h _ h1, h2⟩, k⟩

/-- A part that says that there is something. -/
def exA {α : Type} (A : α → Asrt) : Asrt := fun s => ∃ x, A x s
/-- A part with something that is so. -/
def andA (p : Prop) (A : Asrt) : Asrt := fun s => p ∧ A s
/-- Several parts as one. -/
def packA (L : List Asrt) : Asrt := star L

theorem Own.ex {α : Type} {A : α → Asrt} (own : Own K H (exA A :: L)) : ∃ x, Own K H (A x :: L) := by
  obtain ⟨s, ⟨s1, s2, rfl, ⟨x, h1⟩, h2⟩, k⟩ := own
  exact ⟨x, _, ⟨s1, s2, rfl, h1, h2⟩, k⟩
theorem Own.toEx {α : Type} {A : α → Asrt} (x : α) (own : Own K H (A x :: L)) : Own K H (exA A :: L) := own.imp fun _ h => ⟨x, h⟩
theorem Own.and {p : Prop} (own : Own K H (andA p A :: L)) : p ∧ Own K H (A :: L) := by
  obtain ⟨s, ⟨s1, s2, rfl, ⟨hp, h1⟩, h2⟩, k⟩ := own
  exact ⟨hp, _, ⟨s1, s2, rfl, h1, h2⟩, k⟩
theorem Own.toAnd {p : Prop} (hp : p) (own : Own K H (A :: L)) : Own K H (andA p A :: L) := own.imp fun _ h => ⟨hp, h⟩

theorem star_append : ∀ {M : List Asrt} {s : Cells}, star (M ++ L) s ↔ ∃ s1 s2, s = s1 ++ s2 ∧ star M s1 ∧ star L s2
  | [], s => ⟨fun h => ⟨[], s, rfl, rfl, h⟩, fun ⟨s1, s2, e, h1, h2⟩ => by cases h1; rw [e]; exact h2⟩
  | A :: M, s => by
    constructor
    · rintro ⟨s1, s2, rfl, h1, h2⟩
      obtain ⟨t1, t2, rfl, k1, k2⟩ := star_append.1 h2
      exact ⟨s1 ++ t1, t2, by simp, ⟨s1, t1, rfl, h1, k1⟩, k2⟩
    · rintro ⟨s1, s2, rfl, ⟨t1, t2, rfl, h1, h2⟩, h3⟩
      exact ⟨t1, t2 ++ s2, by simp, h1, star_append.2 ⟨t2, s2, rfl, h2, h3⟩⟩

theorem Own.opn {M : List Asrt} (own : Own K H (packA M :: L)) : Own K H (M ++ L) := by
  obtain ⟨s, ⟨s1, s2, rfl, h1, h2⟩, k⟩ := own
  exact ⟨_, star_append.2 ⟨s1, s2, rfl, h1, h2⟩, k⟩
theorem Own.pack {M : List Asrt} (own : Own K H (M ++ L)) : Own K H (packA M :: L) := by
  obtain ⟨s, h, k⟩ := own
  obtain ⟨s1, s2, rfl, h1, h2⟩ := star_append.1 h
  exact ⟨_, ⟨s1, s2, rfl, h1, h2⟩, k⟩
theorem Own.pack2 {A B : Asrt} (own : Own K H (A :: B :: L)) : Own K H (packA [A, B] :: L) := Own.pack (M := [A, B]) own
theorem Own.pack3 {A B C : Asrt} (own : Own K H (A :: B :: C :: L)) : Own K H (packA [A, B, C] :: L) := Own.pack (M := [A, B, C]) own
theorem Own.pack4 {A B C D : Asrt} (own : Own K H (A :: B :: C :: D :: L)) : Own K H (packA [A, B, C, D] :: L) := Own.pack (M := [A, B, C, D]) own

/-! ### One block -/

/-- A block at a number. -/
def BlkA (i : Nat) (b : Blk) : Asrt := fun s => s = [(i, some b)]
/-- A box, or a row as it was made: a block that was never appended to. -/
def BoxA (i : Nat) (t : TypeId) (cs : List Value) : Asrt := BlkA i ⟨cs, t, 0, false⟩
/-- A number that is kept for a block. -/
def FreeA (i : Nat) : Asrt := fun s => s = [(i, none)]

theorem Own.get {i : Nat} {b : Blk} (own : Own K H (BlkA i b :: L)) : H.get i = some b ∧ i < H.next := by
  obtain ⟨s, ⟨s1, s2, rfl, rfl, h2⟩, k⟩ := own
  have := k.at_ (i, some b) (by simp)
  exact ⟨this.1, this.2.1⟩

theorem Own.blk {i : Nat} {b : Blk} (own : Own K H (BlkA i b :: L)) : blk H i b.ver = some b := by
  simp [SakAm.blk, own.get.1]

theorem Own.rd {i : Nat} {t : TypeId} {cs : List Value} (own : Own K H (BoxA i t cs :: L)) : SakAm.blk H i 0 = some ⟨cs, t, 0, false⟩ := Own.blk own

theorem Own.kblk {i : Nat} {b : Blk} (own : Own K H L) (h : K i = some b) : SakAm.blk H i b.ver = some b := by
  obtain ⟨s, _, k⟩ := own
  simp [SakAm.blk, k.kept i b h]

theorem Own.upd {i : Nat} {b : Blk} (own : Own K H (BlkA i b :: L)) (b' : Blk) : Own K (H.upd i b') (BlkA i b' :: L) := by
  obtain ⟨s, ⟨s1, s2, rfl, rfl, h2⟩, k⟩ := own
  have hi := k.at_ (i, some b) (by simp)
  refine ⟨[(i, some b')] ++ s2, ⟨_, s2, rfl, rfl, h2⟩, ⟨fun j c hj => ?_, ?_, fun p hp => ?_⟩⟩
  · have hne : j ≠ i := by rintro rfl; rw [hi.2.2] at hj; cases hj
    rw [upd_get, if_neg (by simp [hne])]; exact k.kept j c hj
  · simpa using k.nodup
  · simp only [List.singleton_append, List.mem_cons] at hp
    rcases hp with rfl | hp
    · exact ⟨by rw [upd_get, if_pos ⟨rfl, hi.2.1⟩], hi.2.1, hi.2.2⟩
    · have h3 := k.at_ p (by simp [hp])
      have hne : p.1 ≠ i := by
        have := k.nodup
        simp only [List.singleton_append, List.map_cons, List.nodup_cons] at this
        intro e
        exact this.1 (by rw [← e]; exact List.mem_map_of_mem hp)
      exact ⟨by rw [upd_get, if_neg (by simp [hne])]; exact h3.1, h3.2⟩

theorem Own.fill {i : Nat} (own : Own K H (FreeA i :: L)) (b : Blk) : Own K (H.upd i b) (BlkA i b :: L) := by
  obtain ⟨s, ⟨s1, s2, rfl, rfl, h2⟩, k⟩ := own
  have hi := k.at_ (i, none) (by simp)
  refine ⟨[(i, some b)] ++ s2, ⟨_, s2, rfl, rfl, h2⟩, ⟨fun j c hj => ?_, ?_, fun p hp => ?_⟩⟩
  · have hne : j ≠ i := by rintro rfl; rw [hi.2.2] at hj; cases hj
    rw [upd_get, if_neg (by simp [hne])]; exact k.kept j c hj
  · simpa using k.nodup
  · simp only [List.singleton_append, List.mem_cons] at hp
    rcases hp with rfl | hp
    · exact ⟨by rw [upd_get, if_pos ⟨rfl, hi.2.1⟩], hi.2.1, hi.2.2⟩
    · have h3 := k.at_ p (by simp [hp])
      have hne : p.1 ≠ i := by
        have := k.nodup
        simp only [List.singleton_append, List.map_cons, List.nodup_cons] at this
        intro e
        exact this.1 (by rw [← e]; exact List.mem_map_of_mem hp)
      exact ⟨by rw [upd_get, if_neg (by simp [hne])]; exact h3.1, h3.2⟩

theorem Own.free_get {i : Nat} (own : Own K H (FreeA i :: L)) : H.get i = none ∧ i < H.next := by
  obtain ⟨s, ⟨s1, s2, rfl, rfl, h2⟩, k⟩ := own
  have hi := k.at_ (i, none) (by simp)
  exact ⟨hi.1, hi.2.1⟩

theorem Own.new (own : Own K H L) (b : Blk) : Own K (H.new b) (BlkA H.next b :: L) := by
  obtain ⟨s, h2, k⟩ := own
  refine ⟨[(H.next, some b)] ++ s, ⟨_, s, rfl, rfl, h2⟩, ⟨fun j c hj => ?_, ?_, fun p hp => ?_⟩⟩
  · rw [new_old (Heap.lt_of_get (k.kept j c hj))]; exact k.kept j c hj
  · simp only [List.singleton_append, List.map_cons, List.nodup_cons]
    refine ⟨fun hm => ?_, k.nodup⟩
    obtain ⟨p, hp, e⟩ := List.mem_map.1 hm
    have := (k.at_ p hp).2.1
    omega
  · simp only [List.singleton_append, List.mem_cons] at hp
    rcases hp with rfl | hp
    · refine ⟨new_self, by simp, ?_⟩
      cases hK : K H.next with
      | none => rfl
      | some c => have := Heap.lt_of_get (k.kept _ c hK); omega
    · have h3 := k.at_ p hp
      exact ⟨by rw [new_old h3.2.1]; exact h3.1, by simp; omega, h3.2.2⟩

theorem Own.res1 {n : Nat} (own : Own K H L) : Own K (H.reserve n) L := by
  obtain ⟨s, h2, k⟩ := own
  exact ⟨s, h2, ⟨k.kept, k.nodup, fun p hp => by have := k.at_ p hp; exact ⟨this.1, by simp; omega, this.2.2⟩⟩⟩

/-- Numbers kept for later. -/
theorem Own.reserve (own : Own K H L) (n : Nat) : ∀ ks : List Nat, ks.Nodup → ks.all (fun k => decide (k < n)) = true → Own K (H.reserve n) (ks.map (fun k => FreeA (H.next + k)) ++ L)
  | [], _, _ => own.res1
  | k :: ks, hn, hk => by
    simp only [List.nodup_cons] at hn
    simp only [List.all_cons, Bool.and_eq_true, decide_eq_true_eq] at hk
    have base : ∀ ks : List Nat, ks.Nodup → ks.all (fun k => decide (k < n)) = true → ∃ s, star L s ∧ Holds K (H.reserve n) (ks.map (fun k => (H.next + k, none)) ++ s) := by
      intro ks hn hk
      obtain ⟨s, h2, k⟩ := own
      refine ⟨s, h2, k.kept, ?_, fun p hp => ?_⟩
      · simp only [List.map_append, List.map_map]
        refine List.nodup_append.2 ⟨?_, k.nodup, ?_⟩
        · have hinj : ∀ ks : List Nat, ks.Nodup → (ks.map (Prod.fst ∘ fun k => ((H.next + k, none) : Nat × Option Blk))).Nodup := by
            intro ks
            induction ks with
            | nil => intro _; simp
            | cons a l ih =>
              intro h
              simp only [List.nodup_cons] at h
              simp only [List.map_cons, List.nodup_cons]
              refine ⟨fun hm => ?_, ih h.2⟩
              obtain ⟨x, hx, e⟩ := List.mem_map.1 hm
              simp only [Function.comp] at e
              have : x = a := by omega
              exact h.1 (this ▸ hx)
          exact hinj ks hn
        · intro a ha b hb e
          obtain ⟨x, hx, e1⟩ := List.mem_map.1 ha
          obtain ⟨y, hy, e2⟩ := List.mem_map.1 hb
          have := (k.at_ y hy).2.1
          simp only [Function.comp] at e1
          omega
      · rw [List.mem_append] at hp
        rcases hp with hp | hp
        · obtain ⟨x, hx, rfl⟩ := List.mem_map.1 hp
          have hlt := of_decide_eq_true (List.all_eq_true.1 hk x hx)
          refine ⟨H.wf _ (by simp), by simp; omega, ?_⟩
          cases hK : K (H.next + x) with
          | none => rfl
          | some c => have := Heap.lt_of_get (k.kept _ c hK); omega
        · have := k.at_ p hp; exact ⟨this.1, by simp; omega, this.2.2⟩
    obtain ⟨s, h1, h2⟩ := base (k :: ks) (List.nodup_cons.2 hn) (by simp [hk.1]; simpa using hk.2)
    have hs : ∀ ks : List Nat, star (ks.map (fun k => FreeA (H.next + k)) ++ L) (ks.map (fun k => ((H.next + k, none) : Nat × Option Blk)) ++ s) := by
      intro ks
      induction ks with
      | nil => exact h1
      | cons a l ih => exact ⟨[(H.next + a, none)], _, rfl, rfl, ih⟩
    exact ⟨_, hs (k :: ks), h2⟩

/-! ### What never turns again -/

def Kept.add (K : Kept) (i : Nat) (b : Blk) : Kept := fun j => if j = i then some b else K j
def Kept.le (K K' : Kept) : Prop := ∀ i b, K i = some b → K' i = some b

theorem Kept.le.refl (K : Kept) : K.le K := fun _ _ h => h
theorem Kept.le.trans {K K' K'' : Kept} (h : K.le K') (k : K'.le K'') : K.le K'' := fun i b e => k i b (h i b e)

theorem Own.freeze {i : Nat} {b : Blk} (own : Own K H (BlkA i b :: L)) : Own (K.add i b) H L ∧ K.le (K.add i b) := by
  obtain ⟨s, ⟨s1, s2, rfl, rfl, h2⟩, k⟩ := own
  have hi := k.at_ (i, some b) (by simp)
  refine ⟨⟨s2, h2, ⟨fun j c hj => ?_, ?_, fun p hp => ?_⟩⟩, fun j c hj => ?_⟩
  · unfold Kept.add at hj
    split at hj
    · rename_i e; cases hj; rw [e]; exact hi.1
    · exact k.kept j c hj
  · have := k.nodup
    simp only [List.singleton_append, List.map_cons, List.nodup_cons] at this
    exact this.2
  · have h3 := k.at_ p (by simp [hp])
    have hne : p.1 ≠ i := by
      have := k.nodup
      simp only [List.singleton_append, List.map_cons, List.nodup_cons] at this
      intro e
      exact this.1 (by rw [← e]; exact List.mem_map_of_mem hp)
    refine ⟨h3.1, h3.2.1, ?_⟩
    unfold Kept.add
    rw [if_neg hne]; exact h3.2.2
  · unfold Kept.add
    split
    · rename_i e; rw [e, hi.2.2] at hj; cases hj
    · exact hj

theorem Kept.add_self {i : Nat} {b : Blk} : (Kept.add K i b) i = some b := by simp [Kept.add]

/-- What came in never turns. -/
def Kept.of (H : Heap) : Kept := H.get
theorem Own.start (H : Heap) : Own (Kept.of H) H [] := ⟨[], rfl, ⟨fun _ _ h => h, by simp, fun _ h => by simp at h⟩⟩
end
end Go.Proofs.SakAm

/-
  The operations on memory, by what is held: boxes, rows, slices that grow, slices that never turn.
-/
namespace Go.Proofs.SakAm
set_option linter.unusedSimpArgs false
open Go
variable [Tabs]
set_option linter.unusedSectionVars false
set_option linter.unusedVariables false

section
variable {K K' : Kept} {H H' : Heap} {L : List Asrt}

/-! ### Boxes and rows -/

theorem mkbox_own (own : Own K H L) (t : TypeId) (v : Value) (cs : List Value) (hc : cellsOf v = cs) (h1 : cs.all one = true) :
    ∃ i H', mkbox H none t v = some (.pointer (some ⟨i, 0, some 0⟩), H') ∧ Own K H' (BoxA i t cs :: L) := by
  subst hc
  exact ⟨_, _, mkbox_none h1, own.new _⟩

theorem mkbox_at {i : Nat} (own : Own K H (FreeA i :: L)) (t : TypeId) (v : Value) (cs : List Value) (hc : cellsOf v = cs) (h1 : cs.all one = true) :
    ∃ H', mkbox H (some i) t v = some (.pointer (some ⟨i, 0, some 0⟩), H') ∧ Own K H' (BoxA i t cs :: L) := by
  subst hc
  obtain ⟨g1, g2⟩ := own.free_get
  exact ⟨_, by simp only [mkbox, if_pos h1, mkAt, g1, if_pos g2, Option.bind_some], own.fill _⟩

theorem mkrow_own (own : Own K H L) (e : TypeId) (n : Nat) (cs : List Value) (h1 : cs.all one = true) :
    ∃ i H', mkrow H none e n cs = some (.slice (some ⟨i, 0, some 0⟩) n 1, H') ∧ Own K H' (BoxA i e cs :: L) :=
  ⟨_, _, by simp only [mkrow, if_pos h1, mkAt, Option.bind_some], own.new _⟩

theorem mkrow_at {i : Nat} (own : Own K H (FreeA i :: L)) (e : TypeId) (n : Nat) (cs : List Value) (h1 : cs.all one = true) :
    ∃ H', mkrow H (some i) e n cs = some (.slice (some ⟨i, 0, some 0⟩) n 1, H') ∧ Own K H' (BoxA i e cs :: L) := by
  obtain ⟨g1, g2⟩ := own.free_get
  exact ⟨_, by simp only [mkrow, if_pos h1, mkAt, g1, if_pos g2, Option.bind_some], own.fill _⟩

theorem st1_own {i : Nat} {t : TypeId} {cs : List Value} (own : Own K H (BoxA i t cs :: L)) (o : Nat) (v : Value) (ho : o < cs.length) (hv : one v = true) :
    ∃ H', st1 H (.pointer (some ⟨i, o, some 0⟩)) v = some H' ∧ Own K H' (BoxA i t (cs.set o v) :: L) := by
  refine ⟨_, ?_, own.upd _⟩
  simp only [st1, own.rd, Option.bind_some]
  rw [if_pos ⟨trivial, ho, hv⟩]

theorem stA_own {i : Nat} {t : TypeId} {cs : List Value} (own : Own K H (BoxA i t cs :: L)) (o n : Nat) (v : Value) (vs : List Value) (hc : cellsOf v = vs) (hn : vs.length = n) (ho : o + n ≤ cs.length) (hv : vs.all one = true) :
    ∃ H', stA H n (.pointer (some ⟨i, o, some 0⟩)) v = some H' ∧ Own K H' (BoxA i t (splice cs o vs) :: L) := by
  subst hc
  refine ⟨_, ?_, own.upd _⟩
  simp only [stA, own.rd, Option.bind_some]
  rw [if_pos ⟨trivial, ho, hn, hv⟩]

/-! ### Slices that grow -/

/-- A slice's header, of a slice of one's own: none, or a block, how often it was appended to, and how long it is. -/
inductive Hd where
  | nil
  | blk (i vr n : Nat)

def Hd.val : Hd → Value
  | .nil => .slice none 0 0
  | .blk i vr n => .slice (some ⟨i, 0, some vr⟩) n 1
def Hd.n : Hd → Nat
  | .nil => 0
  | .blk _ _ n => n
/-- Where a cell of it lies. -/
def Hd.pt (h : Hd) (o : Nat) : Value :=
  match h with
  | .nil => .pointer (some ⟨0, o, some 0⟩)
  | .blk i vr _ => .pointer (some ⟨i, o, some vr⟩)

/-- A slice of one's own. -/
def SlA (h : Hd) (e : TypeId) (z : Nat) (cs : List Value) : Asrt :=
  match h with
  | .nil => fun s => s = [] ∧ cs = []
  | .blk i vr n => fun s => s = [(i, some ⟨cs, e, vr, false⟩)] ∧ cs.length = n * z

variable {h : Hd} {e : TypeId} {z : Nat} {cs : List Value}

@[simp] theorem Hd.alen_val : alen h.val = some (.int .i64 h.n) := by cases h <;> rfl
@[simp] theorem Hd.one_val : one h.val = true := by cases h <;> rfl
@[simp] theorem Hd.slen_val : slen h.val = h.n := by cases h <;> rfl
@[simp] theorem Hd.cellsOf_val : cellsOf h.val = [h.val] := by cases h <;> rfl
@[simp] theorem Hd.fadd_pt {o f : Nat} : fadd f (h.pt o) = some (h.pt (o + f)) := by cases h <;> rfl
@[simp] theorem Hd.nilc_pt {o : Nat} : nilc (h.pt o) = some (h.pt o) := by cases h <;> rfl
@[simp] theorem Hd.one_pt {o : Nat} : one (h.pt o) = true := by cases h <;> rfl
theorem valEq_hd : valEq h.val h.val = true := by cases h <;> simp [Hd.val, valEq, leafEq]
@[simp] theorem tells_hd : tells (some h.val) h.val = true := valEq_hd
@[simp] theorem tells_int {k : IntKind} {x : Int} : tells (some (.int k x)) (.int k x) = true := by simp [tells, valEq, leafEq]
@[simp] theorem tells_bool {x : Bool} : tells (some (.bool x)) (.bool x) = true := by simp [tells, valEq, leafEq]
@[simp] theorem tells_ptr {p : Option Addr} : tells (some (.pointer p)) (.pointer p) = true := by simp [tells, valEq, leafEq]
@[simp] theorem tells_slice {p : Option Addr} {l f : Nat} : tells (some (.slice p l f)) (.slice p l f) = true := by simp [tells, valEq, leafEq]
@[simp] theorem tells_str {s : ByteArray} : tells (some (.string s)) (.string s) = true := by simp [tells, valEq, leafEq]

theorem SlA.len {s : Cells} (k : SlA h e z cs s) : cs.length = h.n * z := by
  cases h with
  | nil => simp [SlA] at k; simp [k.2, Hd.n]
  | blk i vr n => exact k.2

theorem Own.slen (own : Own K H (SlA h e z cs :: L)) : cs.length = h.n * z := by
  obtain ⟨s, ⟨s1, s2, rfl, k, _⟩, _⟩ := own
  exact k.len

theorem Own.slblk {i vr n : Nat} (own : Own K H (SlA (.blk i vr n) e z cs :: L)) : Own K H (BlkA i ⟨cs, e, vr, false⟩ :: L) := own.imp fun _ k => k.1

theorem Own.nil_cs (own : Own K H (SlA .nil e z cs :: L)) : cs = [] := by
  obtain ⟨s, ⟨s1, s2, rfl, k, _⟩, _⟩ := own
  exact k.2

theorem hd_sadd {k : IntKind} {x : Int} (h0 : 0 ≤ x) (h1 : x < h.n) : sadd z h.val (.int k x) = some (h.pt (x.toNat * z)) := by
  cases h with
  | nil => simp [Hd.n] at h1; omega
  | blk i vr n =>
    simp only [Hd.n] at h1
    simp only [Hd.val, sadd, if_pos (show 0 ≤ x ∧ x < (n : Int) from ⟨h0, h1⟩), Hd.pt, Nat.zero_add]

theorem ld1_sl (own : Own K H (SlA h e z cs :: L)) {o : Nat} {v : Value} (hv : cs[o]? = some v) : ld1 H (h.pt o) = some v := by
  cases h with
  | nil => rw [own.nil_cs] at hv; cases hv
  | blk i vr n =>
    have := own.slblk.blk
    simp only at this
    simp only [Hd.pt, ld1, this, Option.bind_some]
    exact hv

theorem ldA_sl (own : Own K H (SlA h e z cs :: L)) {o n : Nat} (hv : o + n ≤ cs.length) (hn : 0 < n) : ldA H n (h.pt o) = some (.agg ((cs.drop o).take n).toArray) := by
  cases h with
  | nil => rw [own.nil_cs] at hv; simp at hv; omega
  | blk i vr m =>
    have := own.slblk.blk
    simp only at this
    simp only [Hd.pt, ldA, this, Option.bind_some]
    rw [if_pos hv]

theorem st1_sl (own : Own K H (SlA h e z cs :: L)) (o : Nat) (v : Value) (ho : o < cs.length) (hv : one v = true) :
    ∃ H', st1 H (h.pt o) v = some H' ∧ Own K H' (SlA h e z (cs.set o v) :: L) := by
  cases h with
  | nil => rw [own.nil_cs] at ho; simp at ho
  | blk i vr m =>
    have h2 := own.slblk.blk
    have h3 := own.slen
    simp only at h2
    refine ⟨H.upd i ⟨cs.set o v, e, vr, false⟩, ?_, (own.slblk.upd _).imp fun s k => ⟨k, by simpa [Hd.n] using h3⟩⟩
    simp only [Hd.pt, st1, h2, Option.bind_some]
    rw [if_pos ⟨trivial, ho, hv⟩]

theorem stA_sl (own : Own K H (SlA h e z cs :: L)) (o n : Nat) (v : Value) (vs : List Value) (hc : cellsOf v = vs) (hn : vs.length = n) (ho : o + n ≤ cs.length) (hn0 : 0 < n) (hv : vs.all one = true) :
    ∃ H', stA H n (h.pt o) v = some H' ∧ Own K H' (SlA h e z (splice cs o vs) :: L) := by
  subst hc
  cases h with
  | nil => rw [own.nil_cs] at ho; simp at ho; omega
  | blk i vr m =>
    have h2 := own.slblk.blk
    have h3 := own.slen
    simp only at h2
    refine ⟨H.upd i ⟨splice cs o (cellsOf v), e, vr, false⟩, ?_, (own.slblk.upd _).imp fun s k => ⟨k, ?_⟩⟩
    · simp only [Hd.pt, stA, h2, Option.bind_some]
      rw [if_pos ⟨trivial, ho, hn, hv⟩]
    · simp only [Hd.n] at h3
      simp only [splice, List.length_append, List.length_take, List.length_drop]
      omega

theorem slnil : ∀ (own : Own K H L) (e : TypeId) (z : Nat), Own K H (SlA .nil e z [] :: L) := by
  rintro ⟨s, h1, h2⟩ e z
  exact ⟨s, ⟨[], s, rfl, ⟨rfl, rfl⟩, h1⟩, h2⟩

/-- A row is a slice. -/
theorem Own.toSl {i : Nat} {n : Nat} (own : Own K H (BoxA i e cs :: L)) (hn : cs.length = n * z) : Own K H (SlA (.blk i 0 n) e z cs :: L) := own.imp fun _ k => ⟨k, hn⟩

/-- append: the block grows. -/
theorem append_own (own : Own K H (SlA h e z cs :: L)) {x : Value} {new : List Value} {m bytes : Nat} (hr : rowOf H z x = some new) (hx : SakAm.slen x = m) (hm : new.length = m * z) (hpos : 0 < m)
    (hb : (2 * (h.n + m) + 1024) * bytes ≤ 2 ^ 47) (hb2 : h.n + m < 2 ^ 62) :
    ∃ (h' : Hd) (H' : Heap), aappend H e z bytes h.val x = some (h'.val, H') ∧ h'.n = h.n + m ∧ Own K H' (SlA h' e z (cs ++ new) :: L) := by
  subst hx
  have hlen := own.slen
  cases h with
  | nil =>
    have hcs := own.nil_cs
    subst hcs
    refine ⟨.blk H.next 0 (SakAm.slen x), H.new ⟨new, e, 0, false⟩, ?_, by simp [Hd.n], ?_⟩
    · simp only [Hd.n, Nat.zero_add] at hb hb2
      simp only [aappend, hr, Option.bind_some, Hd.val, show SakAm.slen (.slice none 0 0) = 0 from rfl, Nat.zero_add]
      rw [if_pos ⟨hb, hb2⟩, if_neg (by omega)]
    · exact (own.tl.new ⟨new, e, 0, false⟩).imp fun s k => ⟨k, by simpa using hm⟩
  | blk i vr n =>
    have h2 := own.slblk.blk
    simp only at h2
    simp only [Hd.n] at hlen hb hb2
    refine ⟨.blk i (vr + 1) (n + SakAm.slen x), H.upd i ⟨cs ++ new, e, vr + 1, false⟩, ?_, by simp [Hd.n], (own.slblk.upd _).imp fun s k => ⟨k, by simp [hlen, hm, Nat.add_mul]⟩⟩
    simp only [aappend, hr, Option.bind_some, Hd.val, show SakAm.slen (.slice (some ⟨i, 0, some vr⟩) n 1) = n from rfl]
    rw [if_pos ⟨hb, hb2⟩, if_neg (by omega)]
    simp only [h2, Option.bind_some]
    rw [if_pos ⟨trivial, trivial, hlen⟩]

/-- append of nothing. -/
theorem append_none (h : Hd) (H : Heap) {e : TypeId} {z bytes : Nat} {x : Value} {new : List Value} (hr : rowOf H z x = some new) (hx : SakAm.slen x = 0) (hb : (2 * h.n + 1024) * bytes ≤ 2 ^ 47) (hb2 : h.n < 2 ^ 62) :
    aappend H e z bytes h.val x = some (h.val, H) := by
  cases h with
  | nil =>
    simp only [Hd.n] at hb hb2
    simp only [aappend, hr, Option.bind_some, Hd.val, hx, show SakAm.slen (.slice none 0 0) = 0 from rfl, Nat.add_zero]
    rw [if_pos ⟨hb, hb2⟩]
    simp
  | blk i vr n =>
    simp only [Hd.n] at hb hb2
    simp only [aappend, hr, Option.bind_some, Hd.val, hx, show SakAm.slen (.slice (some ⟨i, 0, some vr⟩) n 1) = n from rfl, Nat.add_zero]
    rw [if_pos ⟨hb, hb2⟩]
    simp

theorem rowOf_row {i : Nat} {t : TypeId} (own : Own K H (BoxA i t cs :: L)) {n z : Nat} (hn : cs.length = n * z) : rowOf H z (.slice (some ⟨i, 0, some 0⟩) n 1) = some cs := by
  simp only [rowOf]
  by_cases h0 : n = 0
  · rw [if_pos h0]
    subst h0
    rw [Nat.zero_mul] at hn
    rw [List.eq_nil_of_length_eq_zero hn]
  · rw [if_neg h0, own.rd]
    simp only [Option.bind_some, Nat.zero_add]
    rw [if_pos (by omega), List.drop_zero, ← hn, List.take_length]

theorem rowOf_sl (own : Own K H (SlA h e z cs :: L)) : rowOf H z h.val = some cs := by
  cases h with
  | nil => rw [own.nil_cs]; rfl
  | blk i vr n =>
    have h2 := own.slblk.blk
    have hn := own.slen
    simp only at h2
    simp only [Hd.n] at hn
    simp only [rowOf, Hd.val]
    by_cases h0 : n = 0
    · rw [if_pos h0]
      subst h0
      rw [Nat.zero_mul] at hn
      rw [List.eq_nil_of_length_eq_zero hn]
    · rw [if_neg h0, h2]
      simp only [Option.bind_some, Nat.zero_add]
      rw [if_pos (by omega), List.drop_zero, ← hn, List.take_length]

/-! ### Slices that never turn -/

/-- A slice of n elements of z cells that is known for good. -/
def RdSl (K : Kept) (v : Value) (z n : Nat) (cs : List Value) : Prop :=
  cs.length = n * z ∧ ∃ p f, v = .slice p n f ∧ (p = none → n = 0 ∧ f = 0) ∧
    (n = 0 ∨ ∃ i o vr b, p = some ⟨i, o, some vr⟩ ∧ K i = some b ∧ b.ver = vr ∧ o + n * z ≤ b.cells.length ∧ (b.cells.drop o).take (n * z) = cs) ∧
    (∀ a, p = some a → a.spot = none → n = 0)

theorem RdSl.mono {v : Value} {n : Nat} (le : K.le K') (r : RdSl K v z n cs) : RdSl K' v z n cs := by
  obtain ⟨h1, p, f, h2, h3, h4, h5⟩ := r
  refine ⟨h1, p, f, h2, h3, ?_, h5⟩
  rcases h4 with h4 | ⟨i, o, vr, b, k1, k2, k3⟩
  · exact .inl h4
  · exact .inr ⟨i, o, vr, b, k1, le i b k2, k3⟩

theorem RdSl.alen {v : Value} {n : Nat} (r : RdSl K v z n cs) : SakAm.alen v = some (.int .i64 n) := by
  obtain ⟨_, p, f, rfl, _⟩ := r; rfl
theorem RdSl.slen {v : Value} {n : Nat} (r : RdSl K v z n cs) : SakAm.slen v = n := by
  obtain ⟨_, p, f, rfl, _⟩ := r; rfl
theorem RdSl.one {v : Value} {n : Nat} (r : RdSl K v z n cs) : SakAm.one v = true := by
  obtain ⟨_, p, f, rfl, _⟩ := r; rfl
theorem RdSl.cellsOf {v : Value} {n : Nat} (r : RdSl K v z n cs) : SakAm.cellsOf v = [v] := by
  obtain ⟨_, p, f, rfl, _⟩ := r; rfl
theorem RdSl.tells {v : Value} {n : Nat} (r : RdSl K v z n cs) : SakAm.tells (some v) v = true := by
  obtain ⟨_, p, f, rfl, _⟩ := r; simp
theorem RdSl.valEq {v : Value} {n : Nat} (r : RdSl K v z n cs) : leafEq v v = true := by
  obtain ⟨_, p, f, rfl, _⟩ := r; simp [leafEq]

/-- Where an element of it lies. -/
def sptr (z : Nat) (v : Value) (j : Nat) : Value :=
  match v with
  | .slice (some ⟨i, o, some vr⟩) _ _ => .pointer (some ⟨i, o + j * z, some vr⟩)
  | _ => undef

theorem RdSl.sadd {v : Value} {n : Nat} (r : RdSl K v z n cs) {k : IntKind} {x : Int} (h0 : 0 ≤ x) (h1 : x < n) : SakAm.sadd z v (.int k x) = some (sptr z v x.toNat) := by
  obtain ⟨_, p, f, rfl, _, h4, _⟩ := r
  rcases h4 with h4 | ⟨i, o, vr, b, rfl, _⟩
  · omega
  · simp only [SakAm.sadd, if_pos (And.intro h0 h1), sptr]

theorem RdSl.cell {v : Value} {n : Nat} (r : RdSl K v z n cs) (own : Own K H L) {j m : Nat} (hj : j < n) (hm : m < z) :
    ∃ i o vr b, sptr z v j = .pointer (some ⟨i, o, some vr⟩) ∧ blk H i vr = some b ∧ b.cells[o + m]? = cs[j * z + m]? ∧ o + z ≤ b.cells.length ∧ (b.cells.drop o).take z = (cs.drop (j * z)).take z := by
  obtain ⟨hl, p, f, rfl, _, h4, _⟩ := r
  rcases h4 with h4 | ⟨i, o, vr, b, rfl, hK, hv, hle, hcs⟩
  · omega
  · have hjz : j * z + z ≤ n * z := by rw [← Nat.succ_mul]; exact Nat.mul_le_mul_right z hj
    refine ⟨i, o + j * z, vr, b, rfl, hv ▸ own.kblk hK, ?_, by omega, ?_⟩
    · rw [← hcs, List.getElem?_take, if_pos (by omega), List.getElem?_drop]
      congr 1; omega
    · rw [← hcs, List.drop_take, List.drop_drop, List.take_take]
      congr 1; omega

theorem RdSl.ld1 {v : Value} {n : Nat} (r : RdSl K v z n cs) (own : Own K H L) {j : Nat} (hj : j < n) (hz : 0 < z) : ld1 H (sptr z v j) = cs[j * z]? := by
  obtain ⟨i, o, vr, b, e, h1, h2, _⟩ := r.cell own hj hz
  rw [e, ld1_ptr, h1]
  simpa using h2

theorem RdSl.ldA {v : Value} {n : Nat} (r : RdSl K v z n cs) (own : Own K H L) {j : Nat} (hj : j < n) (hz : 0 < z) : ldA H z (sptr z v j) = some (.agg ((cs.drop (j * z)).take z).toArray) := by
  obtain ⟨i, o, vr, b, e, h1, _, h3, h4⟩ := r.cell own hj hz
  rw [e, ldA_ptr, h1]
  simp only [Option.bind_some]
  rw [if_pos h3, h4]

theorem RdSl.fld {v : Value} {n : Nat} (r : RdSl K v z n cs) (own : Own K H L) {j m : Nat} (hj : j < n) (hm : m < z) : (fadd m (sptr z v j)).bind (SakAm.ld1 H) = cs[j * z + m]? := by
  obtain ⟨i, o, vr, b, e, h1, h2, _⟩ := r.cell own hj hm
  rw [e, fadd_ptr, Option.bind_some, ld1_ptr, h1]
  simpa using h2

theorem RdSl.row {v : Value} {n : Nat} (r : RdSl K v z n cs) (own : Own K H L) : rowOf H z v = some cs := by
  obtain ⟨hl, p, f, rfl, h3, h4, h5⟩ := r
  by_cases h0 : n = 0
  · subst h0
    rw [Nat.zero_mul] at hl
    rw [List.eq_nil_of_length_eq_zero hl]
    cases p with
    | none => obtain ⟨_, rfl⟩ := h3 rfl; rfl
    | some a =>
      obtain ⟨i, o, s⟩ := a
      cases s with
      | none => rfl
      | some vr => simp [rowOf]
  · rcases h4 with h4 | ⟨i, o, vr, b, rfl, hK, hv, hle, hcs⟩
    · exact absurd h4 h0
    · simp only [rowOf]
      have := own.kblk hK
      rw [hv] at this
      rw [if_neg h0, this]
      simp only [Option.bind_some]
      rw [if_pos hle, hcs]

theorem RdSl.nil (K : Kept) (z : Nat) : RdSl K (.slice none 0 0) z 0 [] :=
  ⟨by simp, none, 0, rfl, fun _ => ⟨rfl, rfl⟩, .inl rfl, fun a h => nomatch h⟩

theorem RdSl.empty (K : Kept) (z i : Nat) : RdSl K (.slice (some ⟨i, 0, none⟩) 0 0) z 0 [] :=
  ⟨by simp, _, 0, rfl, (fun h => nomatch h), .inl rfl, fun a h _ => rfl⟩

theorem RdSl.of {i n : Nat} {b : Blk} (hK : K i = some b) (hn : b.cells.length = n * z) (f : Nat) : RdSl K (.slice (some ⟨i, 0, some b.ver⟩) n f) z n b.cells :=
  ⟨hn, _, f, rfl, (fun h => nomatch h), .inr ⟨i, 0, b.ver, b, rfl, hK, rfl, by omega, by rw [List.drop_zero, ← hn, List.take_length]⟩, fun a h => by cases h; exact fun h => by cases h⟩

/-- A slice of one's own is given up: it is only read from here on. -/
theorem Own.freezeSl (own : Own K H (SlA h e z cs :: L)) : ∃ K', K.le K' ∧ Own K' H L ∧ RdSl K' h.val z h.n cs := by
  cases h with
  | nil => rw [own.nil_cs]; exact ⟨K, .refl K, own.tl, RdSl.nil K z⟩
  | blk i vr n =>
    have hn := own.slen
    obtain ⟨h1, h2⟩ := own.slblk.freeze
    exact ⟨_, h2, h1, RdSl.of (b := ⟨cs, e, vr, false⟩) Kept.add_self hn 1⟩
end
end Go.Proofs.SakAm

/-
  The plain model: accesses, events, registers, a board, and the counters' reckoning, as lists and numbers alone.
-/
namespace Go.Proofs.SakAm
set_option linter.unusedVariables false
set_option linter.unusedSimpArgs false
set_option linter.unusedSectionVars false
open Go


/-! ### Counters -/

/-- Is a number one of this kind? -/
def InR (k : IntKind) (x : Int) : Prop := k.wrap x = x

def wadd (k : IntKind) (a n : Int) : Int := k.wrap (a + k.wrap n)
def wsg (k : IntKind) (x : Int) : Int :=
  match k with
  | .u32 => IntKind.wrap .i64 (IntKind.wrap .i32 x)
  | _ => IntKind.wrap .i64 x
def wdiff (k : IntKind) (a b : Int) : Int := wsg k (k.wrap (a - b))

theorem wrap32 (n : Int) : IntKind.u32.wrap n = n % 4294967296 := by simp [IntKind.wrap, IntKind.bits, IntKind.signed]
theorem wrap64 (n : Int) : IntKind.u64.wrap n = n % 18446744073709551616 := by simp [IntKind.wrap, IntKind.bits, IntKind.signed]
theorem wrap8 (n : Int) : IntKind.u8.wrap n = n % 256 := by simp [IntKind.wrap, IntKind.bits, IntKind.signed]
theorem wrapi32 (n : Int) : IntKind.i32.wrap n = (n + 2147483648) % 4294967296 - 2147483648 := IntKind.wrap_i32 n
theorem wrapi64 (n : Int) : IntKind.i64.wrap n = (n + 9223372036854775808) % 18446744073709551616 - 9223372036854775808 := IntKind.wrap_i64 n

/-- A number of 64 digits with a sign. -/
theorem wi (x : Int) (h0 : -9223372036854775808 ≤ x) (h1 : x < 9223372036854775808) : IntKind.i64.wrap x = x := by
  rw [wrapi64]; omega
theorem wu64 (x : Int) (h0 : 0 ≤ x) (h1 : x < 18446744073709551616) : IntKind.u64.wrap x = x := by
  rw [wrap64]; omega
theorem wu32 (x : Int) (h0 : 0 ≤ x) (h1 : x < 4294967296) : IntKind.u32.wrap x = x := by
  rw [wrap32]; omega

theorem inR_wrap32 (x : Int) : InR .u32 (IntKind.u32.wrap x) := by unfold InR; simp only [wrap32]; omega
theorem inR_wrap64 (x : Int) : InR .u64 (IntKind.u64.wrap x) := by unfold InR; simp only [wrap64]; omega
theorem inR32 {x : Int} : InR .u32 x ↔ 0 ≤ x ∧ x < 4294967296 := by unfold InR; rw [wrap32]; omega
theorem inR64 {x : Int} : InR .u64 x ↔ 0 ≤ x ∧ x < 18446744073709551616 := by unfold InR; rw [wrap64]; omega
theorem InR.up {x : Int} (h : InR .u32 x) : InR .u64 x := by rw [inR32] at h; rw [inR64]; omega

/-! ### What there is -/

/-- An access. -/
structure Acc where
  t : Int
  kd : Int
  c : Int
  old : Int
  new : Int
/-- An event without data. -/
structure Ev where
  kd : Int
  t : Int
  n : Int
  pos : Int
/-- Registers. -/
structure Rg where
  op : Int
  n : Int
  phase : Int
  pc : Int
  i : Int
  j : Int
  fr : Int
  mn : Int
  vl : Int
  ow : Int
/-- A board: counters, data, accesses. -/
structure Bd where
  has : List Int
  data : List Int
  log : List Acc
/-- A layout. up: the header of its lists. -/
structure Ly where
  var : Int
  width : Int
  cap : Int
  prod : Int
  start : Int
  up : Value
  cursor : Int
  claim : Int
  ticket : Int
  serving : Int
  next : Int
  marks : Int
  slots : Int
  cells : Int

def Acc.cells (a : Acc) : List Value := [.int .i64 a.t, .int .i64 a.kd, .int .i64 a.c, .int .u64 a.old, .int .u64 a.new]
def Rg.cells (k : IntKind) (f : Rg) : List Value := [.int .i64 f.op, .int .i64 f.n, .int .i64 f.phase, .int .i64 f.pc, .int .i64 f.i, .int .i64 f.j, .int k f.fr, .int k f.mn, .int k f.vl, .int k f.ow, .slice none 0 0]
def Ly.conf (l : Ly) : List Value := [.int .i64 l.var, .int .i64 l.width, .int .i64 l.cap, .int .i64 l.prod, .int .u64 l.start, l.up]
def Ly.list (l : Ly) : List Value := [.int .i64 l.var, .int .i64 l.width, .int .i64 l.cap, .int .i64 l.prod, .int .u64 l.start, l.up, .int .i64 l.cursor, .int .i64 l.claim, .int .i64 l.ticket, .int .i64 l.serving, .int .i64 l.next, .int .i64 l.marks, .int .i64 l.slots, .int .i64 l.cells]
def Ly.val (l : Ly) : Value := .agg l.list.toArray
def Rg.zero : Rg := ⟨0, 0, 0, 0, 0, 0, 0, 0, 0, 0⟩

/-- An element of a list of numbers. -/
def at_ (l : List Int) (c : Int) : Int := l.getD c.toNat 0
def put_ (l : List Int) (c v : Int) : List Int := l.set c.toNat v

theorem at_get {l : List Int} {c : Int} (h0 : 0 ≤ c) (h1 : c < l.length) : l[c.toNat]? = some (at_ l c) := by
  have : c.toNat < l.length := by omega
  simp [at_, List.getD, List.getElem?_eq_getElem this]

theorem at_mem {l : List Int} {c : Int} (h0 : 0 ≤ c) (h1 : c < l.length) : at_ l c ∈ l := List.mem_of_getElem? (at_get h0 h1)

theorem map_at {k : IntKind} {l : List Int} {c : Int} (h0 : 0 ≤ c) (h1 : c < l.length) : (l.map (fun x => Value.int k x))[c.toNat]? = some (.int k (at_ l c)) := by
  rw [List.getElem?_map, at_get h0 h1]; rfl

@[simp] theorem put_length {l : List Int} {c v : Int} : (put_ l c v).length = l.length := by simp [put_]
theorem map_put {k : IntKind} {l : List Int} {c v : Int} : (l.map (fun x => Value.int k x)).set c.toNat (.int k v) = (put_ l c v).map (fun x => Value.int k x) := by
  simp [put_, List.map_set]

theorem mem_put {l : List Int} {c v x : Int} (h : x ∈ put_ l c v) : x ∈ l ∨ x = v := List.mem_or_eq_of_mem_set h

theorem at_put_self {l : List Int} {c v : Int} (h0 : 0 ≤ c) (h1 : c < l.length) : at_ (put_ l c v) c = v := by
  have : c.toNat < l.length := by omega
  simp [at_, put_, List.getD, this]
theorem at_put_other {l : List Int} {c d v : Int} (h0 : 0 ≤ c) (h1 : 0 ≤ d) (h : c ≠ d) : at_ (put_ l c v) d = at_ l d := by
  have : c.toNat ≠ d.toNat := by omega
  simp [at_, put_, List.getD, List.getElem?_set_ne this]

def Bd.note (B : Bd) (t kd c old new : Int) : Bd := { B with log := B.log ++ [⟨t, kd, c, old, new⟩] }
def Bd.look (B : Bd) (t kd c : Int) : Bd := B.note t kd c (at_ B.has c) (at_ B.has c)
def Bd.lay (B : Bd) (t kd c v : Int) : Bd := { B.note t kd c (at_ B.has c) v with has := put_ B.has c v }

/-- Are all counters numbers of a kind? -/
def Bd.Ok (k : IntKind) (B : Bd) : Prop := ∀ x, x ∈ B.has → InR k x

theorem Bd.Ok.at_ {k : IntKind} {B : Bd} (h : B.Ok k) {c : Int} (h0 : 0 ≤ c) (h1 : c < B.has.length) : InR k (at_ B.has c) := h _ (at_mem h0 h1)
theorem Bd.Ok.look {k : IntKind} {B : Bd} (h : B.Ok k) (t kd c : Int) : (B.look t kd c).Ok k := h
theorem Bd.Ok.lay {k : IntKind} {B : Bd} (h : B.Ok k) (t kd c : Int) {v : Int} (hv : InR k v) : (B.lay t kd c v).Ok k := by
  intro x hx
  rcases mem_put hx with h1 | h1
  · exact h x h1
  · rw [h1]; exact hv

/-- The kind of a cell. -/
def Ly.kind (l : Ly) (c : Int) : Int :=
  if 0 < l.cells ∧ 0 ≤ c ∧ c < l.cells then (if l.slots ≤ c then 3 else if 0 ≤ l.next ∧ l.next ≤ c then 2 else 1) else 0

/-- Where each of an array's parts lies. -/
theorem flat_len {α : Type} {l : List α} {f : α → List Value} {z : Nat} (hz : ∀ a, (f a).length = z) : (l.flatMap f).length = l.length * z := by
  induction l with
  | nil => simp
  | cons a l ih => simp [hz, ih, Nat.succ_mul, Nat.add_comm]

theorem flat_drop {α : Type} {f : α → List Value} {z : Nat} (hz : ∀ a, (f a).length = z) : ∀ {l : List α} {j : Nat}, (l.flatMap f).drop (j * z) = (l.drop j).flatMap f
  | [], j => by simp
  | a :: l, 0 => by simp
  | a :: l, j + 1 => by
    simp only [List.flatMap_cons, List.drop_succ_cons]
    rw [show (j + 1) * z = (f a).length + j * z from by rw [hz]; rw [Nat.succ_mul]; omega, List.drop_append, Nat.add_sub_cancel_left, flat_drop hz, List.drop_eq_nil_of_le (by omega), List.nil_append]

theorem flat_take {α : Type} {f : α → List Value} {z : Nat} (hz : ∀ a, (f a).length = z) {l : List α} {j : Nat} {a : α} (h : l[j]? = some a) : ((l.flatMap f).drop (j * z)).take z = f a := by
  rw [flat_drop hz]
  have : l.drop j = a :: l.drop (j + 1) := by
    have hj := (List.getElem?_eq_some_iff.1 h).1
    rw [List.drop_eq_getElem_cons hj]
    congr 1
    exact (List.getElem?_eq_some_iff.1 h).2
  rw [this, List.flatMap_cons, ← hz a, List.take_left]

theorem flat_get {α : Type} {f : α → List Value} {z : Nat} (hz : ∀ a, (f a).length = z) {l : List α} {j m : Nat} {a : α} (h : l[j]? = some a) (hm : m < z) : (l.flatMap f)[j * z + m]? = (f a)[m]? := by
  have := congrArg (fun l : List Value => l[m]?) (flat_take hz h)
  simp only [List.getElem?_take, if_pos hm, List.getElem?_drop] at this
  exact this
end Go.Proofs.SakAm
namespace Go.Proofs.SakAm
theorem obind_c {α β : Type} {x y : Option α} {f : α → Option β} (h : x = y) : x.bind f = y.bind f := by rw [h]
theorem condK_c {β : Type} {v u : Value} {x y : Option β} (h : v = u) : condK v x y = condK u x y := by rw [h]
theorem ifD_c {β : Type} {c d : Bool} {x : Option β} (h : c = d) : ifD c x = ifD d x := by rw [h]
end Go.Proofs.SakAm

/-
  Two things known of calls, together; and calls that hand back a text alone.
-/
namespace Go.Proofs.SakAm
set_option linter.unusedVariables false
set_option linter.unusedSimpArgs false
open Go
open Go.RowKit (Below)
set_option linter.unusedSectionVars false
variable [Tabs]

def orX (a b : FuncId → List Value → Heap → Option (Value × Heap)) : FuncId → List Value → Heap → Option (Value × Heap) := fun f args H =>
  match a f args H with
  | some r => some r
  | none => b f args H

section
variable {P : Program} {a b : FuncId → List Value → Heap → Option (Value × Heap)}

theorem orX_sound (ha : CallSound P a) (hb : CallSound P b) : CallSound P (orX a b) := by
  intro f args H v H' h
  unfold orX at h
  split at h
  · rename_i r hr
    cases h
    exact ha f args H v H' hr
  · exact hb f args H v H' h

theorem orX_over (ha : CallOver a) (ha0 : ∀ E f args G, Disj E G → a f args G = none → a f args (over E G) = none) (hb : CallOver b) : CallOver (orX a b) := by
  intro E f args G v G' D h
  unfold orX at h ⊢
  split at h
  · rename_i r hr
    cases h
    obtain ⟨h1, h2⟩ := ha E f args G v G' D hr
    rw [h1]; exact ⟨rfl, h2⟩
  · rename_i hr
    rw [ha0 E f args G D hr]
    exact hb E f args G v G' D h

theorem orX_none (ha0 : ∀ E f args G, Disj E G → a f args G = none → a f args (over E G) = none) (hb0 : ∀ E f args G, Disj E G → b f args G = none → b f args (over E G) = none) :
    ∀ E f args G, Disj E G → orX a b f args G = none → orX a b f args (over E G) = none := by
  intro E f args G D h
  unfold orX at h ⊢
  split at h
  · cases h
  · rename_i hr
    rw [ha0 E f args G D hr]
    exact hb0 E f args G D h
end

/-- A number of 64 digits as a text. -/
def textX (fid : FuncId) (g : Nat → ByteArray) (f : FuncId) (args : List Value) (H : Heap) : Option (Value × Heap) :=
  if f = fid then
    match args with
    | [.int .u64 x] => if 0 ≤ x ∧ x < 18446744073709551616 then some (.string (g x.toNat), H) else none
    | _ => none
  else none

section
variable {P : Program} {fid : FuncId} {g : Nat → ByteArray}

theorem textX_inv {f : FuncId} {args : List Value} {H : Heap} {r : Value × Heap} (h : textX fid g f args H = some r) :
    f = fid ∧ ∃ x : Nat, args = [.int .u64 (x : Nat)] ∧ x < 18446744073709551616 ∧ r = (.string (g x), H) := by
  unfold textX at h
  split at h
  · rename_i hf
    split at h
    · rename_i x
      split at h
      · rename_i hx
        cases h
        exact ⟨hf, x.toNat, by rw [Int.toNat_of_nonneg hx.1], by omega, rfl⟩
      · cases h
    · cases h
  · cases h

theorem textX_at (x : Nat) (hx : x < 18446744073709551616) (H : Heap) : textX fid g fid [.int .u64 (x : Nat)] H = some (.string (g x), H) := by
  simp only [textX, if_true]
  rw [if_pos ⟨by omega, by omega⟩]
  simp

theorem textX_over : CallOver (textX fid g) := by
  intro E f args G v G' D h
  obtain ⟨rfl, x, rfl, hx, hr⟩ := textX_inv h
  cases hr
  rw [textX_at x hx]
  exact ⟨rfl, D⟩

theorem textX_none : ∀ E f args G, Disj E G → textX fid g f args G = none → textX fid g f args (over E G) = none := by
  intro E f args G D h
  unfold textX at h ⊢
  split at h
  · rename_i hf
    rw [if_pos hf]
    split at h
    · split at h
      · cases h
      · rename_i hx; rw [if_neg hx]
    · rfl
  · rename_i hf; rw [if_neg hf]

theorem textX_sound (hb : (bodyOf P fid).isSome = true)
    (hc : ∀ (x : Nat) (w : World), x < 18446744073709551616 → Calls P fid #[.int .u64 (x : Nat)] w fun e W' => e = .returned (.string (g x)) ∧ Below w.heap.size w W') :
    CallSound P (textX fid g) := by
  intro f args H v H' h
  obtain ⟨rfl, x, rfl, hx, hr⟩ := textX_inv h
  cases hr
  refine ⟨hb, fun B w0 φ w argsC R hl => ?_⟩
  have ha : argsC = #[.int .u64 (x : Nat)] := by
    obtain ⟨l⟩ := argsC
    cases hl with
    | cons h1 h2 => cases h2; rw [h1.int_inv]
  subst ha
  refine (hc x w hx).mono fun e W' he => ?_
  obtain ⟨rfl, hbel⟩ := he
  exact ⟨φ, _, rfl, R.below hbel, Ext.refl _ _, .leaf _ rfl⟩
end
end Go.Proofs.SakAm
namespace Go.Proofs.SakAm
/-- A number's digits. -/
def digs : Nat → Nat → List UInt8
  | 0, _ => []
  | n + 1, x => if x < 10 then [UInt8.ofNat (48 + x)] else digs n (x / 10) ++ [UInt8.ofNat (48 + x % 10)]
/-- A number as a text. -/
def decB (x : Nat) : ByteArray := ⟨(digs 21 x).toArray⟩
end Go.Proofs.SakAm

/-
  Configurations and rings as numbers.
-/
namespace Go.Proofs.SakAm
set_option linter.unusedVariables false
set_option linter.unusedSimpArgs false
set_option linter.unusedSectionVars false
open Go

/-- A configuration. up: the header of its lists. -/
structure Cf where
  var : Int
  width : Int
  cap : Int
  prod : Int
  start : Int
  up : Value
def Cf.list (c : Cf) : List Value := [.int .i64 c.var, .int .i64 c.width, .int .i64 c.cap, .int .i64 c.prod, .int .u64 c.start, c.up]
def Cf.val (c : Cf) : Value := .agg c.list.toArray
def Ly.cf (l : Ly) : Cf := ⟨l.var, l.width, l.cap, l.prod, l.start, l.up⟩

/-- A capacity that may be. -/
def CapOk (c : Int) : Prop := c = 2 ∨ c = 4 ∨ c = 8 ∨ c = 16 ∨ c = 32 ∨ c = 64

/-- A configuration whose numbers may be. -/
structure GoodC (c : Cf) : Prop where
  v0 : 1 ≤ c.var
  v1 : c.var ≤ 5
  width : c.width = 32 ∨ c.width = 64
  cap : CapOk c.cap
  p0 : 1 ≤ c.prod
  p1 : c.prod ≤ 4
  one : c.var = 1 → c.prod = 1
  start : InR .u64 c.start
  up : SakAm.one c.up = true

theorem CapOk.pow {c : Int} (h : CapOk c) : ∃ j : Nat, 1 ≤ j ∧ j ≤ 6 ∧ c = 2 ^ j := by
  rcases h with h | h | h | h | h | h
  · exact ⟨1, by omega, by omega, h⟩
  · exact ⟨2, by omega, by omega, h⟩
  · exact ⟨3, by omega, by omega, h⟩
  · exact ⟨4, by omega, by omega, h⟩
  · exact ⟨5, by omega, by omega, h⟩
  · exact ⟨6, by omega, by omega, h⟩

theorem CapOk.lt {c : Int} (h : CapOk c) : 2 ≤ c ∧ c ≤ 64 := by
  rcases h with h | h | h | h | h | h <;> omega

/-- The last digits of a number. -/
theorem mask (n j : Nat) (x : Int) (h0 : 0 ≤ x) (h1 : x < ((2 ^ n : Nat) : Int)) (hj : j ≤ n) : ((BitVec.ofInt n x &&& BitVec.ofInt n (((2 ^ j : Nat) : Int) - 1)).toNat : Int) = x % ((2 ^ j : Nat) : Int) := by
  have hp : 0 < 2 ^ j := Nat.pow_pos (by decide)
  have hle : 2 ^ j ≤ 2 ^ n := Nat.pow_le_pow_right (by decide) hj
  rw [BitVec.toNat_and, BitVec.toNat_ofInt, BitVec.toNat_ofInt, Int.emod_eq_of_lt h0 h1, Int.emod_eq_of_lt (by omega) (by omega)]
  have e : (((2 ^ j : Nat) : Int) - 1).toNat = 2 ^ j - 1 := by omega
  rw [e, Nat.and_two_pow_sub_one_eq_mod]
  have : ((x.toNat % 2 ^ j : Nat) : Int) = (x.toNat : Int) % ((2 ^ j : Nat) : Int) := by simp
  rw [this, Int.toNat_of_nonneg h0]

theorem mask32 {c : Int} (h : CapOk c) (x : Int) (hx : InR .u32 x) : ((BitVec.ofInt 32 x &&& BitVec.ofInt 32 (c - 1)).toNat : Int) = x % c := by
  rw [inR32] at hx
  obtain ⟨j, _, h2, rfl⟩ := h.pow
  have := mask 32 j x hx.1 (by simpa using hx.2) (by omega)
  simpa using this
theorem mask64 {c : Int} (h : CapOk c) (x : Int) (hx : InR .u64 x) : ((BitVec.ofInt 64 x &&& BitVec.ofInt 64 (c - 1)).toNat : Int) = x % c := by
  rw [inR64] at hx
  obtain ⟨j, _, h2, rfl⟩ := h.pow
  have := mask 64 j x hx.1 (by simpa using hx.2) (by omega)
  simpa using this

def cutw (w x : Int) : Int := if w = 32 then x % 4294967296 else if w = 64 then x else 0
def kOf (w : Int) : IntKind := if w = 32 then .u32 else .u64

def lapFirst (k : IntKind) (cap slot start : Int) : Int := k.wrap (start + (slot - start) % cap)
def lapAhead (k : IntKind) (cap slot start : Int) : Int := k.wrap (lapFirst k cap slot start - cap) / cap

/-- What a cell of a counter has at first. -/
def firstV (l : Ly) (c : Int) : Int :=
  if c = l.ticket ∨ c = l.serving then 0
  else if 0 ≤ l.marks ∧ l.marks ≤ c then
    (if l.var = 4 then lapFirst (kOf l.width) l.cap (c - l.marks) (cutw l.width l.start) else lapAhead (kOf l.width) l.cap (c - l.marks) (cutw l.width l.start))
  else cutw l.width l.start

/-- The layout of a configuration with r consumers, whose lists were copied to uv. -/
def mkLy (c : Cf) (r : Int) (uv : Value) : Ly :=
  if c.var = 1 then ⟨c.var, c.width, c.cap, c.prod, c.start, uv, r, -1, -1, -1, -1, -1, r + 1, r + 1 + c.cap⟩
  else if c.var = 5 then ⟨c.var, c.width, c.cap, c.prod, c.start, uv, -1, -1, r, r + 1, r + 2, r + 3, r + 3 + c.cap, r + 3 + c.cap + c.cap⟩
  else ⟨c.var, c.width, c.cap, c.prod, c.start, uv, -1, r, -1, -1, -1, r + 1, r + 1 + c.cap, r + 1 + c.cap + c.cap⟩

/-- A layout as a call makes it, with r consumers. -/
structure GoodL (l : Ly) (r : Nat) : Prop where
  c : GoodC l.cf
  r0 : 1 ≤ r
  r1 : r ≤ 6
  n : alen l.up = some (.int .i64 r)
  eq : l = mkLy l.cf r l.up

theorem GoodL.slots {l : Ly} {r : Nat} (g : GoodL l r) : (r : Int) + 1 ≤ l.slots ∧ l.slots ≤ r + 3 + l.cap ∧ l.cells = l.slots + l.cap ∧ (l.marks = -1 ∧ l.slots = r + 1 ∨ 1 ≤ l.marks ∧ l.marks ≤ r + 3 ∧ l.slots = l.marks + l.cap) ∧ 2 ≤ l.cap ∧ l.cap ≤ 64 := by
  have hc := g.c.cap.lt
  have e := g.eq
  unfold mkLy at e
  have h0 := g.r0
  have hcf : l.cf.cap = l.cap := rfl
  rw [hcf] at hc e
  split at e
  · have e1 := congrArg Ly.slots e; have e2 := congrArg Ly.cells e; have e3 := congrArg Ly.marks e
    simp only at e1 e2 e3
    omega
  · split at e
    · have e1 := congrArg Ly.slots e; have e2 := congrArg Ly.cells e; have e3 := congrArg Ly.marks e
      simp only at e1 e2 e3
      omega
    · have e1 := congrArg Ly.slots e; have e2 := congrArg Ly.cells e; have e3 := congrArg Ly.marks e
      simp only at e1 e2 e3
      omega

theorem mkLy_good {c : Cf} (g : GoodC c) {r : Nat} (h0 : 1 ≤ r) (h1 : r ≤ 6) {uv : Value} (hu : one uv = true) (hn : alen uv = some (.int .i64 r)) : GoodL (mkLy c r uv) r := by
  have e : (mkLy c r uv).cf = ⟨c.var, c.width, c.cap, c.prod, c.start, uv⟩ := by
    unfold mkLy; split
    · rfl
    · split <;> rfl
  have e2 : (mkLy c r uv).up = uv := congrArg Cf.up e
  refine ⟨?_, h0, h1, by rw [e2]; exact hn, ?_⟩
  · rw [e]; exact ⟨g.v0, g.v1, g.width, g.cap, g.p0, g.p1, g.one, g.start, hu⟩
  · rw [e, e2]; rfl
end Go.Proofs.SakAm
namespace Go.Proofs.SakAm
open Go
theorem maskWu32 {c : Int} (h : CapOk c) (x : Int) (hx : InR .u32 x) : ((BitVec.ofInt (IntKind.bits .u32) x &&& BitVec.ofInt (IntKind.bits .u32) (c - 1)).toNat : Int) = x % c := mask32 h x hx
theorem maskWu64 {c : Int} (h : CapOk c) (x : Int) (hx : InR .u64 x) : ((BitVec.ofInt (IntKind.bits .u64) x &&& BitVec.ofInt (IntKind.bits .u64) (c - 1)).toNat : Int) = x % c := mask64 h x hx
section
variable [Tabs] {P : Program} {t : TypeId} {xo yo : Operand}
theorem abin_masku32 {c x : Int} (h : CapOk c) (hx : InR .u32 x) : abin P .and t xo yo (.int .u32 x) (.int .u32 (c - 1)) = some (.int .u32 (x % c)) := by
  have hl := h.lt
  have h4 : 0 ≤ x % c := Int.emod_nonneg _ (by omega)
  have h5 : x % c < c := Int.emod_lt_of_pos _ (by omega)
  rw [abin_and, maskWu32 h x hx, wu32 _ h4 (by omega)]
theorem abin_masku64 {c x : Int} (h : CapOk c) (hx : InR .u64 x) : abin P .and t xo yo (.int .u64 x) (.int .u64 (c - 1)) = some (.int .u64 (x % c)) := by
  have hl := h.lt
  have h4 : 0 ≤ x % c := Int.emod_nonneg _ (by omega)
  have h5 : x % c < c := Int.emod_lt_of_pos _ (by omega)
  rw [abin_and, maskWu64 h x hx, wu64 _ h4 (by omega)]
end
theorem pow_small (i : Nat) (h : i ≤ 6) : 0 < (2 : Int) ^ i ∧ (2 : Int) ^ i ≤ 64 := by
  have h1 : (2 : Nat) ^ i ≤ 2 ^ 6 := Nat.pow_le_pow_right (by decide) h
  have h2 : 0 < (2 : Nat) ^ i := Nat.pow_pos (by decide)
  have e : (2 : Int) ^ i = ((2 ^ i : Nat) : Int) := by simp
  omega
theorem inRwrapu32 (x : Int) : InR .u32 (IntKind.u32.wrap x) := inR_wrap32 x
theorem inRwrapu64 (x : Int) : InR .u64 (IntKind.u64.wrap x) := inR_wrap64 x
end Go.Proofs.SakAm
namespace Go.Proofs.SakAm
open Go
theorem inR_first32 (c s x : Int) : InR .u32 (lapFirst .u32 c s x) := inR_wrap32 _
theorem inR_first64 (c s x : Int) : InR .u64 (lapFirst .u64 c s x) := inR_wrap64 _
theorem inR_ahead32 {c : Int} (h : CapOk c) (s x : Int) : InR .u32 (lapAhead .u32 c s x) := by
  have hl := h.lt
  have h1 := inR32.1 (inR_wrap32 (lapFirst .u32 c s x - c))
  rw [inR32]
  unfold lapAhead
  have h4 := Int.ediv_nonneg h1.1 (show 0 ≤ c by omega)
  have h5 := Int.ediv_le_self c h1.1
  omega
theorem inR_ahead64 {c : Int} (h : CapOk c) (s x : Int) : InR .u64 (lapAhead .u64 c s x) := by
  have hl := h.lt
  have h1 := inR64.1 (inR_wrap64 (lapFirst .u64 c s x - c))
  rw [inR64]
  unfold lapAhead
  have h4 := Int.ediv_nonneg h1.1 (show 0 ≤ c by omega)
  have h5 := Int.ediv_le_self c h1.1
  omega
theorem inR_cut {c : Cf} (g : GoodC c) : InR (kOf c.width) (cutw c.width c.start) := by
  have := inR64.1 g.start
  rcases g.width with w | w
  · simp only [w, kOf, cutw, if_true]; rw [inR32]; omega
  · simp only [w, kOf, cutw]; simp; exact g.start
theorem inR_firstV {l : Ly} {r : Nat} (g : GoodL l r) (c : Int) : InR (kOf l.width) (firstV l c) := by
  have hc : CapOk l.cap := g.c.cap
  have hcut : InR (kOf l.width) (cutw l.width l.start) := inR_cut g.c
  unfold firstV
  have hw : l.width = 32 ∨ l.width = 64 := g.c.width
  split
  · rcases hw with w | w <;> simp [kOf, w, inR32, inR64]
  · split
    · rcases hw with w | w
      · simp only [kOf, w, if_true]
        split
        · exact inR_first32 _ _ _
        · exact inR_ahead32 hc _ _
      · simp only [kOf, w]
        simp
        split
        · exact inR_first64 _ _ _
        · exact inR_ahead64 hc _ _
    · exact hcut
end Go.Proofs.SakAm

/-
  Lists of lists that are known for good.
-/
namespace Go.Proofs.SakAm
set_option linter.unusedVariables false
set_option linter.unusedSimpArgs false
set_option linter.unusedSectionVars false
open Go
variable [Tabs]

def ints (l : List Int) : List Value := l.map fun x => Value.int .i64 x

/-- The lists of a graph. -/
def UpIs (K : Kept) (uv : Value) (up : List (List Int)) : Prop :=
  ∃ hs : List Value, RdSl K uv 1 up.length hs ∧ All2 (fun h l => RdSl K h 1 l.length (ints l)) hs up

theorem All2.get {α β : Type} {p : α → β → Prop} {l : List α} {m : List β} (h : All2 p l m) : ∀ {i : Nat} {b : β}, m[i]? = some b → ∃ a, l[i]? = some a ∧ p a b := by
  induction h with
  | nil => intro i b hb; simp at hb
  | cons h1 _ ih =>
    intro i b hb
    cases i with
    | zero => simp at hb; subst hb; exact ⟨_, by simp, h1⟩
    | succ i => simp at hb; obtain ⟨a, h2, h3⟩ := ih hb; exact ⟨a, by simpa using h2, h3⟩

theorem All2.imp {α β : Type} {p q : α → β → Prop} {l : List α} {m : List β} (h : All2 p l m) (k : ∀ a b, p a b → q a b) : All2 q l m := h.mono k

section
variable {K K' : Kept} {H : Heap} {L : List Asrt} {uv : Value} {up : List (List Int)}

theorem UpIs.mono (h : UpIs K uv up) (le : K.le K') : UpIs K' uv up := by
  obtain ⟨hs, h1, h2⟩ := h
  exact ⟨hs, h1.mono le, h2.imp fun _ _ k => k.mono le⟩

theorem UpIs.alen (h : UpIs K uv up) : SakAm.alen uv = some (.int .i64 up.length) := by
  obtain ⟨hs, h1, _⟩ := h; exact h1.alen
theorem UpIs.one (h : UpIs K uv up) : SakAm.one uv = true := by
  obtain ⟨hs, h1, _⟩ := h; exact h1.one
theorem UpIs.cellsOf (h : UpIs K uv up) : SakAm.cellsOf uv = [uv] := by
  obtain ⟨hs, h1, _⟩ := h; exact h1.cellsOf

/-- The header of a list of the graph. -/
theorem UpIs.get (h : UpIs K uv up) (own : Own K H L) {i : Nat} {l : List Int} (hl : up[i]? = some l) :
    ∃ v, SakAm.sadd 1 uv (.int .i64 i) = some (sptr 1 uv i) ∧ SakAm.ld1 H (sptr 1 uv i) = some v ∧ RdSl K v 1 l.length (ints l) := by
  obtain ⟨hs, h1, h2⟩ := h
  have hi : i < up.length := (List.getElem?_eq_some_iff.1 hl).1
  obtain ⟨v, h3, h4⟩ := h2.get hl
  refine ⟨v, ?_, ?_, h4⟩
  · have := h1.sadd (k := .i64) (x := (i : Int)) (by omega) (by omega)
    simpa using this
  · rw [h1.ld1 own hi (by omega)]; simpa using h3

/-- A number of a list. -/
theorem RdSl.geti {v : Value} {l : List Int} (r : RdSl K v 1 l.length (ints l)) (own : Own K H L) {i : Nat} {x : Int} (hl : l[i]? = some x) :
    SakAm.sadd 1 v (.int .i64 i) = some (sptr 1 v i) ∧ SakAm.ld1 H (sptr 1 v i) = some (.int .i64 x) := by
  have hi : i < l.length := (List.getElem?_eq_some_iff.1 hl).1
  refine ⟨?_, ?_⟩
  · have := r.sadd (k := .i64) (x := (i : Int)) (by omega) (by omega)
    simpa using this
  · rw [r.ld1 own hi (by omega)]; simp [ints, hl]

theorem leaf_one_int (l : List Int) : (ints l).all SakAm.one = true := by simp [ints, List.all_eq_true]
end

/-- Option's bind by the recursor: a chain that is told so is checked fast. -/
noncomputable def obd {α β : Type} (x : Option α) (f : α → Option β) : Option β := @Option.rec α (fun _ => Option β) none f x
theorem obd_is : @obd = @Option.bind.{0,0} := by funext α β x f; cases x <;> rfl
end Go.Proofs.SakAm

/-
  make, at a kept number; what a board has at first; registers in a row.
-/
namespace Go.Proofs.SakAm
set_option linter.unusedSimpArgs false
set_option linter.unusedSectionVars false
set_option linter.unusedVariables false
open Go
variable [Tabs]

section
variable {K : Kept} {H : Heap} {L : List Asrt}

theorem reps_one (v : Value) : ∀ n, reps [v] n = List.replicate n v
  | 0 => rfl
  | n + 1 => by simp only [reps, reps_one v n, List.replicate_succ]; rfl

theorem mkslice_at {i : Nat} (own : Own K H (FreeA i :: L)) (e : TypeId) (bytes : Nat) (v : Value) (n : Int) (h0 : 0 ≤ n) (h1 : n * bytes ≤ 2 ^ 47) (h2 : n < 2 ^ 62) (hv : one v = true) :
    ∃ H', mkslice H (some i) e bytes [v] (.int .i64 n) (.int .i64 n) = some ((Hd.blk i 0 n.toNat).val, H') ∧ Own K H' (SlA (.blk i 0 n.toNat) e 1 (List.replicate n.toNat v) :: L) := by
  obtain ⟨H', e1, own1⟩ := mkrow_at own e n.toNat (List.replicate n.toNat v) (by simp [List.all_eq_true, hv])
  refine ⟨H', ?_, own1.toSl (by simp)⟩
  simp only [mkslice]
  rw [if_pos ⟨trivial, h0, h1, h2⟩, reps_one, e1]
  rfl

theorem mkslice_own (own : Own K H L) (e : TypeId) (bytes : Nat) (v : Value) (n : Int) (h0 : 0 ≤ n) (h1 : n * bytes ≤ 2 ^ 47) (h2 : n < 2 ^ 62) (hv : one v = true) :
    ∃ i H', mkslice H none e bytes [v] (.int .i64 n) (.int .i64 n) = some ((Hd.blk i 0 n.toNat).val, H') ∧ Own K H' (SlA (.blk i 0 n.toNat) e 1 (List.replicate n.toNat v) :: L) := by
  obtain ⟨i, H', e1, own1⟩ := mkrow_own own e n.toNat (List.replicate n.toNat v) (by simp [List.all_eq_true, hv])
  refine ⟨i, H', ?_, own1.toSl (by simp)⟩
  simp only [mkslice]
  rw [if_pos ⟨trivial, h0, h1, h2⟩, reps_one, e1]
  rfl

/-! ### Registers -/

/-- A row of registers at a number, one of which is f. -/
def RgA (k : IntKind) (i : Nat) (t : TypeId) (pre : List Value) (f : Rg) (post : List Value) : Asrt := BoxA i t (pre ++ f.cells k ++ post)

theorem mid_get {pre l post : List Value} {m : Nat} (hm : m < l.length) : (pre ++ l ++ post)[pre.length + m]? = l[m]? := by
  rw [List.append_assoc, List.getElem?_append_right (by omega), Nat.add_sub_cancel_left, List.getElem?_append_left hm]
theorem mid_set {pre l post : List Value} {m : Nat} {v : Value} (hm : m < l.length) : (pre ++ l ++ post).set (pre.length + m) v = pre ++ l.set m v ++ post := by
  rw [List.append_assoc, List.set_append_right _ _ (by omega), Nat.add_sub_cancel_left, List.set_append_left _ _ hm, List.append_assoc]

variable {k : IntKind} {i : Nat} {t : TypeId} {pre post : List Value} {f : Rg}

theorem rg_ld (own : Own K H (RgA k i t pre f post :: L)) {m : Nat} {v : Value} (hv : (f.cells k)[m]? = some v) : ld1 H (.pointer (some ⟨i, pre.length + m, some 0⟩)) = some v := by
  have hm : m < (f.cells k).length := (List.getElem?_eq_some_iff.1 hv).1
  have h := Own.rd own
  rw [ld1_ptr, h]
  simp only [Option.bind_some]
  rw [mid_get hm, hv]
theorem rg_ld0 (own : Own K H (RgA k i t pre f post :: L)) {v : Value} (hv : (f.cells k)[0]? = some v) : ld1 H (.pointer (some ⟨i, pre.length, some 0⟩)) = some v := rg_ld own (m := 0) hv

theorem rg_st (own : Own K H (RgA k i t pre f post :: L)) (m : Nat) (v : Value) (f' : Rg) (hm : m < 11) (hf : (f.cells k).set m v = f'.cells k) (hv : one v = true) :
    ∃ H', st1 H (.pointer (some ⟨i, pre.length + m, some 0⟩)) v = some H' ∧ Own K H' (RgA k i t pre f' post :: L) := by
  have hl : (f.cells k).length = 11 := rfl
  obtain ⟨H', e, o⟩ := st1_own (i := i) (t := t) own (pre.length + m) v (by simp [hl]; omega) hv
  rw [mid_set (by omega), hf] at o
  exact ⟨H', e, o⟩
end

/-- What a board has at first. -/
def Bd.init (l : Ly) : Bd := ⟨(List.range l.slots.toNat).map (fun (j : Nat) => firstV l (j : Int)), List.replicate l.cap.toNat 0, []⟩
end Go.Proofs.SakAm

/-
  A call that is known by other means.
-/
namespace Go.Proofs.SakAm
set_option linter.unusedVariables false
set_option linter.unusedSimpArgs false
set_option linter.unusedSectionVars false
open Go
variable [Tabs]
theorem call_ext {P : Program} {ext : FuncId → List Value → Heap → Option (Value × Heap)} {f : FuncId} {args : List Value} {H : Heap} {r : Value × Heap} (h : ext f args H = some r) : call P ext f args H = some r := by
  unfold call callBy
  rw [h]
theorem told_ext {ext : FuncId → List Value → Heap → Option (Value × Heap)} {tab : List (FuncId × Value)} {f : FuncId} {args : List Value} {H : Heap} {r : Option (Value × Heap)} (h0 : tab.lookup f = none) (h : ext f args H = r) : told ext tab f args H = r := by
  unfold told
  rw [h0]
  exact h
theorem orX_left {a b : FuncId → List Value → Heap → Option (Value × Heap)} {f : FuncId} {args : List Value} {H : Heap} {r : Value × Heap} (h : a f args H = some r) : orX a b f args H = some r := by
  unfold orX
  rw [h]
theorem orX_right {a b : FuncId → List Value → Heap → Option (Value × Heap)} {f : FuncId} {args : List Value} {H : Heap} {r : Option (Value × Heap)} (h0 : a f args H = none) (h : b f args H = r) : orX a b f args H = r := by
  unfold orX
  rw [h0]
  exact h
theorem listX_at {f : FuncId} {t : TypeId} {g : Nat} (hg : g < 18446744073709551616) (H : Heap) : listX f t f [.int .u64 (g : Nat)] H = some (listRes t g H) := by
  simp only [listX, if_true]
  rw [if_pos ⟨by omega, by omega⟩]
  simp
theorem listX_other {f f' : FuncId} {t : TypeId} {args : List Value} {H : Heap} (h : f' ≠ f) : listX f t f' args H = none := by
  unfold listX
  rw [if_neg h]
theorem leafEq_int {k : IntKind} {x : Int} : leafEq (.int k x) (.int k x) = true := by simp [leafEq]
end Go.Proofs.SakAm
namespace Go.Proofs.SakAm
open Go
variable [Tabs]
/-- A header of an empty slice. -/
def Emp (v : Value) : Prop := ∃ p f, v = .slice p 0 f ∧ (p = none → f = 0)
theorem Emp.rd {v : Value} (h : Emp v) (K : Kept) (z : Nat) : RdSl K v z 0 [] := by
  obtain ⟨p, f, rfl, h2⟩ := h
  exact ⟨by simp, p, f, rfl, fun h => ⟨rfl, h2 h⟩, .inl rfl, fun _ _ _ => rfl⟩
theorem Emp.nil : Emp (.slice none 0 0) := ⟨none, 0, rfl, fun _ => rfl⟩
theorem Emp.blk (i vr : Nat) : Emp (Hd.blk i vr 0).val := ⟨_, _, rfl, fun h => nomatch h⟩
/-- An event's cells, d the header of its data. -/
def evCells (p : Ev × Value) : List Value := [.int .i64 p.1.kd, .int .i64 p.1.t, .int .i64 0, .int .i64 p.1.n, .int .u64 p.1.pos, .int .i64 0, p.2]
theorem ev_len (ps : List (Ev × Value)) : (ps.flatMap evCells).length = ps.length * 7 := flat_len fun _ => rfl
/-- Events with the headers of their data. -/
def EvsOf (E : List Ev) (ps : List (Ev × Value)) : Prop := ps.map Prod.fst = E ∧ ∀ p, p ∈ ps → Emp p.2
theorem EvsOf.nil : EvsOf [] [] := ⟨rfl, fun _ h => nomatch h⟩
theorem EvsOf.snoc {E : List Ev} {ps : List (Ev × Value)} (h : EvsOf E ps) (e : Ev) {d : Value} (hd : Emp d) : EvsOf (E ++ [e]) (ps ++ [(e, d)]) := by
  refine ⟨by simp [h.1], fun p hp => ?_⟩
  rw [List.mem_append] at hp
  rcases hp with hp | hp
  · exact h.2 p hp
  · simp at hp; rw [hp]; exact hd
theorem EvsOf.length {E : List Ev} {ps : List (Ev × Value)} (h : EvsOf E ps) : ps.length = E.length := by rw [← h.1]; simp
end Go.Proofs.SakAm

/-
  The cases of the sequencers' laws.
-/
namespace Go.Proofs.SakAm
set_option linter.unusedVariables false
set_option linter.unusedSimpArgs false
set_option linter.unusedSectionVars false
open Go
variable [Tabs]

/-- A case. -/
structure Cs where
  wide : Bool
  log : Int
  prod : Int
  roots : Int
  start : Int
def Cs.cells (q : Cs) : List Value := [.bool q.wide, .int .u8 q.log, .int .u8 q.prod, .int .u8 q.roots, .int .u64 q.start]
def Cs.val (q : Cs) : Value := .agg q.cells.toArray
structure Cs.Ok (q : Cs) : Prop where
  l0 : 0 ≤ q.log
  p0 : 0 ≤ q.prod
  r0 : 0 ≤ q.roots
  s : InR .u64 q.start
/-- Its capacity, and how many consumers it has. -/
def Cs.cap (q : Cs) : Int := if q.log % 4 = 0 then 2 else if q.log % 4 = 1 then 4 else if q.log % 4 = 2 then 8 else 16
def Cs.r (q : Cs) : Nat := (q.roots % 3).toNat + 1
def Cs.cf (q : Cs) (v : Int) (uv : Value) : Cf := ⟨v, if q.wide then 64 else 32, q.cap, if v = 1 then 1 else 1 + q.prod % 4, q.start, uv⟩

theorem Cs.capOk (q : Cs) : CapOk q.cap := by
  unfold Cs.cap CapOk
  split
  · simp
  · split
    · simp
    · split <;> simp
theorem Cs.r_le (q : Cs) : 1 ≤ q.r ∧ q.r ≤ 3 := by unfold Cs.r; omega

theorem Cs.good {q : Cs} (h : q.Ok) {v : Int} (h0 : 1 ≤ v) (h1 : v ≤ 5) {uv : Value} (hu : SakAm.one uv = true) : GoodC (q.cf v uv) := by
  refine ⟨h0, h1, ?_, q.capOk, ?_, ?_, fun e => ?_, h.s, hu⟩
  · simp only [Cs.cf]; split <;> simp
  · simp only [Cs.cf]; split <;> omega
  · simp only [Cs.cf]; split <;> omega
  · simp only [Cs.cf] at e ⊢; rw [if_pos e]

/-- The lists of a graph without edges. -/
def flatUp (r : Nat) : List (List Int) := List.replicate r []
theorem flatUp_nil {r : Nat} : ∀ l, l ∈ flatUp r → l = [] := fun l h => (List.mem_replicate.1 h).2
theorem flatUp_len {r : Nat} : (flatUp r).length = r := List.length_replicate

theorem all2_rep {K : Kept} : ∀ r : Nat, All2 (fun h l => RdSl K h 1 l.length (ints l)) (List.replicate r (.slice none 0 0)) (flatUp r)
  | 0 => .nil
  | r + 1 => .cons (RdSl.nil K 1) (all2_rep r)

theorem upIs_flat {K : Kept} {uv : Value} {r : Nat} (h : RdSl K uv 1 r (List.replicate r (.slice none 0 0))) : UpIs K uv (flatUp r) :=
  ⟨_, by rw [flatUp_len]; exact h, all2_rep r⟩
end Go.Proofs.SakAm

/-
  A table of bytes, off the condition that lays it.
-/
namespace Go.Proofs.SakAm
set_option linter.unusedSectionVars false
set_option linter.unusedVariables false
set_option linter.unusedSimpArgs false
open Go

/-- What a table's datum is. -/
def bytesD (tab : List Nat) : List (DataW Unit) := tab.map fun x : Nat => DataW.lit (.int .u8 x)

theorem tab_of_laid {P : Program} {W : World} {name : String} {g t e : Nat} {tab : List Nat} (h : laidMetH P [(name, .agg (bytesD tab))] W)
    (hg : P.globalNamed name = some g) (ht : (P.globals[g]?).map (·.type) = some t) (hu : P.underlying t = some (.array tab.length e)) (he : P.underlying e = some (.int .u8)) (hc : P.cellsOf e = 1) (h0 : 0 < tab.length) :
    g < W.heap.size ∧ TabAt g tab W := by
  rw [MakeChecks.laidMetH_plain _ _ _ (by simp [DataW.handleName?])] at h
  obtain ⟨ps, ⟨g0, t0, cs0, f0, p0, q0, hg0, ht0, hv0, hd0, _, _⟩, _, _⟩ := h
  obtain rfl := Option.some.inj (hg.symm.trans hg0)
  obtain rfl := Option.some.inj (ht.symm.trans ht0)
  obtain ⟨xs, m, rfl, hx, hlen, hn, hel⟩ := DataW.trod_array hu hd0
  have hcell : ∀ j, j < tab.length → cs0[j]? = some (.int .u8 (tab.getD j 0)) := by
    intro j hj
    have hj2 : j < xs.length := by omega
    have h1 := hel j hj
    rw [hc, Nat.mul_one, List.getElem?_eq_getElem hj2] at h1
    obtain ⟨n, e1, e2, _⟩ := DataW.trod_int he h1
    simp only [Prod.mk.injEq, DataW.agg.injEq] at hx
    have hx1 := congrArg (fun l : List (DataW Unit) => l[j]?) hx.1
    simp only [bytesD, List.getElem?_map, List.getElem?_eq_getElem hj, List.getElem?_eq_getElem hj2, Option.map_some, e2] at hx1
    have hn' : (tab[j] : Int) = n := by simpa using hx1
    have e3 := congrArg (fun l : List Value => l[0]?) e1
    simp only [List.getElem?_take, List.getElem?_drop, Nat.add_zero] at e3
    simp at e3
    rw [e3, ← hn']
    simp [List.getD, List.getElem?_eq_getElem hj]
  have hcl : ∀ j, j < tab.length → W.cell? ⟨g, j, none⟩ = some (.int .u8 (tab.getD j 0)) := fun j hj => (World.var?_cell hg0 hv0 j).trans (hcell j hj)
  refine ⟨?_, hcl⟩
  have := hcl 0 h0
  rcases Nat.lt_or_ge g W.heap.size with h | h
  · exact h
  · simp [World.cell?, Array.getElem?_eq_none h] at this
end Go.Proofs.SakAm
namespace Go.Proofs.SakAm
open Go
theorem wf_u8 {z : Int} (h : (Lit.int .u8 z).wf = true) : 0 ≤ z ∧ z < 256 := by
  simp [Lit.wf, IntKind.min, IntKind.max, IntKind.bits, IntKind.signed] at h
  omega
theorem wf_u64 {z : Int} (h : (Lit.int .u64 z).wf = true) : InR .u64 z := by
  rw [inR64]
  simp [Lit.wf, IntKind.min, IntKind.max, IntKind.bits, IntKind.signed] at h
  omega
theorem wf_i64 {z : Int} (h : (Lit.int .i64 z).wf = true) : -9223372036854775808 ≤ z ∧ z < 9223372036854775808 := by
  simp [Lit.wf, IntKind.min, IntKind.max, IntKind.bits, IntKind.signed] at h
  omega
end Go.Proofs.SakAm

/-
  Scans, marks and sequencers, as functions of plain data.
-/
namespace Go.Proofs.SakAm
set_option linter.unusedSectionVars false
set_option linter.unusedVariables false
set_option linter.unusedSimpArgs false
open Go

/-- One step of a scan of some cells. -/
def scanP (k : IntKind) (B : Bd) (t : Int) (cs : List Int) (f : Rg) : Bd × Rg × Bool :=
  if f.i < 0 ∨ (cs.length : Int) ≤ f.i then (B, { f with i := 0 }, true)
  else
    let v := at_ B.has (at_ cs f.i)
    let f1 : Rg := if f.i = 0 ∨ wdiff k v f.mn < 0 then { f with mn := v } else f
    if f.i + 1 < (cs.length : Int) then (B.look t 1 (at_ cs f.i), { f1 with i := f.i + 1 }, false) else (B.look t 1 (at_ cs f.i), { f1 with i := 0 }, true)

def fitsP (k : IntKind) (cap fr n least : Int) : Bool := decide (wdiff k (wadd k fr n) least ≤ cap)

/-- What a sequencer works on: a board, events, the next position of one producer, what each producer knows of the least gate. -/
structure Sq where
  bd : Bd
  ev : List Ev
  next : Int
  least : List Int

/-- What a sequencer is of: its width, capacity, the ends' gates, the claim's or cursor's cell, the first mark's cell. -/
structure Sc where
  k : IntKind
  cap : Int
  ends : List Int
  cell : Int
  marks : Int

def Sq.take (S : Sq) (t : Int) (f : Rg) : Sq := { S with ev := S.ev ++ [⟨3, t, f.n, f.fr⟩] }
def Sq.grant (S : Sq) (t : Int) : Sq := { S with ev := S.ev ++ [⟨4, t, 0, 0⟩] }

/-- One: the producer's own next. -/
def oneGrant (c : Sc) (S : Sq) (t : Int) (f : Rg) : Sq × Rg × Bool :=
  ((({ S with next := wadd c.k S.next f.n } : Sq).take t f).grant t, { f with pc := 0 }, true)
def oneScan (c : Sc) (S : Sq) (t : Int) (f : Rg) : Sq × Rg × Bool :=
  let r := scanP c.k S.bd t c.ends f
  if r.2.2 = true then
    let S1 : Sq := { S with bd := r.1, least := [r.2.1.mn] }
    if fitsP c.k c.cap r.2.1.fr r.2.1.n r.2.1.mn = true then oneGrant c S1 t r.2.1 else (S1, r.2.1, false)
  else ({ S with bd := r.1 }, r.2.1, false)
def oneClaim (c : Sc) (S : Sq) (t : Int) (f : Rg) : Sq × Rg × Bool :=
  if f.pc = 1 then oneScan c S t f
  else if fitsP c.k c.cap S.next f.n (at_ S.least 0) = true then oneGrant c S t { f with fr := S.next }
  else oneScan c S t { f with fr := S.next, pc := 1, i := 0 }
def onePub (c : Sc) (S : Sq) (t : Int) (f : Rg) : Sq × Rg × Bool :=
  ({ S with bd := S.bd.lay t 2 c.cell (wadd c.k f.fr f.n), ev := S.ev ++ [⟨5, t, f.n, f.fr⟩] }, f, true)
def oneTip (c : Sc) (S : Sq) (t : Int) (f : Rg) : Sq × Rg × Bool :=
  ({ S with bd := S.bd.look t 1 c.cell }, { f with vl := at_ S.bd.has c.cell }, true)

/-- A slot's mark is at, and what its round is. -/
def markAt (c : Sc) (p : Int) : Int := c.marks + p % c.cap
/-- The next position is marked. -/
def markPub (c : Sc) (B : Bd) (t : Int) (f : Rg) : Bd × Rg × Bool :=
  if 0 ≤ f.i ∧ f.i < f.n then
    let p := wadd c.k f.fr f.i
    let B1 := B.lay t 2 (markAt c p) (p / c.cap)
    if f.i + 1 < f.n then (B1, { f with i := f.i + 1 }, false) else (B1, { f with i := 0 }, true)
  else (B, { f with i := 0 }, true)
def markSeek (c : Sc) (B : Bd) (t : Int) (f : Rg) : Bd × Rg × Bool :=
  let B1 := B.look t 1 (markAt c f.vl)
  if at_ B.has (markAt c f.vl) = f.vl / c.cap then (B1, { f with vl := wadd c.k f.vl 1 }, false) else (B1, f, true)
def mkPub (c : Sc) (S : Sq) (t : Int) (f : Rg) : Sq × Rg × Bool :=
  let r := markPub c S.bd t f
  ({ S with bd := r.1, ev := S.ev ++ [⟨5, t, 1, wadd c.k f.fr f.i⟩] }, r.2.1, r.2.2)
def mkTip (c : Sc) (S : Sq) (t : Int) (f : Rg) : Sq × Rg × Bool :=
  let r := markSeek c S.bd t f
  ({ S with bd := r.1 }, r.2.1, r.2.2)

/-- Cas. -/
def casNext (c : Sc) (S : Sq) (t : Int) (f : Rg) (other : Int) : Int := if fitsP c.k c.cap f.fr f.n (at_ S.least t) = true then 2 else other
def casClaim (c : Sc) (S : Sq) (t : Int) (f : Rg) : Sq × Rg × Bool :=
  if f.pc = 1 then
    let r := scanP c.k S.bd t c.ends f
    if r.2.2 = true then
      let S1 : Sq := { S with bd := r.1, least := put_ S.least t r.2.1.mn }
      (S1, { r.2.1 with pc := casNext c S1 t r.2.1 0 }, false)
    else ({ S with bd := r.1 }, r.2.1, false)
  else if f.pc = 2 then
    if at_ S.bd.has c.cell = f.fr then ((({ S with bd := S.bd.lay t 4 c.cell (wadd c.k f.fr f.n) } : Sq).take t f).grant t, { f with pc := 0 }, true)
    else ({ S with bd := S.bd.look t 5 c.cell }, { f with pc := 0 }, false)
  else
    let f1 : Rg := { f with fr := at_ S.bd.has c.cell, i := 0 }
    ({ S with bd := S.bd.look t 1 c.cell }, { f1 with pc := casNext c S t f1 1 }, false)

/-- Faa. -/
def faaClaim (c : Sc) (S : Sq) (t : Int) (f : Rg) : Sq × Rg × Bool :=
  if f.pc = 0 then
    let f1 : Rg := { f with fr := at_ S.bd.has c.cell }
    let S1 : Sq := ({ S with bd := S.bd.lay t 3 c.cell (wadd c.k (at_ S.bd.has c.cell) f.n) } : Sq).take t f1
    if fitsP c.k c.cap f1.fr f1.n (at_ S.least t) = true then (S1.grant t, { f1 with pc := 0 }, true) else (S1, { f1 with pc := 1, i := 0 }, false)
  else
    let r := scanP c.k S.bd t c.ends f
    if r.2.2 = true then
      let S1 : Sq := { S with bd := r.1, least := put_ S.least t r.2.1.mn }
      if fitsP c.k c.cap r.2.1.fr r.2.1.n r.2.1.mn = true then (S1.grant t, { r.2.1 with pc := 0 }, true) else (S1, r.2.1, false)
    else ({ S with bd := r.1 }, r.2.1, false)

/-- Stamp. -/
def stPassed (c : Sc) (S : Sq) (t : Int) (f : Rg) : Bool := decide (0 < wdiff c.k (at_ S.least t) (wadd c.k (wadd c.k f.fr f.j) (-c.cap)))
def stFree (c : Sc) (S : Sq) (t : Int) (f : Rg) (other : Int) : Int := if stPassed c S t f = true then 3 else other
def stClaim (c : Sc) (S : Sq) (t : Int) (f : Rg) : Sq × Rg × Bool :=
  let p := wadd c.k f.fr f.j
  let u := wadd c.k p (1 - c.cap)
  if f.pc = 1 then
    let S1 : Sq := { S with bd := S.bd.look t 1 (markAt c p) }
    if at_ S.bd.has (markAt c p) = p then (S1, { f with j := f.j + 1, pc := if f.j + 1 = f.n then 4 else 1 }, false)
    else if at_ S.bd.has (markAt c p) = u then (S1, { f with i := 0, pc := stFree c S t f 2 }, false)
    else (S1, { f with pc := 0 }, false)
  else if f.pc = 2 then
    let r := scanP c.k S.bd t c.ends f
    if r.2.2 = true then
      let S1 : Sq := { S with bd := r.1, least := put_ S.least t r.2.1.mn }
      (S1, { r.2.1 with pc := stFree c S1 t r.2.1 0 }, false)
    else ({ S with bd := r.1 }, r.2.1, false)
  else if f.pc = 3 then
    ({ S with bd := if at_ S.bd.has (markAt c p) = u then S.bd.lay t 4 (markAt c p) p else S.bd.look t 5 (markAt c p) }, { f with pc := 1 }, false)
  else if f.pc = 4 then
    if at_ S.bd.has c.cell = f.fr then ((({ S with bd := S.bd.lay t 4 c.cell (wadd c.k f.fr f.n) } : Sq).take t f).grant t, { f with pc := 0 }, true)
    else ({ S with bd := S.bd.look t 5 c.cell }, { f with pc := 0 }, false)
  else ({ S with bd := S.bd.look t 1 c.cell }, { f with fr := at_ S.bd.has c.cell, j := 0, pc := 1 }, false)
def stPub (c : Sc) (S : Sq) (t : Int) (f : Rg) : Sq × Rg × Bool :=
  let p := wadd c.k f.fr f.i
  let S1 : Sq := { S with bd := S.bd.lay t 2 (markAt c p) (wadd c.k p 1), ev := S.ev ++ [⟨5, t, 1, p⟩] }
  if f.i + 1 < f.n then (S1, { f with i := f.i + 1 }, false) else (S1, { f with i := 0 }, true)
def stTip (c : Sc) (S : Sq) (t : Int) (f : Rg) : Sq × Rg × Bool :=
  let S1 : Sq := { S with bd := S.bd.look t 1 (markAt c f.vl) }
  if at_ S.bd.has (markAt c f.vl) = wadd c.k f.vl 1 then (S1, { f with vl := wadd c.k f.vl 1 }, false) else (S1, f, true)
end Go.Proofs.SakAm
namespace Go.Proofs.SakAm
theorem scanP_fr (k : Go.IntKind) (B : Bd) (t : Int) (cs : List Int) (f : Rg) : (scanP k B t cs f).2.1.fr = f.fr := by
  unfold scanP; split
  · rfl
  · simp only; split <;> split <;> rfl
theorem scanP_n (k : Go.IntKind) (B : Bd) (t : Int) (cs : List Int) (f : Rg) : (scanP k B t cs f).2.1.n = f.n := by
  unfold scanP; split
  · rfl
  · simp only; split <;> split <;> rfl
theorem scanP_has (k : Go.IntKind) (B : Bd) (t : Int) (cs : List Int) (f : Rg) : (scanP k B t cs f).1.has = B.has := by
  unfold scanP; split
  · rfl
  · simp only; split <;> rfl
theorem scanP_ok {k : Go.IntKind} {B : Bd} (h : B.Ok k) (t : Int) (cs : List Int) (f : Rg) : (scanP k B t cs f).1.Ok k := by
  intro x hx
  rw [scanP_has] at hx
  exact h x hx
theorem scanP_log (k : Go.IntKind) (B : Bd) (t : Int) (cs : List Int) (f : Rg) : (scanP k B t cs f).1.log.length ≤ B.log.length + 1 := by
  unfold scanP; split
  · simp
  · simp only; split <;> simp [Bd.look, Bd.note]
theorem scanP_mn {k : Go.IntKind} {B : Bd} (h : B.Ok k) (t : Int) (cs : List Int) (f : Rg) (hm : InR k f.mn) (hc : ∀ c, c ∈ cs → 0 ≤ c ∧ c < B.has.length) : InR k (scanP k B t cs f).2.1.mn := by
  unfold scanP; split
  · exact hm
  · rename_i hi
    have h0 : 0 ≤ f.i := by omega
    have h1 : f.i < cs.length := by omega
    have hv : InR k (at_ B.has (at_ cs f.i)) := h.at_ (hc _ (at_mem h0 h1)).1 (hc _ (at_mem h0 h1)).2
    simp only
    split <;> split <;> first | exact hv | exact hm
end Go.Proofs.SakAm

/-
  A cell of a box.
-/
namespace Go.Proofs.SakAm
open Go
variable [Tabs]
theorem box_ld {K : Kept} {H : Heap} {L : List Asrt} {i : Nat} {t : TypeId} {cs : List Value} (own : Own K H (BoxA i t cs :: L)) {m : Nat} {v : Value} (hv : cs[m]? = some v) : ld1 H (.pointer (some ⟨i, m, some 0⟩)) = some v := by
  rw [ld1_ptr, own.rd]
  exact hv

/-- Is all that a sequencer works on in order? -/
structure SqOk (k : IntKind) (S : Sq) : Prop where
  ok : S.bd.Ok k
  next : InR k S.next
  least : ∀ x, x ∈ S.least → InR k x
  log : S.bd.log.length ≤ 900000
  ev : S.ev.length ≤ 900000
end Go.Proofs.SakAm
namespace Go.Proofs.SakAm
open Go
/-- Is it in order, with logs no longer than so? -/
structure SqB (k : IntKind) (S : Sq) (N : Nat) : Prop where
  ok : S.bd.Ok k
  next : InR k S.next
  least : ∀ x, x ∈ S.least → InR k x
  log : S.bd.log.length ≤ N
  ev : S.ev.length ≤ N
theorem SqB.sq {k : IntKind} {S : Sq} {N : Nat} (h : SqB k S N) (hN : N ≤ 900000) : SqOk k S := ⟨h.ok, h.next, h.least, by have := h.log; omega, by have := h.ev; omega⟩
theorem SqB.up {k : IntKind} {S : Sq} {N M : Nat} (h : SqB k S N) (hN : N ≤ M) : SqB k S M := ⟨h.ok, h.next, h.least, by have := h.log; omega, by have := h.ev; omega⟩

theorem fits_self64 (cap p n : Int) (h : InR .u64 p) (h0 : 0 ≤ n) (h1 : n ≤ cap) (h2 : cap ≤ 1000) : fitsP .u64 cap p n p = true := by
  rw [inR64] at h
  simp only [fitsP, wdiff, wsg, wadd, wrap64, wrapi64, decide_eq_true_eq]
  omega
theorem wdiff_self64 (p : Int) : wdiff .u64 p p = 0 := by
  simp only [wdiff, wsg, wrap64, wrapi64]
  omega

theorem inp_sl {P : Program} {H : Heap} {n : Nat} {t e : TypeId} {v : Value} (hi : isSlice P t e = true) (hf : flatT P 9 e = some [e]) (h : Inp P H (n + 1) t v) [Tabs] :
    ∃ cs : List Value, RdSl (Kept.of H) v 1 cs.length cs ∧ All2 (Inp P H n) (rep [e] cs.length) cs := by
  rcases h.slice hi hf with rfl | ⟨i, rfl⟩ | ⟨i, l, b, rfl, h0, hm, hg, hv, _, hc⟩
  · exact ⟨[], RdSl.nil _ 1, by simpa [rep] using .nil⟩
  · exact ⟨[], RdSl.empty _ 1 i, by simpa [rep] using .nil⟩
  · have hl : b.cells.length = l := by have := hc.length; rw [rep_length] at this; simpa using this.symm
    refine ⟨b.cells, ?_, by rw [hl]; exact hc⟩
    have := RdSl.of (K := Kept.of H) (z := 1) (n := b.cells.length) (b := b) hg (by omega) 2
    rw [hv] at this
    rw [← hl]; exact this
end Go.Proofs.SakAm
namespace Go.Proofs.SakAm
open Go
variable [Tabs]
theorem inp_nums {P : Program} {H : Heap} {n : Nat} {e : TypeId} {k : IntKind} (hi : isInt P e k = true) : ∀ {l : Nat} {cs : List Value}, All2 (Inp P H n) (rep [e] l) cs → ∃ zs : List Int, cs = zs.map (fun z => Value.int k z) ∧ ∀ z, z ∈ zs → (Lit.int k z).wf = true
  | 0, cs, h => by
    have := h.nil_inv
    subst this
    exact ⟨[], rfl, fun z hz => nomatch hz⟩
  | l + 1, cs, h => by
    obtain ⟨c, cs', rfl, h1, h2⟩ := h.cons_inv
    obtain ⟨z, rfl, hz⟩ := h1.int hi
    obtain ⟨zs, rfl, hzs⟩ := inp_nums hi h2
    exact ⟨z :: zs, rfl, fun y hy => by
      rcases List.mem_cons.1 hy with rfl | hy
      · exact hz
      · exact hzs y hy⟩
end Go.Proofs.SakAm
namespace Go.Proofs.SakAm
open Go
theorem scanP_eq {k : IntKind} {B : Bd} {t : Int} {cs : List Int} {f : Rg} (h0 : 0 ≤ f.i) (h1 : f.i < cs.length) {v m : Int} (hv : at_ B.has (at_ cs f.i) = v) (hm : (if f.i = 0 ∨ wdiff k v f.mn < 0 then v else f.mn) = m) :
    scanP k B t cs f = (B.look t 1 (at_ cs f.i), { f with mn := m, i := if f.i + 1 < (cs.length : Int) then f.i + 1 else 0 }, decide ((cs.length : Int) ≤ f.i + 1)) := by
  unfold scanP
  rw [if_neg (show ¬ (f.i < 0 ∨ (cs.length : Int) ≤ f.i) from by omega)]
  simp only [hv]
  by_cases p : f.i = 0 ∨ wdiff k v f.mn < 0
  · rw [if_pos p] at hm
    subst hm
    by_cases q : f.i + 1 < (cs.length : Int)
    · simp only [if_pos p, if_pos q, show decide ((cs.length : Int) ≤ f.i + 1) = false from by simp; omega]
    · simp only [if_pos p, if_neg q, show decide ((cs.length : Int) ≤ f.i + 1) = true from by simp; omega]
  · rw [if_neg p] at hm
    subst hm
    by_cases q : f.i + 1 < (cs.length : Int)
    · simp only [if_neg p, if_pos q, show decide ((cs.length : Int) ≤ f.i + 1) = false from by simp; omega]
    · simp only [if_neg p, if_neg q, show decide ((cs.length : Int) ≤ f.i + 1) = true from by simp; omega]
/-- A step at the last cell, and at another one. -/
theorem scanP_last {k : IntKind} {B : Bd} {t : Int} {cs : List Int} {f : Rg} (h0 : 0 ≤ f.i) (h1 : f.i + 1 = cs.length) {v m : Int} (hv : at_ B.has (at_ cs f.i) = v) (hm : (if f.i = 0 ∨ wdiff k v f.mn < 0 then v else f.mn) = m) :
    scanP k B t cs f = (B.look t 1 (at_ cs f.i), { f with mn := m, i := 0 }, true) := by
  rw [scanP_eq h0 (by omega) hv hm, if_neg (by omega), show decide ((cs.length : Int) ≤ f.i + 1) = true from by simp; omega]
theorem scanP_more {k : IntKind} {B : Bd} {t : Int} {cs : List Int} {f : Rg} (h0 : 0 ≤ f.i) (h1 : f.i + 1 < cs.length) {v m : Int} (hv : at_ B.has (at_ cs f.i) = v) (hm : (if f.i = 0 ∨ wdiff k v f.mn < 0 then v else f.mn) = m) :
    scanP k B t cs f = (B.look t 1 (at_ cs f.i), { f with mn := m, i := f.i + 1 }, false) := by
  rw [scanP_eq h0 (by omega) hv hm, if_pos h1, show decide ((cs.length : Int) ≤ f.i + 1) = false from by simp; omega]
end Go.Proofs.SakAm
