/-
  AN ABSTRACT MACHINE over the model's own code: whatever it computes, the model's machine does, under the conditions that each theorem states.
-/
import Derived.Test.YtiehmpoanhacaaaDoorAmA
import Derived.Orders
import Derived.Scope
set_option linter.unusedSectionVars false
set_option linter.unusedVariables false
set_option linter.unusedSimpArgs false
namespace Go.Proofs.SakAm
set_option linter.unusedVariables false
set_option linter.unusedSimpArgs false
open Go
open Go.RowKit (Below)
set_option linter.unusedSectionVars false
variable [Tabs]

/-- What a call comes to, and what the model's call comes to. -/
def CallSound (P : Program) (call : FuncId → List Value → Heap → Option (Value × Heap)) : Prop :=
  ∀ f args H v H', call f args H = some (v, H') → (bodyOf P f).isSome = true ∧
    ∀ (B : Nat) (w0 : World) (φ : Nat → Place) (w : World) (argsC : Array Value), Rel P B w0 φ H w → LRel P φ H args argsC.toList →
      Calls P f argsC w fun e w' => ∃ φ' u, e = .returned u ∧ Rel P B w0 φ' H' w' ∧ Ext φ H φ' H' ∧ VRel P φ' H' v u

section
variable {P : Program} {call : FuncId → List Value → Heap → Option (Value × Heap)} {B : Nat} {w0 w : World} {φ : Nat → Place} {H H' : Heap}

/-- An operation with its call done, as the model does it. -/
theorem aopC_sound (hcall : CallSound P call) (R : Rel P B w0 φ H w) {nt : Nat} {a : Fr} {act : Act} (F : FrRel P φ H nt a act.tmps) {nid : Option Nat} {o : Oper} {v : Value}
    (h : aopC P call a H nid o.op = some (v, H')) {Q : Exit → Act → World → Prop} {K : Act → World → Prop}
    (hK : ∀ φ' w' u, Rel P B w0 φ' H' w' → Ext φ H φ' H' → VRel P φ' H' v u → K (act.put o.dst u) w') : o.wp P act w K Q := by
  simp only [aopC, Option.bind_eq_some_iff] at h
  obtain ⟨out, ho, h⟩ := h
  have hs := aop_ok R F ho
  unfold Oper.wp
  cases out with
  | val v1 H1 =>
    cases h
    obtain ⟨φ', w', u, hr, k1, k2, k3⟩ := hs
    rcases hr with hr | ⟨hr, rfl⟩
    · rw [hr, Oper.upon_value]; exact hK φ' w' u k1 k2 k3
    · rw [hr, Oper.upon_skip]; exact hK φ' w' undef k1 k2 k3
  | call f args =>
    simp only at h
    obtain ⟨hb, hc⟩ := hcall f args H v H' h
    obtain ⟨argsC, hr, hl⟩ := hs hb
    rw [hr, Oper.upon_enter]
    refine (hc B w0 φ w argsC R hl).mono fun e w' he => ?_
    obtain ⟨φ', u, rfl, k1, k2, k3⟩ := he
    exact hK φ' w' u k1 k2 k3

theorem yielded_of {nt : Nat} {a : Fr} {tmps : Array Value} (F : FrRel P φ H nt a tmps) {ops : Array Oper} {j g : Nat} {b : Bool} (hg : (ops[j]?).bind (·.dst) = some g) (hb : a g = .bool b) :
    yielded ops tmps j = some b := by
  have h1 := F.2 g
  rw [hb] at h1
  have h2 := h1.bool_inv
  rw [Array.getD_eq_getD_getElem?] at h2
  unfold yielded
  rw [hg]
  cases ht : tmps[g]? with
  | none => rw [ht] at h2; cases h2
  | some x => rw [ht] at h2; simp at h2; subst h2; simp [ht]

theorem opD_sound (hcall : CallSound P call) (R : Rel P B w0 φ H w) {nt : Nat} {a a' : Fr} {act : Act} (F : FrRel P φ H nt a act.tmps) (hd : act.defers = []) {ops : Array Oper} {nid : Option Nat} {i : Nat} {o : Oper} {v : Value}
    (hi : ops[i]? = some o) (h : opD P call nt ops nid o a H = some (v, a', H')) {Q : Exit → Act → World → Prop} {K : Act → World → Prop}
    (hK : ∀ φ' w' act', Rel P B w0 φ' H' w' → Ext φ H φ' H' → FrRel P φ' H' nt a' act'.tmps → act'.defers = [] → K act' w') : wpOp P ops Q i K act w := by
  unfold wpOp
  rw [hi]
  simp only
  have hput : ∀ {φ' : Nat → Place} {H1 : Heap} {v u : Value} {w' : World}, Rel P B w0 φ' H1 w' → Ext φ H φ' H1 → VRel P φ' H1 v u → dst nt a o.dst v = some a' → H1 = H' → K (act.put o.dst u) w' := by
    intro φ' H1 v u w' k1 k2 k3 k4 k5
    subst k5
    refine hK φ' w' _ k1 k2 (FrRel.put (F.ext k2) k4 k3) ?_
    cases ho : o.dst <;> simp [Act.put, hd]
  unfold opD at h
  split at h
  · rename_i hg
    simp only [Option.bind_eq_some_iff] at h
    obtain ⟨⟨v1, H1⟩, h1, a1, h2, h3⟩ := h
    cases h3
    rw [if_pos (by simp [Region.wanted, hg])]
    exact .inl (aopC_sound hcall R F h1 fun φ' w' u k1 k2 k3 => hput k1 k2 k3 h2 rfl)
  · rename_i j want hg
    split at h
    · cases h
    · rename_i g hgd
      simp only [Option.bind_eq_some_iff] at h
      obtain ⟨⟨v1, H1⟩, h1, a1, h2, h3⟩ := h
      cases h3
      unfold gd at h1
      split at h1
      · rename_i b hb
        have hy := yielded_of F hgd hb
        by_cases hbw : b = want
        · rw [if_pos hbw] at h1
          rw [if_pos (by simp [Region.wanted, hg, hy, hbw])]
          exact .inl (aopC_sound hcall R F h1 fun φ' w' u k1 k2 k3 => hput k1 k2 k3 h2 rfl)
        · rw [if_neg hbw] at h1
          cases h1
          rw [if_neg (by simp [Region.wanted, hg, hy, hbw])]
          exact hput R (Ext.refl _ _) (VRel.plain plain_undef) h2 rfl
      · cases h1

theorem seqD_sound (hcall : CallSound P call) {nt : Nat} {ops : Array Oper} {Q : Exit → Act → World → Prop} {a' : Fr} : ∀ (l : List Oper) (k : Nat) (a : Fr) (H : Heap) (φ : Nat → Place) (w : World) (act : Act),
    ops.toList.drop k = l → seqD P call nt ops l a H = some (a', H') → Rel P B w0 φ H w → FrRel P φ H nt a act.tmps → act.defers = [] →
    (∀ φ' w' act', Rel P B w0 φ' H' w' → Ext φ H φ' H' → FrRel P φ' H' nt a' act'.tmps → act'.defers = [] → Q .normal act' w') →
    wpOps P ops Q (List.range' k l.length) act w := by
  intro l
  induction l with
  | nil =>
    intro k a H φ w act _ h R F hd hK
    simp only [seqD, Option.some.injEq, Prod.mk.injEq] at h
    obtain ⟨rfl, rfl⟩ := h
    exact hK φ w act R (Ext.refl _ _) F hd
  | cons o r ih =>
    intro k a H φ w act hl h R F hd hK
    simp only [seqD, Option.bind_eq_some_iff] at h
    obtain ⟨⟨v, a1, H1⟩, h1, h2⟩ := h
    have hi : ops[k]? = some o := by
      rw [← Array.getElem?_toList]
      have := congrArg (fun l : List Oper => l[0]?) hl
      simpa [List.getElem?_drop] using this
    rw [List.length_cons, List.range'_succ, wpOps_cons]
    refine opD_sound hcall R F hd hi h1 fun φ1 w1 act1 k1 k2 k3 k4 => ?_
    refine ih (k + 1) a1 H1 φ1 w1 act1 ?_ h2 k1 k3 k4 fun φ' w' act' g1 g2 g3 g4 => hK φ' w' act' g1 (k2.trans g2) g3 g4
    have := congrArg (List.drop 1) hl
    simpa [List.drop_drop, Nat.add_comm] using this
end
end Go.Proofs.SakAm

namespace Go.Proofs.SakAm
set_option linter.unusedVariables false
set_option linter.unusedSimpArgs false
open Go
set_option linter.unusedSectionVars false
variable [Tabs]

/-! ### More blocks beside those that are touched -/

theorem Heap.ext {G H : Heap} (h1 : ∀ i, G.get i = H.get i) (h2 : G.next = H.next) : G = H := by
  obtain ⟨g, n, w1⟩ := G
  obtain ⟨h, m, w2⟩ := H
  simp only at h1 h2
  subst h2
  have : g = h := funext h1
  subst this
  rfl

/-- Blocks E beside those of G. -/
def over (E : Nat → Option Blk) (G : Heap) : Heap :=
  ⟨fun i => match E i with | some b => if i < G.next then some b else none | none => G.get i, G.next, fun i hi => by
    split
    · rw [if_neg (by omega)]
    · exact G.wf i hi⟩

/-- They are apart. -/
def Disj (E : Nat → Option Blk) (G : Heap) : Prop := ∀ i b, E i = some b → G.get i = none ∧ i < G.next

section
variable {E : Nat → Option Blk} {G : Heap}

theorem over_get (D : Disj E G) (i : Nat) : (over E G).get i = match E i with | some b => some b | none => G.get i := by
  show (match E i with | some b => if i < G.next then some b else none | none => G.get i) = _
  cases h : E i with
  | none => rfl
  | some b => simp [(D i b h).2]

theorem over_live (D : Disj E G) {i : Nat} {b : Blk} (h : G.get i = some b) : (over E G).get i = some b := by
  rw [over_get D]
  cases he : E i with
  | none => exact h
  | some c => rw [(D i c he).1] at h; cases h

theorem over_none (D : Disj E G) {i : Nat} (h : G.get i = none) (he : E i = none) : (over E G).get i = none := by
  rw [over_get D, he]; exact h

theorem over_upd (D : Disj E G) {i : Nat} (he : E i = none) (b : Blk) : over E (G.upd i b) = (over E G).upd i b ∧ Disj E (G.upd i b) := by
  have D' : Disj E (G.upd i b) := fun j c hj => by
    obtain ⟨d1, d2⟩ := D j c hj
    refine ⟨?_, d2⟩
    rw [get_upd, if_neg]
    · exact d1
    · rintro ⟨rfl, _⟩; rw [he] at hj; cases hj
  refine ⟨Heap.ext (fun j => ?_) rfl, D'⟩
  rw [over_get D', get_upd, get_upd, over_get D]
  by_cases hj : j = i
  · subst hj
    rw [he]
    simp [over]
  · rw [if_neg (fun x => hj x.1), if_neg (fun x => hj x.1)]

theorem none_of_live (D : Disj E G) {i : Nat} {b : Blk} (h : G.get i = some b) : E i = none := by
  cases he : E i with
  | none => rfl
  | some c => rw [(D i c he).1] at h; cases h

theorem over_new (D : Disj E G) (b : Blk) : over E (G.new b) = (over E G).new b ∧ Disj E (G.new b) := by
  have D' : Disj E (G.new b) := fun j c hj => by
    obtain ⟨d1, d2⟩ := D j c hj
    refine ⟨?_, by simp only [Heap.new]; omega⟩
    simp only [Heap.new]
    rw [if_neg (by omega)]; exact d1
  refine ⟨Heap.ext (fun j => ?_) rfl, D'⟩
  rw [over_get D']
  show _ = if j = (over E G).next then some b else (over E G).get j
  rw [over_get D]
  show (match E j with | some b => some b | none => if j = G.next then some b else G.get j) = if j = G.next then some b else _
  by_cases hj : j = G.next
  · have : E j = none := by
      cases he : E j with
      | none => rfl
      | some c => have := (D j c he).2; omega
    simp only [this, if_pos hj]
  · rw [if_neg hj, if_neg hj]

theorem over_reserve (D : Disj E G) (k : Nat) : over E (G.reserve k) = (over E G).reserve k ∧ Disj E (G.reserve k) := by
  have D' : Disj E (G.reserve k) := fun j c hj => by
    obtain ⟨d1, d2⟩ := D j c hj
    exact ⟨d1, by simp only [Heap.reserve]; omega⟩
  refine ⟨Heap.ext (fun j => ?_) rfl, D'⟩
  rw [over_get D']
  show _ = (over E G).get j
  rw [over_get D]; rfl

theorem over_blk (D : Disj E G) {i vr : Nat} {b : Blk} (h : blk G i vr = some b) : blk (over E G) i vr = some b := by
  obtain ⟨h1, h2⟩ := blk_eq h
  simp [blk, over_live D h1, h2]

theorem over_ld1 (D : Disj E G) {p v : Value} (h : ld1 G p = some v) : ld1 (over E G) p = some v := by
  unfold ld1 at h ⊢
  split at h
  · simp only [Option.bind_eq_some_iff] at h ⊢
    obtain ⟨b, hb, h⟩ := h
    exact ⟨b, over_blk D hb, h⟩
  · cases h

theorem over_ldA (D : Disj E G) {n : Nat} {p v : Value} (h : ldA G n p = some v) : ldA (over E G) n p = some v := by
  unfold ldA at h ⊢
  split at h
  · simp only [Option.bind_eq_some_iff] at h ⊢
    obtain ⟨b, hb, h⟩ := h
    exact ⟨b, over_blk D hb, h⟩
  · cases h

theorem over_ldT {P : Program} (D : Disj E G) {t : TypeId} {p v : Value} (h : ldT P t G p = some v) : ldT P t (over E G) p = some v := by
  unfold ldT at h ⊢
  split at h
  · exact over_ldA D h
  · exact over_ld1 D h
  · cases h

theorem over_rowOf (D : Disj E G) {m : Nat} {x : Value} {l : List Value} (h : rowOf G m x = some l) : rowOf (over E G) m x = some l := by
  unfold rowOf at h ⊢
  split at h
  · split at h
    · rename_i h0; rw [if_pos h0]; exact h
    · rename_i h0
      rw [if_neg h0]
      simp only [Option.bind_eq_some_iff] at h ⊢
      obtain ⟨b, hb, h⟩ := h
      exact ⟨b, over_blk D hb, h⟩
  · exact h
  · exact h
  · cases h

theorem over_st1 (D : Disj E G) {p v : Value} {G' : Heap} (h : st1 G p v = some G') : st1 (over E G) p v = some (over E G') ∧ Disj E G' := by
  unfold st1 at h ⊢
  split at h
  · simp only [Option.bind_eq_some_iff] at h ⊢
    obtain ⟨b, hb, h⟩ := h
    split at h
    · rename_i hc
      cases h
      obtain ⟨u1, u2⟩ := over_upd D (none_of_live D (blk_eq hb).1) { b with cells := b.cells.set _ v }
      exact ⟨⟨b, over_blk D hb, by rw [if_pos hc, ← u1]⟩, u2⟩
    · cases h
  · cases h

theorem over_stA (D : Disj E G) {n : Nat} {p v : Value} {G' : Heap} (h : stA G n p v = some G') : stA (over E G) n p v = some (over E G') ∧ Disj E G' := by
  unfold stA at h ⊢
  split at h
  · simp only [Option.bind_eq_some_iff] at h ⊢
    obtain ⟨b, hb, h⟩ := h
    split at h
    · rename_i hc
      cases h
      obtain ⟨u1, u2⟩ := over_upd D (none_of_live D (blk_eq hb).1) { b with cells := splice b.cells _ (cellsOf v) }
      exact ⟨⟨b, over_blk D hb, by rw [if_pos hc, ← u1]⟩, u2⟩
    · cases h
  · cases h

theorem over_mkAt (D : Disj E G) {nid : Option Nat} (hn : ∀ i, nid = some i → E i = none) {b : Blk} {r : Nat × Heap} (h : mkAt G nid b = some r) :
    mkAt (over E G) nid b = some (r.1, over E r.2) ∧ Disj E r.2 := by
  cases nid with
  | none =>
    simp only [mkAt, Option.some.injEq] at h
    subst h
    obtain ⟨u1, u2⟩ := over_new D b
    exact ⟨by simp only [mkAt]; rw [u1]; rfl, u2⟩
  | some i =>
    simp only [mkAt] at h ⊢
    split at h
    · rename_i hg
      split at h
      · rename_i hlt
        cases h
        have he := hn i rfl
        obtain ⟨u1, u2⟩ := over_upd D he b
        rw [over_none D hg he]
        refine ⟨?_, u2⟩
        simp only
        rw [if_pos (show i < (over E G).next from hlt), u1]
      · cases h
    · cases h

theorem over_mkbox (D : Disj E G) {nid : Option Nat} (hn : ∀ i, nid = some i → E i = none) {t : TypeId} {v : Value} {r : Value × Heap} (h : mkbox G nid t v = some r) :
    mkbox (over E G) nid t v = some (r.1, over E r.2) ∧ Disj E r.2 := by
  unfold mkbox at h ⊢
  split at h
  · rename_i hc
    simp only [Option.bind_eq_some_iff] at h
    obtain ⟨x, hx, h⟩ := h
    cases h
    obtain ⟨u1, u2⟩ := over_mkAt D hn hx
    exact ⟨by rw [if_pos hc, u1]; rfl, u2⟩
  · cases h

theorem over_mkrow (D : Disj E G) {nid : Option Nat} (hn : ∀ i, nid = some i → E i = none) {t : TypeId} {n : Nat} {v : List Value} {r : Value × Heap} (h : mkrow G nid t n v = some r) :
    mkrow (over E G) nid t n v = some (r.1, over E r.2) ∧ Disj E r.2 := by
  unfold mkrow at h ⊢
  split at h
  · rename_i hc
    simp only [Option.bind_eq_some_iff] at h
    obtain ⟨x, hx, h⟩ := h
    cases h
    obtain ⟨u1, u2⟩ := over_mkAt D hn hx
    exact ⟨by rw [if_pos hc, u1]; rfl, u2⟩
  · cases h

theorem over_mkslice (D : Disj E G) {nid : Option Nat} (hn : ∀ i, nid = some i → E i = none) {t : TypeId} {y : Nat} {z : List Value} {l c : Value} {r : Value × Heap} (h : mkslice G nid t y z l c = some r) :
    mkslice (over E G) nid t y z l c = some (r.1, over E r.2) ∧ Disj E r.2 := by
  unfold mkslice at h ⊢
  split at h
  · split at h
    · rename_i hc
      rw [if_pos hc]
      exact over_mkrow D hn h
    · cases h
  · cases h

theorem over_append (D : Disj E G) {e : TypeId} {m y : Nat} {s x : Value} {r : Value × Heap} (h : aappend G e m y s x = some r) :
    aappend (over E G) e m y s x = some (r.1, over E r.2) ∧ Disj E r.2 := by
  simp only [aappend, Option.bind_eq_some_iff] at h ⊢
  obtain ⟨new, hnew, h⟩ := h
  have hnew' := over_rowOf D hnew
  split at h
  · rename_i hb
    split at h
    · rename_i h0
      split at h
      · cases h
        exact ⟨⟨new, hnew', by rw [if_pos hb, if_pos h0]⟩, D⟩
      · cases h
        exact ⟨⟨new, hnew', by rw [if_pos hb, if_pos h0]⟩, D⟩
      · cases h
    · rename_i h0
      split at h
      · cases h
        obtain ⟨u1, u2⟩ := over_new D { cells := new, elem := e, ver := 0, ro := false }
        exact ⟨⟨new, hnew', by rw [if_pos hb, if_neg h0, u1]; rfl⟩, u2⟩
      · simp only [Option.bind_eq_some_iff] at h
        obtain ⟨b, hbk, h⟩ := h
        split at h
        · rename_i hc
          cases h
          obtain ⟨u1, u2⟩ := over_upd D (none_of_live D (blk_eq hbk).1) { b with cells := b.cells ++ new, ver := _ + 1 }
          refine ⟨⟨new, hnew', ?_⟩, u2⟩
          rw [if_pos hb, if_neg h0]
          simp only [over_blk D hbk, Option.bind_some]
          rw [if_pos hc, u1]
        · cases h
      · cases h
  · cases h

/-! ### Operations over more blocks -/

def Out.over (E : Nat → Option Blk) : Out → Out
  | .val v H => .val v (SakAm.over E H)
  | .call f args => .call f args

def Out.disj (E : Nat → Option Blk) : Out → Prop
  | .val _ H => Disj E H
  | .call _ _ => True

theorem lift_bind {α : Type} {x : Option α} {f g : α → Option Out} {out : Out} (h : x.bind f = some out) (hf : ∀ v, x = some v → f v = some out → g v = some (out.over E) ∧ out.disj E) : x.bind g = some (out.over E) ∧ out.disj E := by
  simp only [Option.bind_eq_some_iff] at h ⊢
  obtain ⟨v, hv, h⟩ := h
  obtain ⟨k1, k2⟩ := hf v hv h
  exact ⟨⟨v, hv, k1⟩, k2⟩

theorem lift_same (D : Disj E G) {v : Value} {out : Out} (h : some (Out.val v G) = some out) : some (Out.val v (over E G)) = some (out.over E) ∧ out.disj E := by
  cases h; exact ⟨rfl, D⟩

theorem lift_heap {x y : Option (Value × Heap)} {out : Out} (h : (x.bind fun r => some (Out.val r.1 r.2)) = some out) (hx : ∀ r, x = some r → y = some (r.1, over E r.2) ∧ Disj E r.2) :
    (y.bind fun r => some (Out.val r.1 r.2)) = some (out.over E) ∧ out.disj E := by
  simp only [Option.bind_eq_some_iff] at h
  obtain ⟨r, hr, h⟩ := h
  cases h
  obtain ⟨k1, k2⟩ := hx r hr
  exact ⟨by rw [k1]; rfl, k2⟩

theorem abuilt_over {P : Program} (D : Disj E G) {b : Builtin} {argTypes : Array TypeId} {args : List Value} {out : Out} (h : abuilt P G b argTypes args = some out) :
    abuilt P (over E G) b argTypes args = some (out.over E) ∧ out.disj E := by
  unfold abuilt at h ⊢
  split at h
  · split at h
    · rename_i hu; (try simp only [hu]); exact lift_same D h
    · rename_i hu; (try simp only [hu]); exact lift_bind h fun v _ h => lift_same D h
    · rename_i hu; (try simp only [hu]); exact lift_bind h fun v _ h => lift_same D h
    · cases h
  · split at h
    · rename_i h1 h2
      (try simp only [h1, h2])
      exact lift_heap h fun r hr => over_append D hr
    · cases h
  · exact lift_bind h fun v _ h => lift_same D h
  · exact lift_bind h fun v _ h => lift_same D h
  · exact lift_bind h fun v _ h => lift_same D h
  · exact lift_bind h fun v _ h => lift_same D h
  · exact lift_bind h fun v _ h => lift_same D h
  · cases h

theorem aop_over {P : Program} (D : Disj E G) {a : Fr} {nid : Option Nat} (hn : ∀ i, nid = some i → E i = none) {op : Op} {out : Out} (h : aop P a G nid op = some out) :
    aop P a (over E G) nid op = some (out.over E) ∧ out.disj E := by
  unfold aop at h ⊢
  split at h
  · exact lift_bind h fun v _ h => lift_same D h
  · exact lift_bind h fun v _ h => lift_same D h
  · exact lift_bind h fun v _ h => lift_bind h fun v _ h => lift_bind h fun v _ h => lift_bind h fun v _ h => lift_same D h
  · exact lift_bind h fun v _ h => lift_heap h fun r hr => over_mkbox D hn hr
  · exact lift_bind h fun v _ h => lift_heap h fun r hr => over_mkbox D hn hr
  · split at h
    · rename_i hc
      (try simp only [if_pos hc])
      exact lift_bind h fun v _ h => lift_bind h fun v _ h => lift_bind h fun v _ h => lift_same D h
    · cases h
  · refine lift_bind h fun v _ h => lift_bind h fun v _ h => ?_
    split at h
    · rename_i hc
      rw [if_pos hc]
      exact lift_bind h fun v _ h => lift_bind h fun v _ h => lift_heap h fun r hr => over_mkrow D hn hr
    · cases h
  · refine lift_bind h fun v _ h => ?_
    split at h
    · rename_i hs
      (try simp only [hs])
      simp only [Option.bind_eq_some_iff] at h
      obtain ⟨u, hu, h⟩ := h
      cases h
      exact ⟨by rw [over_ldA D hu]; rfl, D⟩
    · rename_i hs
      (try simp only [hs])
      simp only [Option.bind_eq_some_iff] at h
      obtain ⟨u, hu, h⟩ := h
      cases h
      exact ⟨by rw [over_ld1 D hu]; rfl, D⟩
    · cases h
  · refine lift_bind h fun v _ h => lift_bind h fun v _ h => ?_
    split at h
    · rename_i hs
      (try simp only [hs])
      simp only [Option.bind_eq_some_iff] at h
      obtain ⟨u, hu, h⟩ := h
      cases h
      obtain ⟨k1, k2⟩ := over_stA D hu
      exact ⟨by rw [k1]; rfl, k2⟩
    · rename_i hs
      (try simp only [hs])
      simp only [Option.bind_eq_some_iff] at h
      obtain ⟨u, hu, h⟩ := h
      cases h
      obtain ⟨k1, k2⟩ := over_st1 D hu
      exact ⟨by rw [k1]; rfl, k2⟩
    · cases h
  · exact lift_bind h fun v _ h => lift_bind h fun v _ h => lift_same D h
  · exact lift_bind h fun v _ h => lift_bind h fun v _ h => lift_bind h fun v _ h => lift_same D h
  · exact lift_bind h fun v _ h => lift_bind h fun v _ h => lift_same D h
  · exact lift_bind h fun v _ h => lift_bind h fun v _ h => lift_same D h
  · exact lift_bind h fun v _ h => lift_bind h fun v _ h => lift_same D h
  · refine lift_bind h fun v _ h => lift_bind h fun v _ h => lift_bind h fun v _ h => lift_bind h fun v _ h => ?_
    split at h
    · rename_i hc
      rw [if_pos hc]
      exact lift_heap h fun r hr => over_mkslice D hn hr
    · cases h
  · refine lift_bind h fun v _ h => lift_bind h fun v _ h => lift_bind h fun v _ h => ?_
    split at h
    · rename_i hs
      (try simp only [hs])
      exact lift_bind h fun v _ h => lift_bind h fun v _ h => lift_same D h
    · rename_i hs
      (try simp only [hs])
      exact lift_bind h fun v _ h => lift_same D h
    · cases h
  · refine lift_bind h fun v _ h => ?_
    split at h
    · rename_i h1 h2
      (try simp only [h1, h2])
      exact lift_bind h fun v _ h => lift_same D h
    · cases h
  · refine lift_bind h fun v _ h => ?_
    split at h
    · rename_i h1
      (try simp only [h1])
      split at h
      · rename_i h2
        (try simp only [h2])
        exact lift_bind h fun v _ h => lift_same D h
      · cases h
    · cases h
  · refine lift_bind h fun v _ h => lift_bind h fun v _ h => ?_
    split at h
    · rename_i h1
      (try simp only [h1])
      exact lift_bind h fun v _ h => lift_bind h fun v _ h => lift_same D h
    · rename_i h1
      (try simp only [h1])
      exact lift_bind h fun v _ h => lift_bind h fun v _ h => lift_same D h
    · cases h
  · exact lift_bind h fun v _ h => lift_bind h fun v _ h => lift_same D h
  · refine lift_bind h fun v _ h => ?_
    split at h
    · rename_i hc
      (try simp only [hc])
      cases h
      exact ⟨rfl, trivial⟩
    · rename_i hc
      (try simp only [hc])
      refine lift_bind h fun v _ h => lift_bind h fun v _ h => ?_
      cases h
      exact ⟨rfl, trivial⟩
    · rename_i hc
      (try simp only [hc])
      exact abuilt_over D h
    · cases h
  · cases h
end
end Go.Proofs.SakAm

namespace Go.Proofs.SakAm
set_option linter.unusedVariables false
set_option linter.unusedSimpArgs false
open Go
set_option linter.unusedSectionVars false
variable [Tabs]

/-- A call is not disturbed by more blocks. -/
def CallOver (call : FuncId → List Value → Heap → Option (Value × Heap)) : Prop :=
  ∀ E f args G v G', Disj E G → call f args G = some (v, G') → call f args (over E G) = some (v, over E G') ∧ Disj E G'

section
variable {P : Program} {call : FuncId → List Value → Heap → Option (Value × Heap)} {E : Nat → Option Blk}

theorem aopC_over (hc : CallOver call) {G G' : Heap} (D : Disj E G) {a : Fr} {nid : Option Nat} (hn : ∀ i, nid = some i → E i = none) {op : Op} {v : Value} (h : aopC P call a G nid op = some (v, G')) :
    aopC P call a (over E G) nid op = some (v, over E G') ∧ Disj E G' := by
  simp only [aopC, Option.bind_eq_some_iff] at h ⊢
  obtain ⟨out, ho, h⟩ := h
  obtain ⟨k1, k2⟩ := aop_over D hn ho
  cases out with
  | val v1 G1 => cases h; exact ⟨⟨_, k1, rfl⟩, k2⟩
  | call f args =>
    obtain ⟨c1, c2⟩ := hc E f args G v G' D h
    exact ⟨⟨_, k1, c1⟩, c2⟩

theorem opD_over (hc : CallOver call) {G G' : Heap} (D : Disj E G) {nt : Nat} {ops : Array Oper} {a a' : Fr} {nid : Option Nat} (hn : ∀ i, nid = some i → E i = none) {o : Oper} {v : Value} (h : opD P call nt ops nid o a G = some (v, a', G')) :
    opD P call nt ops nid o a (over E G) = some (v, a', over E G') ∧ Disj E G' := by
  unfold opD at h ⊢
  split at h
  · simp only [Option.bind_eq_some_iff] at h
    obtain ⟨⟨v1, G1⟩, h1, a1, h2, h3⟩ := h
    cases h3
    obtain ⟨k1, k2⟩ := aopC_over hc D hn h1
    exact ⟨by rw [k1]; simp [h2], k2⟩
  · rename_i jj want hgd
    split at h
    · cases h
    · simp only [Option.bind_eq_some_iff] at h
      obtain ⟨⟨v1, G1⟩, h1, a1, h2, h3⟩ := h
      cases h3
      unfold gd at h1 ⊢
      split at h1
      · rename_i b hb
        by_cases hw : b = want
        · rw [if_pos hw] at h1
          obtain ⟨k1, k2⟩ := aopC_over hc D hn h1
          exact ⟨by rw [if_pos hw, k1]; simp [h2], k2⟩
        · rw [if_neg hw] at h1
          cases h1
          exact ⟨by rw [if_neg hw]; simp [h2], D⟩
      · cases h1

theorem seqD_over (hc : CallOver call) {nt : Nat} {ops : Array Oper} : ∀ (l : List Oper) {G : Heap} (_ : Disj E G) {a : Fr} {r : Fr × Heap}, seqD P call nt ops l a G = some r →
    seqD P call nt ops l a (over E G) = some (r.1, over E r.2) ∧ Disj E r.2
  | [], G, D, a, r, h => by simp only [seqD, Option.some.injEq] at h; subst h; exact ⟨rfl, D⟩
  | o :: l, G, D, a, r, h => by
    simp only [seqD, Option.bind_eq_some_iff] at h
    obtain ⟨⟨v, a1, G1⟩, h1, h2⟩ := h
    obtain ⟨k1, k2⟩ := opD_over hc D (fun _ h => by cases h) h1
    obtain ⟨k3, k4⟩ := seqD_over hc l k2 h2
    exact ⟨by simp only [seqD, k1, Option.bind_some]; exact k3, k4⟩

theorem tells_over {x y : Option Value} {v : Value} (hxy : ∀ u, x = some u → y = some u) (h : tells x v = true) : tells y v = true := by
  unfold tells at h ⊢
  split at h
  · rename_i u
    rw [hxy u rfl]; exact h
  · cases h

theorem holds_over {G : Heap} (D : Disj E G) {r : Read} (h : r.holds P G = true) : r.holds P (over E G) = true := by
  unfold Read.holds at h ⊢
  split at h
  · exact tells_over (fun u hu => over_ldT D hu) h
  · split at h
    · rename_i hw; simp only [if_pos hw]; exact tells_over (fun u hu => over_ldT D hu) h
    · rename_i hw; simp only [if_neg hw]
  · cases h

theorem readsHold_over {bs : List Nat} {j : Nat} {G : Heap} (D : Disj E G) : ∀ {l : List Read}, readsHold P bs j G l = true → readsHold P bs j (over E G) l = true
  | [], _ => rfl
  | r :: l, h => by
    simp only [readsHold, Bool.and_eq_true, Bool.or_eq_true] at h ⊢
    exact ⟨h.1.imp id (holds_over D), readsHold_over D h.2⟩

theorem pastHold_over {bs : List Nat} {r : Read} : ∀ {l : List (Nat × Heap)}, (∀ p ∈ l, Disj E p.2) → pastHold P bs r l = true → pastHold P bs r (l.map fun p => (p.1, over E p.2)) = true
  | [], _, _ => rfl
  | (j, G) :: l, D, h => by
    simp only [pastHold, List.map_cons, Bool.and_eq_true, Bool.or_eq_true] at h ⊢
    exact ⟨h.1.imp id (holds_over (D (j, G) (by simp))), pastHold_over (fun p hp => D p (by simp [hp])) h.2⟩

theorem ifD_eq {β : Type} {c : Bool} {x : Option β} {r : β} (h : ifD c x = some r) : c = true ∧ x = some r := by
  unfold ifD at h
  split at h
  · rename_i hc; exact ⟨hc, h⟩
  · cases h

theorem drawD_over (hc : CallOver call) {nt : Nat} {ops : Array Oper} {bs : List Nat} {base : Nat} : ∀ (l : List Oper) (i : Nat) {G : Heap} (_ : Disj E G) {a : Fr} {past : List (Nat × Heap)} {reads : List Read} {r : Fr × Heap},
    (∀ j, E (base + j) = none) → (∀ p ∈ past, Disj E p.2) → drawD P call nt ops bs base i l a G past reads = some r →
    drawD P call nt ops bs base i l a (over E G) (past.map fun p => (p.1, over E p.2)) reads = some (r.1, over E r.2) ∧ Disj E r.2
  | [], i, G, D, a, past, reads, r, _, _, h => by simp only [drawD, Option.some.injEq] at h; subst h; exact ⟨rfl, D⟩
  | o :: l, i, G, D, a, past, reads, r, hb, hp, h => by
    simp only [drawD, Option.bind_eq_some_iff] at h
    obtain ⟨⟨v, a1, G1⟩, h1, h2⟩ := h
    obtain ⟨k1, k2⟩ := opD_over hc D (fun j hj => by cases hj; exact hb i) h1
    simp only [drawD, k1, Option.bind_some]
    split at h2
    · obtain ⟨c1, c2⟩ := ifD_eq h2
      obtain ⟨k3, k4⟩ := drawD_over hc l (i + 1) k2 hb hp c2
      refine ⟨?_, k4⟩
      simp only [ifD, if_pos (pastHold_over hp c1)]
      exact k3
    · obtain ⟨c1, c2⟩ := ifD_eq h2
      obtain ⟨k3, k4⟩ := drawD_over hc l (i + 1) k2 hb (fun p hm => by rcases List.mem_cons.1 hm with rfl | hm; exact D; exact hp p hm) c2
      refine ⟨?_, k4⟩
      simp only [ifD, if_pos (readsHold_over k2 c1)]
      exact k3
    · obtain ⟨k3, k4⟩ := drawD_over hc l (i + 1) k2 hb hp h2
      exact ⟨k3, k4⟩

theorem regionD_over (hc : CallOver call) {nt : Nat} {ops : Array Oper} {draw : Bool} {G : Heap} (D : Disj E G) {a : Fr} {r : Fr × Heap} (h : regionD P call nt ops draw a G = some r) :
    regionD P call nt ops draw a (over E G) = some (r.1, over E r.2) ∧ Disj E r.2 := by
  unfold regionD at h ⊢
  split at h
  · rename_i hd
    rw [if_pos hd]
    split at h
    · rename_i hok
      rw [if_pos hok]
      have hb : ∀ j, E (G.next + j) = none := fun j => by
        cases he : E (G.next + j) with
        | none => rfl
        | some b => have := (D _ b he).2; omega
      by_cases hn : hasNew ops = true
      · rw [if_pos hn] at h ⊢
        obtain ⟨u1, u2⟩ := over_reserve D ops.size
        have := drawD_over hc ops.toList 0 u2 hb (fun p hp => by cases hp) h
        rw [u1] at this
        exact this
      · rw [if_neg hn] at h ⊢
        exact drawD_over hc ops.toList 0 D hb (fun p hp => by cases hp) h
    · cases h
  · rename_i hd
    rw [if_neg hd]
    exact seqD_over hc _ D h

theorem resAll_over {G : Heap} (D : Disj E G) {a : Fr} : ∀ {l : List ResultVar} {vs : List Value}, resAll P a G l = some vs → resAll P a (over E G) l = some vs
  | [], vs, h => h
  | r :: l, vs, h => by
    simp only [resAll, Option.bind_eq_some_iff] at h ⊢
    obtain ⟨v, hv, vs', h2, h3⟩ := h
    refine ⟨v, ?_, vs', resAll_over D h2, h3⟩
    cases r with
    | tmp t => exact hv
    | cell p t => exact over_ldT D hv

theorem retK_over {G : Heap} (D : Disj E G) {fn : Func} {a : Fr} {r : Value × Heap} (h : retK P fn a G = some r) : retK P fn a (over E G) = some (r.1, over E r.2) ∧ Disj E r.2 := by
  simp only [retK, Option.bind_eq_some_iff] at h ⊢
  obtain ⟨vs, h1, h2⟩ := h
  cases h2
  exact ⟨⟨vs, resAll_over D h1, rfl⟩, D⟩
end

section
variable {P : Program} {ext : FuncId → List Value → Heap → Option (Value × Heap)}

theorem callBy_over (he : CallOver ext) {run : Func → List Item → Fr → Heap → Option (Value × Heap)}
    (hr : ∀ E fn items a G v G', Disj E G → run fn items a G = some (v, G') → run fn items a (over E G) = some (v, over E G') ∧ Disj E G')
    (hn : ∀ E f args G, Disj E G → ext f args G = none → ext f args (over E G) = none) : CallOver (callBy P ext run) := by
  intro E f args G v G' D h
  unfold callBy at h ⊢
  split at h
  · rename_i r hx
    cases h
    obtain ⟨k1, k2⟩ := he E f args G v G' D hx
    rw [k1]
    exact ⟨rfl, k2⟩
  · rename_i hx
    rw [hn E f args G D hx]
    split at h
    · rename_i fn c hb
      simp only
      split at h
      · rename_i hl
        rw [if_pos hl]
        exact hr E fn _ _ G v G' D h
      · cases h
    · cases h

theorem arun_over (he : CallOver ext) (hn : ∀ E f args G, Disj E G → ext f args G = none → ext f args (over E G) = none) : ∀ (n : Nat) (E : Nat → Option Blk) (fn : Func) (items : List Item) (a : Fr) (G : Heap) (v : Value) (G' : Heap), Disj E G →
    arun P ext n fn items a G = some (v, G') → arun P ext n fn items a (over E G) = some (v, over E G') ∧ Disj E G' := by
  intro n
  induction n with
  | zero => intro E fn items a G v G' _ h; simp [arun] at h
  | succ n ih =>
    intro E fn items a G v G' D h
    have hc : CallOver (callBy P ext (arun P ext n)) := callBy_over he ih hn
    unfold arun at h ⊢
    split at h
    · exact retK_over D h
    · exact retK_over D h
    · exact ih _ _ _ _ _ _ _ D h
    · exact ih _ _ _ _ _ _ _ D h
    · exact ih _ _ _ _ _ _ _ D h
    · exact ih _ _ _ _ _ _ _ D h
    · exact ih _ _ _ _ _ _ _ D h
    · simp only [Option.bind_eq_some_iff] at h ⊢
      obtain ⟨c, hcv, h⟩ := h
      unfold condK at h ⊢
      split at h
      · rename_i b
        cases b
        · obtain ⟨k1, k2⟩ := ih _ _ _ _ _ _ _ D h
          exact ⟨⟨_, hcv, k1⟩, k2⟩
        · obtain ⟨k1, k2⟩ := ih _ _ _ _ _ _ _ D h
          exact ⟨⟨_, hcv, k1⟩, k2⟩
      · cases h
    · exact ih _ _ _ _ _ _ _ D h
    · exact ih _ _ _ _ _ _ _ D h
    · exact ih _ _ _ _ _ _ _ D h
    · exact ih _ _ _ _ _ _ _ D h
    · split at h
      · rename_i hx; (try simp only [hx]); exact ih _ _ _ _ _ _ _ D h
      · cases h
    · split at h
      · rename_i hx; (try simp only [hx]); exact ih _ _ _ _ _ _ _ D h
      · cases h
    · simp only [Option.bind_eq_some_iff] at h ⊢
      obtain ⟨r, hr, h⟩ := h
      obtain ⟨k1, k2⟩ := regionD_over hc D hr
      obtain ⟨k3, k4⟩ := ih _ _ _ _ _ _ _ k2 h
      exact ⟨⟨_, k1, k3⟩, k4⟩
    · cases h
end
end Go.Proofs.SakAm

namespace Go.Proofs.SakAm
set_option linter.unusedVariables false
set_option linter.unusedSimpArgs false
open Go
open Go.RowKit (Below)
set_option linter.unusedSectionVars false
variable [Tabs]

/-! ### What the look at a region gives -/
section
theorem foldl_bits (acc : List Nat) (k : Nat) : ∀ (l : List Edge) (s : Nat),
    (l.foldl (fun s e => if Region.binds .any e then s ||| (1 <<< e.on) ||| acc.getD e.on 0 else s) s).testBit k = true →
    s.testBit k = true ∨ ∃ e ∈ l, Region.binds .any e = true ∧ (k = e.on ∨ (acc.getD e.on 0).testBit k = true)
  | [], s, h => .inl h
  | e :: l, s, h => by
    rw [List.foldl_cons] at h
    rcases foldl_bits acc k l _ h with h | ⟨e', he, h1, h2⟩
    · split at h
      · rename_i hb
        rw [Nat.testBit_or, Nat.testBit_or, Bool.or_eq_true, Bool.or_eq_true] at h
        rcases h with (h | h) | h
        · exact .inl h
        · refine .inr ⟨e, by simp, hb, .inl ?_⟩
          rw [Nat.shiftLeft_eq, Nat.one_mul, Nat.testBit_two_pow] at h
          simpa using (of_decide_eq_true h).symm
        · exact .inr ⟨e, by simp, hb, .inr h⟩
      · exact .inl h
    · exact .inr ⟨e', by simp [he], h1, h2⟩

theorem aheads_prefix : ∀ (l : List Oper) (acc : List Nat), ∃ r, aheads acc l = acc ++ r ∧ r.length = l.length
  | [], acc => ⟨[], by simp [aheads], rfl⟩
  | o :: l, acc => by
    obtain ⟨r, h1, h2⟩ := aheads_prefix l (acc ++ [o.after.toList.foldl (fun s e => if Region.binds .any e then s ||| (1 <<< e.on) ||| acc.getD e.on 0 else s) 0])
    exact ⟨_ :: r, by rw [aheads, h1, List.append_assoc]; rfl, by simp [h2]⟩

theorem aheads_get : ∀ (l : List Oper) (acc : List Nat) (j : Nat) (o : Oper), l[j]? = some o →
    ∃ pre : List Nat, (∀ x : Nat, pre.getD x 0 = (aheads acc l).getD x 0 ∨ pre.getD x 0 = 0) ∧ (aheads acc l).getD (acc.length + j) 0 = o.after.toList.foldl (fun s e => if Region.binds .any e then s ||| (1 <<< e.on) ||| pre.getD e.on 0 else s) 0
  | [], acc, j, o, h => by simp at h
  | p :: l, acc, j, o, h => by
    cases j with
    | zero =>
      simp only [List.getElem?_cons_zero, Option.some.injEq] at h
      subst h
      obtain ⟨r, h1, h2⟩ := aheads_prefix l (acc ++ [p.after.toList.foldl (fun s e => if Region.binds .any e then s ||| (1 <<< e.on) ||| acc.getD e.on 0 else s) 0])
      refine ⟨acc, fun x => ?_, ?_⟩
      · rw [aheads, h1]
        by_cases hx : x < acc.length
        · refine .inl ?_
          rw [List.getD_eq_getElem?_getD, List.getD_eq_getElem?_getD, List.append_assoc, List.getElem?_append_left hx]
        · refine .inr ?_
          rw [List.getD_eq_getElem?_getD, List.getElem?_eq_none (by omega)]; rfl
      · rw [aheads, h1, List.getD_eq_getElem?_getD, List.append_assoc, List.getElem?_append_right (by omega)]
        simp
    | succ j =>
      obtain ⟨pre, h1, h2⟩ := aheads_get l (acc ++ [p.after.toList.foldl (fun s e => if Region.binds .any e then s ||| (1 <<< e.on) ||| acc.getD e.on 0 else s) 0]) j o (by simpa using h)
      refine ⟨pre, fun x => by rw [aheads]; exact h1 x, ?_⟩
      rw [aheads, ← h2]
      congr 1
      simp; omega

theorem ahead_step {ops : Array Oper} {i k : Nat} {o : Oper} (ho : ops[i]? = some o) (h : ahead (aheads [] ops.toList) k i = true) :
    ∃ e ∈ o.after, Region.binds .any e = true ∧ (k = e.on ∨ ahead (aheads [] ops.toList) k e.on = true) := by
  obtain ⟨pre, h1, h2⟩ := aheads_get ops.toList [] i o (by simpa using ho)
  unfold ahead at h
  simp only [List.length_nil, Nat.zero_add] at h2
  rw [h2] at h
  rcases foldl_bits pre k _ 0 h with h | ⟨e, he, hb, h⟩
  · simp at h
  · refine ⟨e, by simpa using he, hb, h.imp id fun h => ?_⟩
    rcases h1 e.on with h3 | h3
    · unfold ahead; rw [← h3]; exact h
    · rw [h3] at h; simp at h

theorem drawOk_edges {ops : Array Oper} (h : drawOk ops = true) {j : Nat} {p : Oper} (hj : ops[j]? = some p) {e : Edge} (he : e ∈ p.after) (hb : Region.binds .any e = true) : e.on < j := by
  have h1 := (List.all_eq_true.1 h) (p, j) (List.mem_iff_getElem?.2 ⟨j, by simp [List.getElem?_zipIdx, hj]⟩)
  simp only [Bool.and_eq_true] at h1
  have h2 := (Array.all_eq_true'.1 h1.1) e he
  simpa [hb] using h2

theorem drawOk_pair {ops : Array Oper} (h : drawOk ops = true) {i j : Nat} {o p : Oper} (hi : ops[i]? = some o) (hj : ops[j]? = some p) (hij : i < j) : pairOk ops (aheads [] ops.toList) i j o p = true := by
  have h1 := (List.all_eq_true.1 h) (p, j) (List.mem_iff_getElem?.2 ⟨j, by simp [List.getElem?_zipIdx, hj]⟩)
  simp only [Bool.and_eq_true] at h1
  have h2 := (List.all_eq_true.1 h1.2) (o, i) (List.mem_iff_getElem?.2 ⟨i, by simp [List.getElem?_zipIdx, hi]⟩)
  simp only [Bool.or_eq_true, decide_eq_true_eq] at h2
  rcases h2 with h2 | h2
  · omega
  · exact h2

/-- What two operations that may change places have to do with each other. -/
theorem pair_facts {ops : Array Oper} {bs : List Nat} {i j : Nat} {o p : Oper} (h : pairOk ops bs i j o p = true) (hn : ahead bs i j = false) :
    ¬ ((kindOf o.op = 3 ∨ kindOf o.op = 2) ∧ kindOf p.op = 3) ∧ ¬ (kindOf o.op = 2 ∧ kindOf p.op = 1) ∧
      (∀ d, o.dst = some d → p.dst ≠ some d ∧ d ∉ readsOf ops p) ∧ (∀ d, p.dst = some d → d ∉ readsOf ops o) := by
  unfold pairOk at h
  rw [hn, Bool.false_or] at h
  simp only [Bool.and_eq_true, Bool.not_eq_true', Bool.and_eq_false_iff, Bool.or_eq_false_iff, beq_eq_false_iff_ne, ne_eq] at h
  obtain ⟨⟨⟨h1, h2⟩, h3⟩, h4⟩ := h
  refine ⟨fun ⟨a, b⟩ => ?_, fun ⟨a, b⟩ => ?_, fun d hd => ?_, fun d hd => ?_⟩
  · rcases h1 with ⟨c1, c2⟩ | c
    · rcases a with a | a
      · exact c1 a
      · exact c2 a
    · exact c b
  · rcases h2 with c | c
    · exact c a
    · exact c b
  · rw [hd] at h3
    simp only [Bool.and_eq_true, bne_iff_ne, ne_eq, Bool.not_eq_true', List.contains_eq_mem, decide_eq_false_iff_not] at h3
    exact h3
  · rw [hd] at h4
    simpa using h4
end

/-! ### An operation hangs on its operands -/
section
variable {P : Program} {call : FuncId → List Value → Heap → Option (Value × Heap)}

theorem evs_congr {a b : Fr} : ∀ {l : List Operand}, (∀ x ∈ l, evo a x = evo b x) → evs a l = evs b l
  | [], _ => rfl
  | x :: l, h => by simp only [evs, h x (by simp), evs_congr (a := a) (b := b) (l := l) (fun y hy => h y (List.mem_cons_of_mem _ hy))]

theorem partsOf_congr {pl : Nat → Option (Nat × Nat)} {a b : Fr} : ∀ {l : List (Nat × Operand)}, (∀ x ∈ l.map (·.2), evo a x = evo b x) → partsOf pl a l = partsOf pl b l
  | [], _ => rfl
  | (i, x) :: l, h => by simp only [partsOf, h x (by simp), partsOf_congr (l := l) (fun y hy => h y (by simp at hy ⊢; exact .inr hy))]

theorem evOpt_congr {a b : Fr} {x : Option Operand} (h : ∀ y ∈ x.toArray, evo a y = evo b y) : evOpt a x = evOpt b x := by
  cases x with
  | none => rfl
  | some x => simp only [evOpt, h x (by simp)]

theorem aop_congr {a b : Fr} {H : Heap} {nid : Option Nat} {op : Op} (h : ∀ x ∈ op.operands, evo a x = evo b x) : aop P a H nid op = aop P b H nid op := by
  cases op with
  | build t ps => simp only [aop, partsOf_congr (a := a) (b := b) (l := ps.toList) (fun x hx => h x (by simp [Op.operands] at hx ⊢; exact hx))]
  | buildSlice t n ps =>
    have e : ∀ pl, partsOf pl a ps.toList = partsOf pl b ps.toList := fun pl => partsOf_congr (fun x hx => h x (by simp [Op.operands] at hx ⊢; exact hx))
    simp only [aop, e]
  | makeFunc fn first captured =>
    cases fn with
    | func f => simp only [aop, evs_congr (a := a) (b := b) (l := first.toList) (fun x hx => h x (by simp [Op.operands] at hx ⊢; exact .inl hx)), evs_congr (a := a) (b := b) (l := captured.toList) (fun x hx => h x (by simp [Op.operands] at hx ⊢; exact .inr hx))]
    | _ => rfl
  | slice t x lo hi mx =>
    cases mx with
    | none => simp only [aop, h x (by simp [Op.operands]), evOpt_congr (a := a) (b := b) (x := lo) (fun y hy => h y (by simp [Op.operands] at hy ⊢; simp [hy])), evOpt_congr (a := a) (b := b) (x := hi) (fun y hy => h y (by simp [Op.operands] at hy ⊢; simp [hy]))]
    | some m => rfl
  | call c =>
    have e1 : evs a c.args.toList = evs b c.args.toList := evs_congr (fun x hx => h x (by simp [Op.operands, Call.operands]; exact .inr (by simpa using hx)))
    have e2 : ∀ x, c.callee = .value x → evo a x = evo b x := fun x hx => h x (by simp [Op.operands, Call.operands, hx])
    simp only [aop, e1]
    cases hc : c.callee with
    | value x =>
      have := e2 x hc
      cases x <;> simp_all
    | _ => rfl
  | _ =>
    simp only [Op.operands, List.mem_toArray, List.mem_cons, List.not_mem_nil, or_false, forall_eq_or_imp, forall_eq, Array.not_mem_empty, false_implies, implies_true] at h
    (try simp only [aop]) <;> (try simp only [h])

theorem aopC_congr {a b : Fr} {H : Heap} {nid : Option Nat} {op : Op} (h : ∀ x ∈ op.operands, evo a x = evo b x) : aopC P call a H nid op = aopC P call b H nid op := by
  simp only [aopC, aop_congr h]

theorem evo_of_reads {ops : Array Oper} {o : Oper} {a b : Fr} (h : ∀ t ∈ readsOf ops o, b t = a t) {x : Operand} (hx : x ∈ o.op.operands) : evo a x = evo b x := by
  cases x with
  | tmp t =>
    have : t ∈ readsOf ops o := by
      unfold readsOf
      refine List.mem_append_left _ (List.mem_filterMap.2 ⟨.tmp t, by simpa using hx, rfl⟩)
    simp only [evo, h t this]
  | _ => rfl

/-- Is it done at all? -/
def fires (ops : Array Oper) (o : Oper) (a : Fr) : Prop :=
  match o.guard with
  | none => True
  | some (j, want) => ∃ g, (ops[j]?).bind (·.dst) = some g ∧ a g = .bool want

/-- An operation done elsewhere, where its operands have the same. -/
theorem opD_move {nt : Nat} {ops : Array Oper} {nid : Option Nat} {o : Oper} {a a1 a2 : Fr} {G G1 H2 : Heap} {v : Value} (T : Heap → Heap → Prop) (h : opD P call nt ops nid o a G = some (v, a1, G1))
    (hr : ∀ t ∈ readsOf ops o, a2 t = a t) (hx : ∀ G1, fires ops o a → aopC P call a G nid o.op = some (v, G1) → ∃ H1, aopC P call a2 H2 nid o.op = some (v, H1) ∧ T G1 H1) (hs : T G H2) :
    ∃ H1 a3, opD P call nt ops nid o a2 H2 = some (v, a3, H1) ∧ T G1 H1 ∧ dst nt a2 o.dst v = some a3 := by
  have hdst : ∀ {v a1}, dst nt a o.dst v = some a1 → ∃ a3, dst nt a2 o.dst v = some a3 := by
    intro v a1 hd
    unfold dst at hd ⊢
    split at hd
    · exact ⟨_, rfl⟩
    · split at hd
      · rename_i hlt; exact ⟨_, if_pos hlt⟩
      · cases hd
  unfold opD at h ⊢
  unfold fires at hx
  split at h
  · rename_i hg0
    simp only [Option.bind_eq_some_iff] at h
    obtain ⟨⟨v1, G2⟩, h1, a1', h2, h3⟩ := h
    cases h3
    simp only [hg0] at hx
    obtain ⟨H1, k1, k2⟩ := hx _ trivial h1
    obtain ⟨a3, k3⟩ := hdst h2
    exact ⟨H1, a3, by simp [k1, k3], k2, k3⟩
  · rename_i j want hg
    split at h
    · cases h
    · rename_i g hgd
      simp only [Option.bind_eq_some_iff] at h
      obtain ⟨⟨v1, G2⟩, h1, a1', h2, h3⟩ := h
      cases h3
      have hag : a2 g = a g := hr g (by
        unfold readsOf
        rw [hg]
        refine List.mem_append_right _ ?_
        simp only [hgd]
        simp)
      unfold gd at h1 ⊢
      rw [hag]
      split at h1
      · rename_i b hb
        by_cases hw : b = want
        · rw [if_pos hw] at h1
          simp only [hg] at hx
          obtain ⟨H1, k1, k2⟩ := hx _ ⟨g, hgd, by rw [hb, hw]⟩ h1
          obtain ⟨a3, k3⟩ := hdst h2
          exact ⟨H1, a3, by rw [if_pos hw]; simp [k1, k3], k2, k3⟩
        · rw [if_neg hw] at h1
          cases h1
          obtain ⟨a3, k3⟩ := hdst h2
          exact ⟨H2, a3, by rw [if_neg hw]; simp [k3], hs, k3⟩
      · cases h1

/-! ### The four kinds of operations -/
theorem pure_bind {α : Type} {x : Option α} {G : Heap} {g : Heap → α → Option Out} {out : Out} (h : x.bind (g G) = some out) (hf : ∀ v, g G v = some out → ∃ u, out = .val u G ∧ ∀ H2, g H2 v = some (.val u H2)) :
    ∃ u, out = .val u G ∧ ∀ H2, x.bind (g H2) = some (.val u H2) := by
  simp only [Option.bind_eq_some_iff] at h
  obtain ⟨v, rfl, h⟩ := h
  exact hf v h

theorem pure_end {G : Heap} {v : Value} {out : Out} (h : some (Out.val v G) = some out) : ∃ u, out = .val u G ∧ ∀ H2, some (Out.val v H2) = some (.val u H2) := by
  cases h; exact ⟨v, rfl, fun _ => rfl⟩

theorem abuilt_pure {G : Heap} {b : Builtin} {argTypes : Array TypeId} {args : List Value} {out : Out} (hb : b ≠ .append) (h : abuilt P G b argTypes args = some out) :
    ∃ u, out = .val u G ∧ ∀ H2, abuilt P H2 b argTypes args = some (.val u H2) := by
  unfold abuilt at h ⊢
  split at h
  · split at h
    · exact pure_end h
    · exact pure_bind (g := fun H v => some (.val v H)) h fun v h => pure_end h
    · exact pure_bind (g := fun H v => some (.val v H)) h fun v h => pure_end h
    · cases h
  · exact absurd rfl hb
  · exact pure_bind (g := fun H v => some (.val v H)) h fun v h => pure_end h
  · exact pure_bind (g := fun H v => some (.val v H)) h fun v h => pure_end h
  · exact pure_bind (g := fun H v => some (.val v H)) h fun v h => pure_end h
  · exact pure_bind (g := fun H v => some (.val v H)) h fun v h => pure_end h
  · exact pure_bind (g := fun H v => some (.val v H)) h fun v h => pure_end h
  · cases h

theorem aop_pure {a : Fr} {G : Heap} {nid : Option Nat} {op : Op} {out : Out} (hk : kindOf op = 0) (h : aop P a G nid op = some out) :
    ∃ u, out = .val u G ∧ ∀ H2, aop P a H2 nid op = some (.val u H2) := by
  unfold aop at h ⊢
  split at h
  · exact pure_bind (g := fun H v => some (.val v H)) h fun v h => pure_end h
  · exact pure_bind (g := fun H v => some (.val v H)) h fun v h => pure_end h
  · refine pure_bind (g := fun H c => _) h fun v h => ?_
    refine pure_bind (g := fun H c => _) h fun v h => ?_
    refine pure_bind (g := fun H c => _) h fun v h => ?_
    exact pure_bind (g := fun H v => some (.val v H)) h fun v h => pure_end h
  · simp [kindOf] at hk
  · simp [kindOf] at hk
  · split at h
    · rename_i hc
      simp only [if_pos hc]
      refine pure_bind (g := fun H c => _) h fun v h => ?_
      refine pure_bind (g := fun H c => _) h fun v h => ?_
      exact pure_bind (g := fun H (cs : List Value) => some (.val (.agg cs.toArray) H)) h fun v h => pure_end h
    · cases h
  · simp [kindOf] at hk
  · simp [kindOf] at hk
  · simp [kindOf] at hk
  · refine pure_bind (g := fun H c => _) h fun v h => ?_
    exact pure_bind (g := fun H v => some (.val v H)) h fun v h => pure_end h
  · refine pure_bind (g := fun H c => _) h fun v h => ?_
    refine pure_bind (g := fun H c => _) h fun v h => ?_
    exact pure_bind (g := fun H v => some (.val v H)) h fun v h => pure_end h
  · refine pure_bind (g := fun H c => _) h fun v h => ?_
    exact pure_bind (g := fun H v => some (.val v H)) h fun v h => pure_end h
  · refine pure_bind (g := fun H c => _) h fun v h => ?_
    exact pure_bind (g := fun H v => some (.val v H)) h fun v h => pure_end h
  · refine pure_bind (g := fun H c => _) h fun v h => ?_
    exact pure_bind (g := fun H (c : List Value) => some (.val (.func (.func _) _ c.toArray) H)) h fun v h => pure_end h
  · simp [kindOf] at hk
  · refine pure_bind (g := fun H c => _) h fun v h => ?_
    refine pure_bind (g := fun H c => _) h fun v h => ?_
    refine pure_bind (g := fun H c => _) h fun v h => ?_
    split at h
    · refine pure_bind (g := fun H c => _) h fun v h => ?_
      exact pure_bind (g := fun H v => some (.val v H)) h fun v h => pure_end h
    · exact pure_bind (g := fun H v => some (.val v H)) h fun v h => pure_end h
    · cases h
  · refine pure_bind (g := fun H c => _) h fun v h => ?_
    split at h
    · exact pure_bind (g := fun H v => some (.val v H)) h fun v h => pure_end h
    · cases h
  · refine pure_bind (g := fun H c => _) h fun v h => ?_
    split at h
    · split at h
      · exact pure_bind (g := fun H v => some (.val v H)) h fun v h => pure_end h
      · cases h
    · cases h
  · refine pure_bind (g := fun H c => _) h fun v h => ?_
    refine pure_bind (g := fun H c => _) h fun v h => ?_
    split at h
    · refine pure_bind (g := fun H c => _) h fun v h => ?_
      exact pure_bind (g := fun H v => some (.val v H)) h fun v h => pure_end h
    · refine pure_bind (g := fun H c => _) h fun v h => ?_
      exact pure_bind (g := fun H v => some (.val v H)) h fun v h => pure_end h
    · cases h
  · refine pure_bind (g := fun H c => _) h fun v h => ?_
    exact pure_bind (g := fun H v => some (.val v H)) h fun v h => pure_end h
  · rename_i c
    refine pure_bind (g := fun H c => _) h fun v h => ?_
    split at h
    · rename_i hc; simp [kindOf, hc] at hk
    · rename_i x hx hc; simp [kindOf, hc] at hk
    · rename_i b hc
      exact abuilt_pure (by rintro rfl; simp [kindOf, hc] at hk) h
    · cases h
  · cases h

theorem kind0 {a : Fr} {G G1 : Heap} {nid : Option Nat} {op : Op} {v : Value} (hk : kindOf op = 0) (h : aopC P call a G nid op = some (v, G1)) :
    G1 = G ∧ ∀ H2, aopC P call a H2 nid op = some (v, H2) := by
  simp only [aopC, Option.bind_eq_some_iff] at h ⊢
  obtain ⟨out, ho, h⟩ := h
  obtain ⟨u, rfl, hu⟩ := aop_pure hk ho
  cases h
  exact ⟨rfl, fun H2 => ⟨_, hu H2, rfl⟩⟩

theorem kind1 {a : Fr} {G G1 : Heap} {nid : Option Nat} {op : Op} {v : Value} (hk : kindOf op = 1) (h : aopC P call a G nid op = some (v, G1)) :
    G1 = G ∧ ldT P (typeOf op) G (addrOf a op) = some v ∧ ∀ H2, ldT P (typeOf op) H2 (addrOf a op) = some v → aopC P call a H2 nid op = some (v, H2) := by
  cases op with
  | load t x =>
    simp only [aopC, aop, Option.bind_eq_some_iff] at h
    obtain ⟨out, ⟨p, hp, h1⟩, h2⟩ := h
    have hadr : addrOf a (.load t x) = p := by simp [addrOf, hp]
    rw [hadr]
    simp only [typeOf, aopC, aop, hp, Option.bind_some]
    unfold ldT
    split at h1
    · rename_i n hs
      simp only [Option.bind_eq_some_iff] at h1
      obtain ⟨u, hu, h1⟩ := h1
      cases h1; cases h2
      exact ⟨rfl, hu, fun H2 h => by simp [h]⟩
    · rename_i n hs
      simp only [Option.bind_eq_some_iff] at h1
      obtain ⟨u, hu, h1⟩ := h1
      cases h1; cases h2
      exact ⟨rfl, hu, fun H2 h => by simp [h]⟩
    · cases h1
  | call c =>
    unfold kindOf at hk
    split at hk <;> simp_all
    split at hk <;> simp_all
  | _ => simp [kindOf] at hk

theorem mkAt_kind2 {G G1 : Heap} {id i : Nat} {b : Blk} (h : mkAt G (some id) b = some (i, G1)) :
    i = id ∧ G.get id = none ∧ id < G.next ∧ G1 = G.upd id b ∧ ∀ H2 : Heap, H2.get id = none → id < H2.next → mkAt H2 (some id) b = some (id, H2.upd id b) := by
  simp only [mkAt] at h
  split at h
  · rename_i hg
    split at h
    · rename_i hlt
      cases h
      exact ⟨rfl, hg, hlt, rfl, fun H2 h1 h2 => by simp [mkAt, h1, h2]⟩
    · cases h
  · cases h

theorem kind2_box {G : Heap} {id : Nat} {t : TypeId} {v : Value} {r : Value × Heap} (h : mkbox G (some id) t v = some r) :
    G.get id = none ∧ id < G.next ∧ ∃ b, r.2 = G.upd id b ∧ ∀ H2 : Heap, H2.get id = none → id < H2.next → mkbox H2 (some id) t v = some (r.1, H2.upd id b) := by
  unfold mkbox at h ⊢
  split at h
  · rename_i hc
    simp only [Option.bind_eq_some_iff] at h
    obtain ⟨⟨i, G1⟩, hm, h⟩ := h
    cases h
    obtain ⟨rfl, h1, h2, h3, h4⟩ := mkAt_kind2 hm
    exact ⟨h1, h2, _, h3, fun H2 k1 k2 => by rw [if_pos hc, h4 H2 k1 k2]; rfl⟩
  · cases h

theorem kind2_row {G : Heap} {id : Nat} {t : TypeId} {n : Nat} {v : List Value} {r : Value × Heap} (h : mkrow G (some id) t n v = some r) :
    G.get id = none ∧ id < G.next ∧ ∃ b, r.2 = G.upd id b ∧ ∀ H2 : Heap, H2.get id = none → id < H2.next → mkrow H2 (some id) t n v = some (r.1, H2.upd id b) := by
  unfold mkrow at h ⊢
  split at h
  · rename_i hc
    simp only [Option.bind_eq_some_iff] at h
    obtain ⟨⟨i, G1⟩, hm, h⟩ := h
    cases h
    obtain ⟨rfl, h1, h2, h3, h4⟩ := mkAt_kind2 hm
    exact ⟨h1, h2, _, h3, fun H2 k1 k2 => by rw [if_pos hc, h4 H2 k1 k2]; rfl⟩
  · cases h

theorem kind2_slice {G : Heap} {id : Nat} {t : TypeId} {y : Nat} {z : List Value} {l c : Value} {r : Value × Heap} (h : mkslice G (some id) t y z l c = some r) :
    G.get id = none ∧ id < G.next ∧ ∃ b, r.2 = G.upd id b ∧ ∀ H2 : Heap, H2.get id = none → id < H2.next → mkslice H2 (some id) t y z l c = some (r.1, H2.upd id b) := by
  unfold mkslice at h ⊢
  split at h
  · split at h
    · rename_i hc
      obtain ⟨k1, k2, b, k3, k4⟩ := kind2_row h
      exact ⟨k1, k2, b, k3, fun H2 g1 g2 => by rw [if_pos hc]; exact k4 H2 g1 g2⟩
    · cases h
  · cases h

theorem kind2 {a : Fr} {G G1 : Heap} {id : Nat} {op : Op} {v : Value} (hk : kindOf op = 2) (h : aopC P call a G (some id) op = some (v, G1)) :
    G.get id = none ∧ id < G.next ∧ ∃ b, G1 = G.upd id b ∧ ∀ H2 : Heap, H2.get id = none → id < H2.next → aopC P call a H2 (some id) op = some (v, H2.upd id b) := by
  cases op with
  | alloc t =>
    simp only [aopC, aop, Option.bind_eq_some_iff] at h
    obtain ⟨out, ⟨z, hz, r, hr, h1⟩, h2⟩ := h
    cases h1; cases h2
    obtain ⟨k1, k2, b, k3, k4⟩ := kind2_box hr
    exact ⟨k1, k2, b, k3, fun H2 g1 g2 => by simp only [aopC, aop, hz, Option.bind_some, k4 H2 g1 g2]⟩
  | box t x =>
    simp only [aopC, aop, Option.bind_eq_some_iff] at h
    obtain ⟨out, ⟨z, hz, r, hr, h1⟩, h2⟩ := h
    cases h1; cases h2
    obtain ⟨k1, k2, b, k3, k4⟩ := kind2_box hr
    exact ⟨k1, k2, b, k3, fun H2 g1 g2 => by simp only [aopC, aop, hz, Option.bind_some, k4 H2 g1 g2]⟩
  | buildSlice t n ps =>
    simp only [aopC, aop, Option.bind_eq_some_iff] at h
    obtain ⟨out, ⟨e, he, z, hz, h1⟩, h2⟩ := h
    split at h1
    · rename_i hc
      simp only [Option.bind_eq_some_iff] at h1
      obtain ⟨l, hl, cs, hcs, r, hr, h1⟩ := h1
      cases h1; cases h2
      obtain ⟨k1, k2, b, k3, k4⟩ := kind2_row hr
      exact ⟨k1, k2, b, k3, fun H2 g1 g2 => by simp only [aopC, aop, he, hz, Option.bind_some, if_pos hc, hl, hcs, k4 H2 g1 g2]⟩
    · cases h1
  | makeSlice t l c =>
    simp only [aopC, aop, Option.bind_eq_some_iff] at h
    obtain ⟨out, ⟨e, he, z, hz, x, hx, y, hy, h1⟩, h2⟩ := h
    split at h1
    · rename_i hc
      simp only [Option.bind_eq_some_iff] at h1
      obtain ⟨r, hr, h1⟩ := h1
      cases h1; cases h2
      obtain ⟨k1, k2, b, k3, k4⟩ := kind2_slice hr
      exact ⟨k1, k2, b, k3, fun H2 g1 g2 => by simp only [aopC, aop, he, hz, hx, hy, Option.bind_some, if_pos hc, k4 H2 g1 g2]⟩
    · cases h1
  | call c =>
    unfold kindOf at hk
    split at hk <;> simp_all
    split at hk <;> simp_all
  | _ => simp [kindOf] at hk

/-! ### Reads that tell the same -/
theorem leafEq_eq {u v : Value} (h : leafEq u v = true) : u = v := by
  unfold leafEq at h
  split at h <;> simp_all

theorem leavesEq_eq : ∀ {l m : List Value}, leavesEq l m = true → l = m
  | [], [], _ => rfl
  | a :: l, b :: m, h => by
    simp only [leavesEq, Bool.and_eq_true] at h
    rw [leafEq_eq h.1, leavesEq_eq h.2]
  | [], _ :: _, h => by simp [leavesEq] at h
  | _ :: _, [], h => by simp [leavesEq] at h

theorem tells_eq {x : Option Value} {v : Value} (h : tells x v = true) : x = some v := by
  unfold tells at h
  split at h
  · rename_i u
    congr 1
    unfold valEq at h
    split at h
    · have := leavesEq_eq h
      congr 1
      exact Array.ext' this
    · exact leafEq_eq h
  · cases h
end
end Go.Proofs.SakAm

namespace Go.Proofs.SakAm
set_option linter.unusedVariables false
set_option linter.unusedSimpArgs false
open Go
open Go.RowKit (Below)
set_option linter.unusedSectionVars false
variable [Tabs]

/-! ### What a run in the order of the text leaves -/
section
variable {P : Program} {call : FuncId → List Value → Heap → Option (Value × Heap)}

/-- The steps of a region that draws: the frame and the heap ahead of each operation, what each told, and what was asked of the reads. -/
structure Steps14 (P : Program) (call : FuncId → List Value → Heap → Option (Value × Heap)) (nt : Nat) (ops : Array Oper) (bs : List Nat) (base : Nat) (i n : Nat) (A : Nat → Fr) (G : Nat → Heap) (V : Nat → Value) : Prop where
  step : ∀ j o, i ≤ j → ops[j]? = some o → opD P call nt ops (some (base + j)) o (A j) (G j) = some (V j, A (j + 1), G (j + 1))
  later : ∀ e j oe oj, i ≤ e → e < j → ops[e]? = some oe → ops[j]? = some oj → kindOf oe.op = 3 → kindOf oj.op = 1 → ahead bs e j = false → (readOf ops j oj (A j) (V j)).holds P (G e) = true
  sooner : ∀ e j oe oj, i ≤ j → j < e → ops[e]? = some oe → ops[j]? = some oj → kindOf oe.op = 3 → kindOf oj.op = 1 → ahead bs j e = false → (readOf ops j oj (A j) (V j)).holds P (G (e + 1)) = true

theorem readsHold_mem {bs : List Nat} {j : Nat} {G : Heap} : ∀ {l : List Read}, readsHold P bs j G l = true → ∀ r ∈ l, ahead bs r.i j = false → r.holds P G = true
  | r :: l, h, x, hx, hn => by
    simp only [readsHold, Bool.and_eq_true, Bool.or_eq_true] at h
    rcases List.mem_cons.1 hx with rfl | hx
    · exact h.1.resolve_left (by rw [hn]; simp)
    · exact readsHold_mem h.2 x hx hn

theorem pastHold_mem {bs : List Nat} {r : Read} : ∀ {l : List (Nat × Heap)}, pastHold P bs r l = true → ∀ p ∈ l, ahead bs p.1 r.i = false → r.holds P p.2 = true
  | (j, G) :: l, h, x, hx, hn => by
    simp only [pastHold, Bool.and_eq_true, Bool.or_eq_true] at h
    rcases List.mem_cons.1 hx with rfl | hx
    · exact h.1.resolve_left (by rw [hn]; simp)
    · exact pastHold_mem h.2 x hx hn

theorem drawD_steps {nt : Nat} {ops : Array Oper} {bs : List Nat} {base : Nat} : ∀ (l : List Oper) (i : Nat) (a : Fr) (G0 : Heap) (past : List (Nat × Heap)) (reads : List Read) (r : Fr × Heap),
    ops.toList.drop i = l → drawD P call nt ops bs base i l a G0 past reads = some r →
    ∃ A G V, A i = a ∧ G i = G0 ∧ A ops.size = r.1 ∧ G ops.size = r.2 ∧ Steps14 P call nt ops bs base i ops.size A G V ∧
      (∀ j oj, i ≤ j → ops[j]? = some oj → kindOf oj.op = 1 → ∀ p ∈ past, ahead bs p.1 j = false → (readOf ops j oj (A j) (V j)).holds P p.2 = true) ∧
      (∀ rd ∈ reads, ∀ e oe, i ≤ e → ops[e]? = some oe → kindOf oe.op = 3 → ahead bs rd.i e = false → rd.holds P (G (e + 1)) = true)
  | [], i, a, G0, past, reads, r, hl, h => by
    simp only [drawD, Option.some.injEq] at h
    subst h
    have hsz : ops.size ≤ i := by
      have := congrArg List.length hl
      simp at this; omega
    have hno : ∀ j o, i ≤ j → ops[j]? = some o → False := fun j o hj ho => by
      rw [Array.getElem?_eq_none (by omega)] at ho; cases ho
    exact ⟨fun _ => a, fun _ => G0, fun _ => undef, rfl, rfl, rfl, rfl,
      ⟨fun j o hj ho => (hno j o hj ho).elim, fun e j oe oj he hej hoe _ => (hno e oe he hoe).elim, fun e j oe oj hj hje _ hoj => (hno j oj hj hoj).elim⟩,
      fun j oj hj hoj => (hno j oj hj hoj).elim, fun rd _ e oe he hoe => (hno e oe he hoe).elim⟩
  | o :: l, i, a, G0, past, reads, r, hl, h => by
    simp only [drawD, Option.bind_eq_some_iff] at h
    obtain ⟨⟨v, a1, G1⟩, h1, h2⟩ := h
    have hi : ops[i]? = some o := by
      rw [← Array.getElem?_toList]
      have := congrArg (fun l : List Oper => l[0]?) hl
      simpa [List.getElem?_drop] using this
    have hlt : i < ops.size := by
      rcases Nat.lt_or_ge i ops.size with h | h
      · exact h
      · rw [Array.getElem?_eq_none h] at hi; cases hi
    have hl' : ops.toList.drop (i + 1) = l := by
      have := congrArg (List.drop 1) hl
      simpa [List.drop_drop, Nat.add_comm] using this
    -- the rest's steps, with this one ahead
    have build : ∀ (past' : List (Nat × Heap)) (reads' : List Read), drawD P call nt ops bs base (i + 1) l a1 G1 past' reads' = some r →
        (∀ p ∈ past, p ∈ past') → (∀ rd ∈ reads, rd ∈ reads') →
        (kindOf o.op = 1 → readOf ops i o a v ∈ reads' ∧ ∀ p ∈ past, ahead bs p.1 i = false → (readOf ops i o a v).holds P p.2 = true) →
        (kindOf o.op = 3 → (i, G0) ∈ past' ∧ ∀ rd ∈ reads, ahead bs rd.i i = false → rd.holds P G1 = true) →
        ∃ A G V, A i = a ∧ G i = G0 ∧ A ops.size = r.1 ∧ G ops.size = r.2 ∧ Steps14 P call nt ops bs base i ops.size A G V ∧
          (∀ j oj, i ≤ j → ops[j]? = some oj → kindOf oj.op = 1 → ∀ p ∈ past, ahead bs p.1 j = false → (readOf ops j oj (A j) (V j)).holds P p.2 = true) ∧
          (∀ rd ∈ reads, ∀ e oe, i ≤ e → ops[e]? = some oe → kindOf oe.op = 3 → ahead bs rd.i e = false → rd.holds P (G (e + 1)) = true) := by
      intro past' reads' hd hp hr hk1 hk3
      obtain ⟨A, G, V, e1, e2, e3, e4, S, c1, c2⟩ := drawD_steps l (i + 1) a1 G1 past' reads' r hl' hd
      obtain ⟨A', a1', fA⟩ : ∃ A' : Nat → Fr, A' i = a ∧ ∀ j, i + 1 ≤ j → A' j = A j := ⟨fun k => if k = i then a else A k, if_pos rfl, fun j hj => if_neg (by omega)⟩
      obtain ⟨G', g1', fG⟩ : ∃ G' : Nat → Heap, G' i = G0 ∧ ∀ j, i + 1 ≤ j → G' j = G j := ⟨fun k => if k = i then G0 else G k, if_pos rfl, fun j hj => if_neg (by omega)⟩
      obtain ⟨V', v1', fV⟩ : ∃ V' : Nat → Value, V' i = v ∧ ∀ j, i + 1 ≤ j → V' j = V j := ⟨fun k => if k = i then v else V k, if_pos rfl, fun j hj => if_neg (by omega)⟩
      refine ⟨A', G', V', a1', g1', by rw [fA _ hlt]; exact e3, by rw [fG _ hlt]; exact e4, ⟨?_, ?_, ?_⟩, ?_, ?_⟩
      · intro j p hj hp
        by_cases hji : j = i
        · subst hji
          rw [hi] at hp; cases hp
          rw [fA _ (Nat.le_refl _), fG _ (Nat.le_refl _), a1', g1', v1', e1, e2]
          exact h1
        · rw [fA j (by omega), fG j (by omega), fV j (by omega), fA (j + 1) (by omega), fG (j + 1) (by omega)]
          exact S.step j p (by omega) hp
      · intro e j oe oj he hej hoe hoj k3 k1 hn
        rw [fA j (by omega), fV j (by omega)]
        by_cases hei : e = i
        · subst hei
          rw [hi] at hoe; cases hoe
          rw [g1']
          exact c1 j oj (by omega) hoj k1 (e, G0) (hk3 k3).1 hn
        · rw [fG e (by omega)]
          exact S.later e j oe oj (by omega) hej hoe hoj k3 k1 hn
      · intro e j oe oj hj hje hoe hoj k3 k1 hn
        rw [fG (e + 1) (by omega)]
        by_cases hji : j = i
        · subst hji
          rw [hi] at hoj; cases hoj
          rw [a1', v1']
          exact c2 _ (hk1 k1).1 e oe (by omega) hoe k3 hn
        · rw [fA j (by omega), fV j (by omega)]
          exact S.sooner e j oe oj (by omega) hje hoe hoj k3 k1 hn
      · intro j oj hj hoj k1 p hp' hn
        by_cases hji : j = i
        · subst hji
          rw [hi] at hoj; cases hoj
          rw [a1', v1']
          exact (hk1 k1).2 p hp' hn
        · rw [fA j (by omega), fV j (by omega)]
          exact c1 j oj (by omega) hoj k1 p (hp p hp') hn
      · intro rd hrd e oe he hoe k3 hn
        rw [fG (e + 1) (by omega)]
        by_cases hei : e = i
        · subst hei
          rw [hi] at hoe; cases hoe
          rw [e2]
          exact (hk3 k3).2 rd hrd hn
        · exact c2 rd (hr rd hrd) e oe (by omega) hoe k3 hn
    split at h2
    · rename_i hk
      obtain ⟨g1, g2⟩ := ifD_eq h2
      exact build past (readOf ops i o a v :: reads) g2 (fun p hp => hp) (fun rd hrd => by simp [hrd]) (fun _ => ⟨by simp, fun p hp hn => pastHold_mem g1 p hp hn⟩) (fun h3 => by omega)
    · rename_i hk
      obtain ⟨g1, g2⟩ := ifD_eq h2
      exact build ((i, G0) :: past) reads g2 (fun p hp => by simp [hp]) (fun rd hrd => hrd) (fun h3 => by omega) (fun _ => ⟨by simp, fun rd hrd hn => readsHold_mem g1 rd hrd hn⟩)
    · rename_i hk1 hk3
      exact build past reads h2 (fun p hp => hp) (fun rd hrd => hrd) (fun h => absurd h hk1) (fun h => absurd h hk3)
end

/-! ### The last one that wrote -/
/-- The last of the listed ones below n that writes t. -/
def lastW (D : Nat → Option Tmp) (L : Nat → Bool) (t : Tmp) : Nat → Option Nat
  | 0 => none
  | n + 1 => if L n = true ∧ D n = some t then some n else lastW D L t n

theorem lastW_congr {D : Nat → Option Tmp} {L M : Nat → Bool} {t : Tmp} : ∀ n, (∀ j, j < n → D j = some t → (L j = true ↔ M j = true)) → lastW D L t n = lastW D M t n
  | 0, _ => rfl
  | n + 1, h => by
    simp only [lastW]
    rw [lastW_congr n (fun j hj => h j (by omega))]
    by_cases hd : D n = some t
    · have := h n (by omega) hd
      by_cases hl : L n = true
      · rw [if_pos ⟨hl, hd⟩, if_pos ⟨this.1 hl, hd⟩]
      · rw [if_neg (fun x => hl x.1), if_neg (fun x => hl (this.2 x.1))]
    · rw [if_neg (fun x => hd x.2), if_neg (fun x => hd x.2)]

theorem lastW_short {D : Nat → Option Tmp} {L : Nat → Bool} {t : Tmp} {i : Nat} : ∀ n, i ≤ n → (∀ j, i ≤ j → j < n → D j = some t → L j = false) → lastW D L t n = lastW D L t i
  | 0, hi, _ => by rw [Nat.le_zero.1 hi]
  | n + 1, hi, h => by
    by_cases he : i = n + 1
    · rw [he]
    · simp only [lastW]
      rw [if_neg (fun x => by have := h n (by omega) (by omega) x.2; rw [x.1] at this; cases this)]
      exact lastW_short n (by omega) (fun j h1 h2 => h j h1 (by omega))

/-- The frame when those of L are done. -/
def frL (D : Nat → Option Tmp) (V : Nat → Value) (a0 : Fr) (n : Nat) (L : Nat → Bool) : Fr := fun t =>
  match lastW D L t n with
  | some k => V k
  | none => a0 t

def addL (L : Nat → Bool) (i : Nat) : Nat → Bool := fun j => if j = i then true else L j

theorem frL_add {D : Nat → Option Tmp} {V : Nat → Value} {a0 : Fr} {n i : Nat} {L : Nat → Bool} (hi : i < n) (hn : L i = false) (h : ∀ d, D i = some d → ∀ j, i < j → j < n → L j = true → D j ≠ some d) :
    frL D V a0 n (addL L i) = match D i with | some d => put (frL D V a0 n L) d (V i) | none => frL D V a0 n L := by
  funext t
  have hsame : ∀ j, D j = some t → D i ≠ some t → (addL L i j = true ↔ L j = true) := fun j hj hne => by
    unfold addL
    by_cases h1 : j = i
    · subst h1; exact absurd hj hne
    · rw [if_neg h1]
  by_cases hd : D i = some t
  · rw [hd]
    simp only [put, if_true, frL]
    have h1 : lastW D (addL L i) t n = some i := by
      rw [lastW_short (i := i + 1) n hi (fun j h1 h2 h3 => by
        unfold addL
        rw [if_neg (by omega)]
        cases hL : L j with
        | false => rfl
        | true => exact absurd h3 (h t hd j (by omega) h2 hL))]
      simp only [lastW]
      rw [if_pos ⟨by simp [addL], hd⟩]
    rw [h1]
  · have h1 : lastW D (addL L i) t n = lastW D L t n := lastW_congr n (fun j _ hj => hsame j hj hd)
    have h2 : frL D V a0 n (addL L i) t = frL D V a0 n L t := by simp only [frL, h1]
    rw [h2]
    cases hdi : D i with
    | none => rfl
    | some d =>
      simp only [put]
      rw [if_neg (fun e => hd (by rw [hdi, e]))]

theorem frL_text {D : Nat → Option Tmp} {V : Nat → Value} {A : Nat → Fr} {n : Nat} (hA : ∀ j, j < n → A (j + 1) = match D j with | some d => put (A j) d (V j) | none => A j) :
    ∀ i, i ≤ n → ∀ t, A i t = match lastW D (fun _ => true) t i with | some k => V k | none => A 0 t := by
  intro i
  induction i with
  | zero => intro _ t; rfl
  | succ i ih =>
    intro hi t
    rw [hA i (by omega)]
    simp only [lastW]
    cases hd : D i with
    | none => rw [if_neg (fun x => by cases x.2)]; exact ih (by omega) t
    | some d =>
      simp only [put]
      by_cases ht : t = d
      · subst ht; rw [if_pos rfl, if_pos ⟨trivial, rfl⟩]
      · rw [if_neg ht, if_neg (fun x => ht (by cases x.2; rfl))]; exact ih (by omega) t
end Go.Proofs.SakAm

namespace Go.Proofs.SakAm
set_option linter.unusedVariables false
set_option linter.unusedSimpArgs false
open Go
open Go.RowKit (Below)
set_option linter.unusedSectionVars false
variable [Tabs]

def single (id : Nat) : Nat → Option Blk := fun x => if x = id then some ⟨[], 0, 0, false⟩ else none

theorem single_disj {id : Nat} {G : Heap} : Disj (single id) G ↔ (G.get id = none ∧ id < G.next) := by
  constructor
  · intro h; exact h id ⟨[], 0, 0, false⟩ (by simp [single])
  · intro h i b hi
    unfold single at hi
    split at hi
    · rename_i he; subst he; exact h
    · cases hi

section
variable {P : Program} {call : FuncId → List Value → Heap → Option (Value × Heap)}

theorem opD_cases {nt : Nat} {ops : Array Oper} {nid : Option Nat} {o : Oper} {a a1 : Fr} {G G1 : Heap} {v : Value} (h : opD P call nt ops nid o a G = some (v, a1, G1)) :
    (G1 = G ∨ aopC P call a G nid o.op = some (v, G1)) ∧ dst nt a o.dst v = some a1 := by
  unfold opD at h
  split at h
  · simp only [Option.bind_eq_some_iff] at h
    obtain ⟨⟨v1, G2⟩, h1, a1', h2, h3⟩ := h
    cases h3
    exact ⟨.inr h1, h2⟩
  · split at h
    · cases h
    · simp only [Option.bind_eq_some_iff] at h
      obtain ⟨⟨v1, G2⟩, h1, a1', h2, h3⟩ := h
      cases h3
      refine ⟨?_, h2⟩
      unfold gd at h1
      split at h1
      · split at h1
        · exact .inr h1
        · cases h1; exact .inl rfl
      · cases h1

/-- All that is known of a region that draws, and of its run in the order of the text. -/
structure Ctx (P : Program) (call : FuncId → List Value → Heap → Option (Value × Heap)) (nt : Nat) (ops : Array Oper) (base : Nat) (A : Nat → Fr) (G : Nat → Heap) (V : Nat → Value) : Prop where
  over : CallOver call
  ok : drawOk ops = true
  steps : Steps14 P call nt ops (aheads [] ops.toList) base 0 ops.size A G V
  new : ∀ i o, ops[i]? = some o → kindOf o.op = 2 → (G 0).get (base + i) = none ∧ base + i < (G 0).next

def isNew (ops : Array Oper) (j : Nat) : Prop := ∃ o, ops[j]? = some o ∧ kindOf o.op = 2
def isEff (ops : Array Oper) (j : Nat) : Prop := ∃ o, ops[j]? = some o ∧ kindOf o.op = 3

variable {nt : Nat} {ops : Array Oper} {base : Nat} {A : Nat → Fr} {G : Nat → Heap} {V : Nat → Value}

theorem Ctx.apart (C : Ctx P call nt ops base A G V) {i : Nat} (hi : isNew ops i) : ∀ m, m ≤ i → (G m).get (base + i) = none ∧ base + i < (G m).next := by
  obtain ⟨o, ho, hk⟩ := hi
  intro m
  induction m with
  | zero => intro _; exact C.new i o ho hk
  | succ m ih =>
    intro hm
    have hlt : m < ops.size := by
      rcases Nat.lt_or_ge i ops.size with h | h
      · omega
      · rw [Array.getElem?_eq_none h] at ho; cases ho
    have hs := C.steps.step m _ (Nat.zero_le _) (Array.getElem?_eq_getElem hlt)
    have := (opD_over C.over (single_disj.2 (ih (by omega))) (fun x hx => by cases hx; simp [single]; omega) hs).2
    exact single_disj.1 this

theorem Ctx.heap01 (C : Ctx P call nt ops base A G V) {k : Nat} {o : Oper} (ho : ops[k]? = some o) (hk : kindOf o.op = 0 ∨ kindOf o.op = 1) : G (k + 1) = G k := by
  rcases (opD_cases (C.steps.step k o (Nat.zero_le _) ho)).1 with h | h
  · exact h
  · rcases hk with hk | hk
    · exact (kind0 hk h).1
    · exact (kind1 hk h).1

theorem Ctx.heap2 (C : Ctx P call nt ops base A G V) {k : Nat} {o : Oper} (ho : ops[k]? = some o) (hk : kindOf o.op = 2) : G (k + 1) = G k ∨ ∃ b, G (k + 1) = (G k).upd (base + k) b := by
  rcases (opD_cases (C.steps.step k o (Nat.zero_le _) ho)).1 with h | h
  · exact .inl h
  · obtain ⟨_, _, b, h3, _⟩ := kind2 hk h
    exact .inr ⟨b, h3⟩

open Classical in
/-- The blocks of those that were made ahead of their place in the text. -/
noncomputable def early (ops : Array Oper) (base : Nat) (G : Nat → Heap) (L : Nat → Bool) (m : Nat) : Nat → Option Blk := fun id =>
  if base ≤ id ∧ L (id - base) = true ∧ m ≤ id - base ∧ isNew ops (id - base) then (G (id - base + 1)).get id else none

theorem early_at {L : Nat → Bool} {m j : Nat} (h1 : L j = true) (h2 : m ≤ j) (h3 : isNew ops j) : early ops base G L m (base + j) = (G (j + 1)).get (base + j) := by
  unfold early
  rw [show base + j - base = j from by omega, if_pos ⟨by omega, h1, h2, h3⟩]

theorem early_none {L : Nat → Bool} {m j : Nat} (h : ¬ (L j = true ∧ m ≤ j ∧ isNew ops j)) : early ops base G L m (base + j) = none := by
  unfold early
  rw [show base + j - base = j from by omega, if_neg (fun x => h x.2)]

theorem early_low {L : Nat → Bool} {m id : Nat} (h : id < base) : early ops base G L m id = none := by
  unfold early
  rw [if_neg (fun x => by omega)]

theorem early_eq {L M : Nat → Bool} {m k : Nat} (h : ∀ j, isNew ops j → ((L j = true ∧ m ≤ j) ↔ (M j = true ∧ k ≤ j))) : early ops base G L m = early ops base G M k := by
  funext id
  by_cases hb : base ≤ id
  · obtain ⟨j, rfl⟩ : ∃ j, id = base + j := ⟨id - base, by omega⟩
    by_cases hn : isNew ops j
    · by_cases hl : L j = true ∧ m ≤ j
      · rw [early_at hl.1 hl.2 hn, early_at ((h j hn).1 hl).1 ((h j hn).1 hl).2 hn]
      · rw [early_none (fun x => hl ⟨x.1, x.2.1⟩), early_none (fun x => hl ((h j hn).2 ⟨x.1, x.2.1⟩))]
    · rw [early_none (fun x => hn x.2.2), early_none (fun x => hn x.2.2)]
  · rw [early_low (by omega), early_low (by omega)]

theorem Ctx.disj (C : Ctx P call nt ops base A G V) (L : Nat → Bool) (m : Nat) : Disj (early ops base G L m) (G m) := by
  intro id b h
  unfold early at h
  split at h
  · rename_i hc
    obtain ⟨h1, _, h3, h4⟩ := hc
    have := C.apart h4 m h3
    rw [show base + (id - base) = id from by omega] at this
    exact this
  · cases h

/-- The heap when those of L are done, and all that change cells below m, and no other. -/
noncomputable def heapL (ops : Array Oper) (base : Nat) (G : Nat → Heap) (L : Nat → Bool) (m : Nat) : Heap := over (early ops base G L m) (G m)

theorem Ctx.heap_step (C : Ctx P call nt ops base A G V) {L : Nat → Bool} {m : Nat} (hm : m < ops.size) (h3 : ¬ isEff ops m) (h2 : isNew ops m → L m = true) : heapL ops base G L m = heapL ops base G L (m + 1) := by
  have ho := Array.getElem?_eq_getElem hm
  by_cases hn : isNew ops m
  · obtain ⟨o, ho', hk⟩ := hn
    have hl := h2 ⟨o, ho', hk⟩
    have hap := C.apart ⟨o, ho', hk⟩ m (Nat.le_refl _)
    have hothers : ∀ id, id ≠ base + m → early ops base G L m id = early ops base G L (m + 1) id := by
      intro id hid
      by_cases hb : base ≤ id
      · obtain ⟨j, rfl⟩ : ∃ j, id = base + j := ⟨id - base, by omega⟩
        by_cases hc : L j = true ∧ m ≤ j ∧ isNew ops j
        · rw [early_at hc.1 hc.2.1 hc.2.2, early_at hc.1 (by omega) hc.2.2]
        · rw [early_none hc, early_none (fun x => hc ⟨x.1, by omega, x.2.2⟩)]
      · rw [early_low (by omega), early_low (by omega)]
    have hnx : (G (m + 1)).next = (G m).next := by
      rcases C.heap2 ho' hk with h | ⟨b, h⟩
      · rw [h]
      · rw [h]; rfl
    refine Heap.ext (fun id => ?_) hnx.symm
    unfold heapL
    rw [over_get (C.disj L m), over_get (C.disj L (m + 1))]
    by_cases hid : id = base + m
    · subst hid
      rw [early_at hl (Nat.le_refl _) ⟨o, ho', hk⟩, early_none (fun x => by omega)]
      cases hg : (G (m + 1)).get (base + m) with
      | none => simp only; exact hap.1
      | some b => rfl
    · rw [hothers id hid]
      have : (G (m + 1)).get id = (G m).get id := by
        rcases C.heap2 ho' hk with h | ⟨b, h⟩
        · rw [h]
        · rw [h, get_upd, if_neg (fun x => hid x.1)]
      rw [this]
  · have hk : kindOf ops[m].op = 0 ∨ kindOf ops[m].op = 1 := by
      have hle : kindOf ops[m].op ≤ 3 := by
        unfold kindOf
        split <;> first | omega | (split <;> omega)
      have h4 : kindOf ops[m].op ≠ 2 := fun h => hn ⟨_, ho, h⟩
      have h5 : kindOf ops[m].op ≠ 3 := fun h => h3 ⟨_, ho, h⟩
      omega
    unfold heapL
    rw [C.heap01 ho hk]
    congr 1
    exact early_eq fun j hj => ⟨fun ⟨x, y⟩ => ⟨x, by rcases Nat.lt_or_ge m j with h | h; omega; exact absurd (show isNew ops m by rw [show m = j from by omega]; exact hj) hn⟩, fun ⟨x, y⟩ => ⟨x, by omega⟩⟩

theorem Ctx.heap_move (C : Ctx P call nt ops base A G V) {L : Nat → Bool} {m : Nat} : ∀ d, m + d ≤ ops.size → (∀ k, m ≤ k → k < m + d → ¬ isEff ops k) → (∀ k, m ≤ k → k < m + d → isNew ops k → L k = true) →
    heapL ops base G L m = heapL ops base G L (m + d)
  | 0, _, _, _ => rfl
  | d + 1, h1, h2, h3 => by
    rw [C.heap_move d (by omega) (fun k a b => h2 k a (by omega)) (fun k a b => h3 k a (by omega))]
    exact C.heap_step (by omega) (h2 _ (by omega) (by omega)) (h3 _ (by omega) (by omega))

/-- Which are done: nothing ahead of one of them is left out. -/
def Closed (ops : Array Oper) (L : Nat → Bool) : Prop := ∀ j k, L j = true → ahead (aheads [] ops.toList) k j = true → L k = true

/-- How far those are done that change cells. -/
structure Front (ops : Array Oper) (L : Nat → Bool) (m : Nat) : Prop where
  le : m ≤ ops.size
  below : ∀ e, isEff ops e → e < m → L e = true
  above : ∀ e, isEff ops e → m ≤ e → L e = false
  last : m = 0 ∨ ∃ e, m = e + 1 ∧ isEff ops e ∧ L e = true
  news : ∀ j, isNew ops j → j < m → L j = true

/-- Operation i can be done: all ahead of it is. -/
structure Ready (ops : Array Oper) (L : Nat → Bool) (i : Nat) (o : Oper) : Prop where
  op : ops[i]? = some o
  todo : L i = false
  done : ∀ k, ahead (aheads [] ops.toList) k i = true → L k = true

theorem Ready.earlier (C : Ctx P call nt ops base A G V) {L : Nat → Bool} {i j : Nat} {o p : Oper} (Rd : Ready ops L i o) (hj : ops[j]? = some p) (hji : j < i) (hL : L j = false) :
    ¬ ((kindOf p.op = 3 ∨ kindOf p.op = 2) ∧ kindOf o.op = 3) ∧ ¬ (kindOf p.op = 2 ∧ kindOf o.op = 1) ∧
      (∀ d, p.dst = some d → o.dst ≠ some d ∧ d ∉ readsOf ops o) ∧ (∀ d, o.dst = some d → d ∉ readsOf ops p) ∧ ahead (aheads [] ops.toList) j i = false := by
  have hn : ahead (aheads [] ops.toList) j i = false := by
    cases h : ahead (aheads [] ops.toList) j i with
    | false => rfl
    | true => rw [Rd.done j h] at hL; cases hL
  obtain ⟨h1, h2, h3, h4⟩ := pair_facts (drawOk_pair C.ok hj Rd.op hji) hn
  exact ⟨h1, h2, h3, h4, hn⟩

theorem Ready.later (C : Ctx P call nt ops base A G V) {L : Nat → Bool} (hc : Closed ops L) {i j : Nat} {o p : Oper} (Rd : Ready ops L i o) (hj : ops[j]? = some p) (hij : i < j) (hL : L j = true) :
    ¬ ((kindOf o.op = 3 ∨ kindOf o.op = 2) ∧ kindOf p.op = 3) ∧
      (∀ d, o.dst = some d → p.dst ≠ some d ∧ d ∉ readsOf ops p) ∧ (∀ d, p.dst = some d → d ∉ readsOf ops o) ∧ ahead (aheads [] ops.toList) i j = false := by
  have hn : ahead (aheads [] ops.toList) i j = false := by
    cases h : ahead (aheads [] ops.toList) i j with
    | false => rfl
    | true => have := hc j i hL h; rw [Rd.todo] at this; cases this
  obtain ⟨h1, _, h3, h4⟩ := pair_facts (drawOk_pair C.ok Rd.op hj hij) hn
  exact ⟨h1, h3, h4, hn⟩

def dstOf (ops : Array Oper) (j : Nat) : Option Tmp := (ops[j]?).bind (·.dst)

theorem Ctx.frame_text (C : Ctx P call nt ops base A G V) : ∀ j, j < ops.size → A (j + 1) = match dstOf ops j with | some d => put (A j) d (V j) | none => A j := by
  intro j hj
  have ho := Array.getElem?_eq_getElem hj
  have := (opD_cases (C.steps.step j _ (Nat.zero_le _) ho)).2
  simp only [dstOf, ho, Option.bind_some]
  unfold dst at this
  split at this
  · rename_i hd; rw [hd]; injection this with this; exact this.symm
  · rename_i d hd
    rw [hd]
    split at this
    · injection this with this; exact this.symm
    · cases this

/-- The reads of an operation that can be done find what they find in the order of the text. -/
theorem Ready.reads (C : Ctx P call nt ops base A G V) {L : Nat → Bool} (hc : Closed ops L) {i : Nat} {o : Oper} (Rd : Ready ops L i o) :
    ∀ t ∈ readsOf ops o, frL (dstOf ops) V (A 0) ops.size L t = A i t := by
  intro t ht
  have hi : i < ops.size := by
    rcases Nat.lt_or_ge i ops.size with h | h
    · exact h
    · have := Rd.op; rw [Array.getElem?_eq_none h] at this; cases this
  rw [frL_text (C.frame_text) i (by omega) t]
  have h1 : lastW (dstOf ops) L t ops.size = lastW (dstOf ops) L t i := lastW_short _ (by omega) fun j h1 h2 h3 => by
    cases hL : L j with
    | false => rfl
    | true =>
      exfalso
      have hji : j ≠ i := fun h => by rw [h, Rd.todo] at hL; cases hL
      have hj := Array.getElem?_eq_getElem h2
      simp only [dstOf, hj, Option.bind_some] at h3
      exact (Rd.later C hc hj (by omega) hL).2.2.1 t h3 ht
  have h2 : lastW (dstOf ops) L t i = lastW (dstOf ops) (fun _ => true) t i := lastW_congr _ fun j hj hd => by
    refine ⟨fun _ => rfl, fun _ => ?_⟩
    cases hL : L j with
    | true => rfl
    | false =>
      exfalso
      have hjo := Array.getElem?_eq_getElem (show j < ops.size by omega)
      simp only [dstOf, hjo, Option.bind_some] at hd
      exact ((Rd.earlier C hjo hj hL).2.2.1 t hd).2 ht
  simp only [frL, h1, h2]

/-- The frame behind an operation that can be done. -/
theorem Ready.frame (C : Ctx P call nt ops base A G V) {L : Nat → Bool} (hc : Closed ops L) {i : Nat} {o : Oper} (Rd : Ready ops L i o) {a3 : Fr} (h : dst nt (frL (dstOf ops) V (A 0) ops.size L) o.dst (V i) = some a3) :
    a3 = frL (dstOf ops) V (A 0) ops.size (addL L i) := by
  have hi : i < ops.size := by
    rcases Nat.lt_or_ge i ops.size with h | h
    · exact h
    · have := Rd.op; rw [Array.getElem?_eq_none h] at this; cases this
  rw [frL_add hi Rd.todo (fun d hd j hij hj hL hdj => by
    have hjo := Array.getElem?_eq_getElem hj
    simp only [dstOf, hjo, Option.bind_some] at hdj
    simp only [dstOf, Rd.op, Option.bind_some] at hd
    exact ((Rd.later C hc hjo hij hL).2.1 d hd).1 hdj)]
  simp only [dstOf, Rd.op, Option.bind_some]
  unfold dst at h
  split at h
  · rename_i hd; rw [hd]; cases h; rfl
  · rename_i d hd
    rw [hd]
    split at h
    · cases h; rfl
    · cases h

/-- The read of an operation that can be done tells what it told in the order of the text. -/
theorem Ready.read (C : Ctx P call nt ops base A G V) {L : Nat → Bool} (hc : Closed ops L) {m : Nat} (F : Front ops L m) {i : Nat} {o : Oper} (Rd : Ready ops L i o) (hk : kindOf o.op = 1) :
    ∃ m', heapL ops base G L m = heapL ops base G L m' ∧ (G m' = G i ∨ (readOf ops i o (A i) (V i)).holds P (G m') = true) := by
  have hi : i < ops.size := by
    rcases Nat.lt_or_ge i ops.size with h | h
    · exact h
    · have := Rd.op; rw [Array.getElem?_eq_none h] at this; cases this
  by_cases hmi : m ≤ i
  · -- what is made ahead of the read in the text is made
    have hnews : ∀ k, m ≤ k → k < i → isNew ops k → L k = true := by
      intro k _ hki ⟨p, hp, hkp⟩
      cases hL : L k with
      | true => rfl
      | false => exact absurd ⟨hkp, hk⟩ (Rd.earlier C hp hki hL).2.1
    by_cases hex : ∃ k, m ≤ k ∧ k < i ∧ isEff ops k
    · -- the first that changes cells, and is not done
      have hleast : ∃ k, (m ≤ k ∧ k < i ∧ isEff ops k) ∧ ∀ k', m ≤ k' → k' < k → ¬ isEff ops k' := by
        obtain ⟨k, hk⟩ := hex
        have : ∀ d k, k - m = d → (m ≤ k ∧ k < i ∧ isEff ops k) → ∃ k, (m ≤ k ∧ k < i ∧ isEff ops k) ∧ ∀ k', m ≤ k' → k' < k → ¬ isEff ops k' := by
          intro d
          induction d using Nat.strongRecOn with
          | _ d ih =>
            intro k hd hk
            by_cases h : ∃ k', m ≤ k' ∧ k' < k ∧ isEff ops k'
            · obtain ⟨k', h1, h2, h3⟩ := h
              exact ih (k' - m) (by omega) k' rfl ⟨h1, by omega, h3⟩
            · exact ⟨k, hk, fun k' h1 h2 h3 => h ⟨k', h1, h2, h3⟩⟩
        exact this _ k rfl hk
      obtain ⟨e, ⟨h1, h2, oe, hoe, hke⟩, h3⟩ := hleast
      have hLe : L e = false := F.above e ⟨oe, hoe, hke⟩ h1
      have hn := (Rd.earlier C hoe h2 hLe).2.2.2.2
      refine ⟨e, ?_, .inr (C.steps.later e i oe o (Nat.zero_le _) h2 hoe Rd.op hke hk hn)⟩
      have := C.heap_move (L := L) (m := m) (e - m) (by omega) (fun k a b => h3 k a (by omega)) (fun k a b => hnews k a (by omega))
      rwa [show m + (e - m) = e from by omega] at this
    · refine ⟨i, ?_, .inl rfl⟩
      have := C.heap_move (L := L) (m := m) (i - m) (by omega) (fun k a b h => hex ⟨k, a, by omega, h⟩) (fun k a b => hnews k a (by omega))
      rwa [show m + (i - m) = i from by omega] at this
  · rcases F.last with h0 | ⟨e, rfl, ⟨oe, hoe, hke⟩, hLe⟩
    · omega
    · have hei : e ≠ i := fun h => by rw [h, Rd.todo] at hLe; cases hLe
      have hn := (Rd.later C hc hoe (by omega) hLe).2.2.2
      exact ⟨e + 1, rfl, .inr (C.steps.sooner e i oe o (Nat.zero_le _) (by omega) hoe Rd.op hke hk hn)⟩

/-- An operation that can be done, from what is done: the same value, and what is done then. -/
theorem Ready.move (C : Ctx P call nt ops base A G V) {L : Nat → Bool} (hc : Closed ops L) {m : Nat} (F : Front ops L m) {i : Nat} {o : Oper} (Rd : Ready ops L i o) :
    ∃ m', opD P call nt ops (some (base + i)) o (frL (dstOf ops) V (A 0) ops.size L) (heapL ops base G L m) = some (V i, frL (dstOf ops) V (A 0) ops.size (addL L i), heapL ops base G (addL L i) m') ∧
      Front ops (addL L i) m' := by
  have hi : i < ops.size := by
    rcases Nat.lt_or_ge i ops.size with h | h
    · exact h
    · have := Rd.op; rw [Array.getElem?_eq_none h] at this; cases this
  have hstep := C.steps.step i o (Nat.zero_le _) Rd.op
  have hreads := Rd.reads C hc
  have hle : kindOf o.op ≤ 3 := by
    unfold kindOf
    split <;> first | omega | (split <;> omega)
  have addT : ∀ {j}, j ≠ i → addL L i j = L j := fun h => if_neg h
  have addS : addL L i i = true := if_pos rfl
  have addM : ∀ {j}, L j = true → addL L i j = true := fun {j} h => by unfold addL; split <;> first | rfl | exact h
  -- where nothing that stands turns, the front stays
  have front_stays : kindOf o.op ≠ 3 → Front ops (addL L i) m := by
    intro hk
    refine ⟨F.le, fun e he hm => addM (F.below e he hm), fun e he hm => ?_, ?_, fun j hj hm => addM (F.news j hj hm)⟩
    · rw [addT]
      · exact F.above e he hm
      · rintro rfl
        obtain ⟨p, hp, hkp⟩ := he
        rw [Rd.op] at hp; cases hp
        exact hk hkp
    · rcases F.last with h | ⟨e, h1, h2, h3⟩
      · exact .inl h
      · exact .inr ⟨e, h1, h2, addM h3⟩
  have early_stays : ∀ m, kindOf o.op ≠ 2 → early ops base G (addL L i) m = early ops base G L m := by
    intro m hk
    refine early_eq fun j hj => ?_
    have : j ≠ i := by
      rintro rfl
      obtain ⟨p, hp, hkp⟩ := hj
      rw [Rd.op] at hp; cases hp
      exact hk hkp
    rw [addT this]
  have cong : ∀ (H : Heap), aopC P call (frL (dstOf ops) V (A 0) ops.size L) H (some (base + i)) o.op = aopC P call (A i) H (some (base + i)) o.op :=
    fun H => aopC_congr fun x hx => (evo_of_reads (ops := ops) (o := o) (a := A i) hreads hx).symm
  by_cases h0 : kindOf o.op = 0
  · obtain ⟨H1, a3, k1, k2, k3⟩ := opD_move (fun _ Y => Y = heapL ops base G L m) hstep hreads (fun G1 _ h => ⟨heapL ops base G L m, by rw [cong]; exact (kind0 h0 h).2 _, rfl⟩) rfl
    refine ⟨m, ?_, front_stays (by omega)⟩
    rw [k1, Rd.frame C hc k3, k2]
    simp only [heapL, early_stays m (by omega)]
  by_cases h1 : kindOf o.op = 1
  · obtain ⟨m', e1, e2⟩ := Rd.read C hc F h1
    obtain ⟨H1, a3, k1, k2, k3⟩ := opD_move (T := fun _ Y => Y = heapL ops base G L m) hstep hreads (H2 := heapL ops base G L m) (fun G1 hf h => by
      obtain ⟨_, g2, g3⟩ := kind1 h1 h
      refine ⟨heapL ops base G L m, ?_, rfl⟩
      rw [cong]
      refine g3 _ ?_
      rw [e1]
      refine over_ldT (C.disj L m') ?_
      rcases e2 with e2 | e2
      · rw [e2]; exact g2
      · unfold Read.holds readOf at e2
        unfold fires at hf
        cases hg : o.guard with
        | none =>
          simp only [hg] at e2
          exact tells_eq e2
        | some jw =>
          obtain ⟨j, want⟩ := jw
          simp only [hg] at hf e2
          obtain ⟨g, f1, f2⟩ := hf
          simp only [f1, Option.map_some, f2, if_true] at e2
          exact tells_eq e2) rfl
    refine ⟨m, ?_, front_stays (by omega)⟩
    rw [k1, Rd.frame C hc k3, k2]
    simp only [heapL, early_stays m (by omega)]
  by_cases h2 : kindOf o.op = 2
  · have hnew : isNew ops i := ⟨o, Rd.op, h2⟩
    have hmi : m ≤ i := by
      rcases Nat.lt_or_ge i m with h | h
      · rcases F.last with hm | ⟨e, rfl, ⟨oe, hoe, hke⟩, hLe⟩
        · omega
        · have hei : e ≠ i := fun h => by rw [h, Rd.todo] at hLe; cases hLe
          exact absurd ⟨.inr h2, hke⟩ (Rd.later C hc hoe (by omega) hLe).1
      · exact h
    have hap := C.apart hnew m hmi
    have hapi := C.apart hnew i (Nat.le_refl _)
    have hearly : early ops base G L m (base + i) = none := early_none (fun x => by rw [Rd.todo] at x; exact absurd x.1 (by simp))
    have hnone : (heapL ops base G L m).get (base + i) = none := over_none (C.disj L m) hap.1 hearly
    have hnext : base + i < (heapL ops base G L m).next := hap.2
    obtain ⟨H1, a3, k1, k2, k3⟩ := opD_move (T := fun X Y => (X = G i ∧ Y = heapL ops base G L m) ∨ ∃ b, X = (G i).upd (base + i) b ∧ Y = (heapL ops base G L m).upd (base + i) b) hstep hreads (H2 := heapL ops base G L m)
      (fun G1 _ h => by
        obtain ⟨_, _, b, g3, g4⟩ := kind2 h2 h
        exact ⟨(heapL ops base G L m).upd (base + i) b, by rw [cong]; exact g4 _ hnone hnext, .inr ⟨b, g3, rfl⟩⟩) (.inl ⟨rfl, rfl⟩)
    refine ⟨m, ?_, front_stays (by omega)⟩
    rw [k1, Rd.frame C hc k3]
    congr 3
    have hothers : ∀ id, id ≠ base + i → early ops base G (addL L i) m id = early ops base G L m id := by
      intro id hid
      by_cases hb : base ≤ id
      · obtain ⟨j, rfl⟩ : ∃ j, id = base + j := ⟨id - base, by omega⟩
        have hji : j ≠ i := by omega
        by_cases hcn : L j = true ∧ m ≤ j ∧ isNew ops j
        · rw [early_at (by rw [addT hji]; exact hcn.1) hcn.2.1 hcn.2.2, early_at hcn.1 hcn.2.1 hcn.2.2]
        · rw [early_none (by rw [addT hji]; exact hcn), early_none hcn]
      · rw [early_low (by omega), early_low (by omega)]
    have hself : early ops base G (addL L i) m (base + i) = (G (i + 1)).get (base + i) := early_at addS hmi hnew
    rcases k2 with ⟨x1, x2⟩ | ⟨b, x1, x2⟩
    · rw [x2]
      unfold heapL
      congr 1
      funext id
      by_cases hid : id = base + i
      · rw [hid, hself, x1, hapi.1, hearly]
      · exact (hothers id hid).symm
    · rw [x2]
      refine Heap.ext (fun id => ?_) rfl
      have hD := C.disj (addL L i) m
      unfold heapL
      rw [over_get hD, get_upd, over_get (C.disj L m)]
      by_cases hid : id = base + i
      · simp only [hid, hself, x1, get_upd]; rw [if_pos ⟨trivial, hap.2⟩, if_pos ⟨trivial, hapi.2⟩]
      · rw [hothers id hid, if_neg (fun x => hid x.1)]
  · have h3 : kindOf o.op = 3 := by omega
    have heff : isEff ops i := ⟨o, Rd.op, h3⟩
    have hmi : m ≤ i := by
      rcases Nat.lt_or_ge i m with h | h
      · rcases F.last with hm | ⟨e, rfl, ⟨oe, hoe, hke⟩, hLe⟩
        · omega
        · have hei : e ≠ i := fun h => by rw [h, Rd.todo] at hLe; cases hLe
          exact absurd ⟨.inl h3, hke⟩ (Rd.later C hc hoe (by omega) hLe).1
      · exact h
    have heffs : ∀ k, k < i → isEff ops k → L k = true := by
      intro k hk ⟨p, hp, hkp⟩
      cases hL : L k with
      | true => rfl
      | false => exact absurd ⟨.inl hkp, h3⟩ (Rd.earlier C hp hk hL).1
    have hnews : ∀ k, k < i → isNew ops k → L k = true := by
      intro k hk ⟨p, hp, hkp⟩
      cases hL : L k with
      | true => rfl
      | false => exact absurd ⟨.inr hkp, h3⟩ (Rd.earlier C hp hk hL).1
    have hmove := C.heap_move (L := L) (m := m) (i - m) (by omega) (fun k a b h => by have := F.above k h a; rw [heffs k (by omega) h] at this; cases this) (fun k a b h => hnews k (by omega) h)
    rw [show m + (i - m) = i from by omega] at hmove
    have hearly : early ops base G L i (base + i) = none := early_none (fun x => by rw [Rd.todo] at x; exact absurd x.1 (by simp))
    obtain ⟨o1, o2⟩ := opD_over C.over (C.disj L i) (nid := some (base + i)) (fun x hx => by cases hx; exact hearly) hstep
    obtain ⟨H1, a3, k1, k2, k3⟩ := opD_move (T := fun X Y => Y = X) o1 hreads (H2 := heapL ops base G L i) (fun G1 _ h => ⟨G1, by rw [cong]; exact h, rfl⟩) rfl
    refine ⟨i + 1, ?_, ⟨by omega, fun e he hm => ?_, fun e he hm => ?_, .inr ⟨i, rfl, heff, addS⟩, fun j hj hm => ?_⟩⟩
    · rw [hmove, k1, Rd.frame C hc k3, k2]
      congr 3
      unfold heapL
      congr 1
      refine early_eq fun j hj => ?_
      have hji : j ≠ i := by
        rintro rfl
        obtain ⟨p, hp, hkp⟩ := hj
        rw [Rd.op] at hp; cases hp
        omega
      rw [addT hji]
      exact ⟨fun ⟨x, y⟩ => ⟨x, by omega⟩, fun ⟨x, y⟩ => ⟨x, by omega⟩⟩
    · by_cases hei : e = i
      · rw [hei]; exact addS
      · exact addM (heffs e (by omega) he)
    · rw [addT (by omega)]
      cases hL : L e with
      | false => rfl
      | true =>
        exfalso
        obtain ⟨p, hp, hkp⟩ := he
        exact (Rd.later C hc hp (by omega) hL).1 ⟨.inl h3, hkp⟩
    · have hji : j ≠ i := by
        rintro rfl
        obtain ⟨p, hp, hkp⟩ := hj
        rw [Rd.op] at hp; cases hp
        omega
      exact addM (hnews j (by omega) hj)
end
end Go.Proofs.SakAm

namespace Go.Proofs.SakAm
set_option linter.unusedVariables false
set_option linter.unusedSimpArgs false
open Go
open Go.RowKit (Below)
set_option linter.unusedSectionVars false
variable [Tabs]

section
variable {P : Program} {call : FuncId → List Value → Heap → Option (Value × Heap)} {B : Nat} {w0 : World}
variable {nt : Nat} {ops : Array Oper} {base : Nat} {A : Nat → Fr} {G : Nat → Heap} {V : Nat → Value}

/-- Which are listed. -/
def listedOf (l : Array Bool) : Nat → Bool := fun j => l.getD j false

theorem listed_set {l : Array Bool} {i : Nat} (hi : i < l.size) : listedOf (l.setIfInBounds i true) = addL (listedOf l) i := by
  funext j
  unfold listedOf addL
  simp only [Array.getD_eq_getD_getElem?]
  rw [Array.getElem?_setIfInBounds]
  by_cases h : i = j
  · subst h; simp [hi]
  · rw [if_neg h, if_neg (fun e => h e.symm)]

theorem ready_iff {l : Array Bool} (hs : l.size = ops.size) {i : Nat} (h : i ∈ Region.ready .any ops l) :
    i < ops.size ∧ listedOf l i = false ∧ ∃ o, ops[i]? = some o ∧ ∀ e ∈ o.after, Region.binds .any e = true → listedOf l e.on = true := by
  unfold Region.ready at h
  rw [List.mem_filter, List.mem_range] at h
  obtain ⟨h1, h2⟩ := h
  simp only [Bool.and_eq_true, Bool.not_eq_true'] at h2
  refine ⟨h1, ?_, ops[i], Array.getElem?_eq_getElem h1, ?_⟩
  · have := h2.1
    unfold listedOf
    rw [Array.getD_eq_getD_getElem?, Array.getElem?_eq_getElem (by omega)] at this ⊢
    exact this
  · have := h2.2
    rw [Array.getElem?_eq_getElem h1] at this
    simp only [Option.map_some, Option.getD_some] at this
    intro e he hb
    have h3 := (Array.all_eq_true'.1 this) e he
    simpa [hb, listedOf] using h3

theorem ready_of {l : Array Bool} (hs : l.size = ops.size) {i : Nat} (h1 : i < ops.size) (h2 : listedOf l i = false) (h3 : ∀ e ∈ ops[i].after, Region.binds .any e = true → listedOf l e.on = true) : i ∈ Region.ready .any ops l := by
  unfold Region.ready
  rw [List.mem_filter, List.mem_range]
  refine ⟨h1, ?_⟩
  simp only [Bool.and_eq_true, Bool.not_eq_true']
  refine ⟨?_, ?_⟩
  · unfold listedOf at h2
    rw [Array.getD_eq_getD_getElem?, Array.getElem?_eq_getElem (by omega)] at h2 ⊢
    exact h2
  · rw [Array.getElem?_eq_getElem h1]
    simp only [Option.map_some, Option.getD_some]
    rw [Array.all_eq_true']
    intro e he
    by_cases hb : Region.binds .any e = true
    · simp only [hb, Bool.not_true, Bool.false_or]
      exact h3 e he hb
    · simp [hb]

theorem Ctx.any (C : Ctx P call nt ops base A G V) (hcall : CallSound P call) {Q : Exit → Act → World → Prop} {φ0 : Nat → Place} {H0 : Heap}
    (hQ : ∀ φ' w' act', Rel P B w0 φ' (G ops.size) w' → Ext φ0 H0 φ' (G ops.size) → FrRel P φ' (G ops.size) nt (A ops.size) act'.tmps → act'.defers = [] → Q .normal act' w') :
    ∀ (fuel : Nat) (l : Array Bool) (m : Nat) (φ : Nat → Place) (act : Act) (w : World), l.size = ops.size → l.toList.count false = fuel → Closed ops (listedOf l) → Front ops (listedOf l) m →
      Rel P B w0 φ (heapL ops base G (listedOf l) m) w → Ext φ0 H0 φ (heapL ops base G (listedOf l) m) → FrRel P φ (heapL ops base G (listedOf l) m) nt (frL (dstOf ops) V (A 0) ops.size (listedOf l)) act.tmps → act.defers = [] →
      wpAny P .any ops Q fuel l act w := by
  intro fuel
  induction fuel with
  | zero =>
    intro l m φ act w hs hc hcl F R E0 Fr0 hd
    have hall : ∀ j, j < ops.size → listedOf l j = true := by
      intro j hj
      unfold listedOf
      rw [Array.getD_eq_getD_getElem?, Array.getElem?_eq_getElem (by omega)]
      simp only [Option.getD_some]
      cases hb : l[j] with
      | true => rfl
      | false =>
        have := List.count_eq_zero.1 hc
        exact absurd (by rw [← hb]; simp) this
    have hready : Region.ready .any ops l = [] := by
      refine List.eq_nil_iff_forall_not_mem.2 fun i hi => ?_
      obtain ⟨h1, h2, _⟩ := ready_iff hs hi
      rw [hall i h1] at h2; cases h2
    refine ⟨hready, ?_⟩
    have hlt : ∀ {k}, (isNew ops k ∨ isEff ops k) → k < ops.size := by
      rintro k (⟨o, ho, _⟩ | ⟨o, ho, _⟩) <;>
      · rcases Nat.lt_or_ge k ops.size with h | h
        · exact h
        · rw [Array.getElem?_eq_none h] at ho; cases ho
    have hmove := C.heap_move (L := listedOf l) (m := m) (ops.size - m) (by have := F.le; omega) (fun k a b h => by have := F.above k h a; rw [hall k (hlt (.inr h))] at this; cases this) (fun k a b h => hall k (hlt (.inl h)))
    rw [show m + (ops.size - m) = ops.size from by have := F.le; omega] at hmove
    have hend : heapL ops base G (listedOf l) ops.size = G ops.size := by
      refine Heap.ext (fun id => ?_) rfl
      unfold heapL
      rw [over_get (C.disj _ _)]
      have : early ops base G (listedOf l) ops.size id = none := by
        by_cases hb : base ≤ id
        · obtain ⟨j, rfl⟩ : ∃ j, id = base + j := ⟨id - base, by omega⟩
          exact early_none (fun x => by have := hlt (.inl x.2.2); omega)
        · exact early_low (by omega)
      rw [this]
    have hfr : frL (dstOf ops) V (A 0) ops.size (listedOf l) = A ops.size := by
      funext t
      rw [frL_text C.frame_text ops.size (Nat.le_refl _) t]
      have : lastW (dstOf ops) (listedOf l) t ops.size = lastW (dstOf ops) (fun _ => true) t ops.size := lastW_congr _ fun j hj _ => ⟨fun _ => rfl, fun _ => hall j hj⟩
      simp only [frL, this]
    rw [hmove, hend] at R E0 Fr0
    rw [hfr] at Fr0
    exact hQ φ w act R E0 Fr0 hd
  | succ fuel ih =>
    intro l m φ act w hs hc hcl F R E0 Fr0 hd
    refine ⟨fun hready => ?_, fun i hi => ?_⟩
    · exfalso
      -- the least that is not listed can be done
      have hex : ∃ j, j < ops.size ∧ listedOf l j = false := by
        have hmem : false ∈ l.toList := List.count_pos_iff.1 (by omega)
        obtain ⟨j, hj⟩ := List.getElem?_of_mem hmem
        rw [Array.getElem?_toList] at hj
        have hjl : j < l.size := by
          rcases Nat.lt_or_ge j l.size with h | h
          · exact h
          · rw [Array.getElem?_eq_none h] at hj; cases hj
        exact ⟨j, by omega, by unfold listedOf; rw [Array.getD_eq_getD_getElem?, hj]; rfl⟩
      obtain ⟨j, hj, hjl⟩ := hex
      have : ∀ j, j < ops.size → listedOf l j = false → False := by
        intro j
        induction j using Nat.strongRecOn with
        | _ j ihj =>
          intro hj hjl
          have hmem : j ∈ Region.ready .any ops l := ready_of hs hj hjl fun e he hb => by
            have hlt := drawOk_edges C.ok (Array.getElem?_eq_getElem hj) he hb
            cases hL : listedOf l e.on with
            | true => rfl
            | false => exact (ihj e.on hlt (by omega) hL).elim
          rw [hready] at hmem; cases hmem
      exact this j hj hjl
    · obtain ⟨h1, h2, o, ho, h3⟩ := ready_iff hs hi
      have Rd : Ready ops (listedOf l) i o := ⟨ho, h2, fun k hk => by
        obtain ⟨e, he, hb, h⟩ := ahead_step ho hk
        rcases h with rfl | h
        · exact h3 e he hb
        · exact hcl e.on k (h3 e he hb) h⟩
      obtain ⟨m', hop, F'⟩ := Rd.move C hcl F
      refine opD_sound hcall R Fr0 hd ho hop fun φ' w' act' k1 k2 k3 k4 => ?_
      have hset := listed_set (l := l) (i := i) (by omega)
      refine ih (l.setIfInBounds i true) m' φ' act' w' (by simpa using hs) ?_ ?_ (by rw [hset]; exact F') (by rw [hset]; exact k1) (by rw [hset]; exact E0.trans k2) (by rw [hset]; exact k3) k4
      · have hi' : i < l.toList.length := by simp; omega
        have hli : l.toList[i] = false := by
          unfold listedOf at h2
          rw [Array.getD_eq_getD_getElem?, Array.getElem?_eq_getElem (by omega)] at h2
          simpa using h2
        rw [Array.toList_setIfInBounds, List.count_set hi', hc, hli]
        simp
      · rw [hset]
        intro j k hj hk
        unfold addL at hj ⊢
        by_cases hki : k = i
        · rw [if_pos hki]
        · rw [if_neg hki]
          by_cases hji : j = i
          · exact Rd.done k (by rw [← hji]; exact hk)
          · rw [if_neg hji] at hj
            exact hcl j k hj hk
end

section
variable {P : Program} {call : FuncId → List Value → Heap → Option (Value × Heap)} {B : Nat} {w0 w : World} {φ : Nat → Place} {H : Heap}

/-- A region, as the model does it. -/
theorem region_sound (hmix : P.follows .mixedOrders = true) (hcall : CallSound P call) (hover : CallOver call) {nt : Nat} {ops : Array Oper} {id : Nat} {draw : Bool} {a a' : Fr} {H' : Heap} {act : Act}
    (h : regionD P call nt ops draw a H = some (a', H')) (R : Rel P B w0 φ H w) (F : FrRel P φ H nt a act.tmps) (hd : act.defers = []) {Q : Exit → Act → World → Prop}
    (hQ : ∀ φ' w' act', Rel P B w0 φ' H' w' → Ext φ H φ' H' → FrRel P φ' H' nt a' act'.tmps → act'.defers = [] → Q .normal act' w') :
    (Code.region id ops draw).wp P Q act w := by
  unfold regionD at h
  cases draw with
  | false =>
    simp only [Bool.false_eq_true, if_false] at h
    refine wp_region ?_
    have := seqD_sound (Q := Q) hcall ops.toList 0 a H φ w act (by simp) h R F hd hQ
    rwa [← List.range_eq_range', Array.length_toList] at this
  | true =>
    simp only [if_true] at h
    split at h
    · rename_i hok
      refine wp_region_any hmix ?_
      obtain ⟨A, G, V, e1, e2, e3, e4, S, _, _⟩ := drawD_steps ops.toList 0 a _ [] [] (a', H') (by simp) h
      have hR : Rel P B w0 φ (G 0) w ∧ Ext φ H φ (G 0) := by
        rw [e2]
        split
        · exact R.reserve _
        · exact ⟨R, Ext.refl _ _⟩
      have C : Ctx P call nt ops H.next A G V := by
        refine ⟨hover, hok, S, fun i o ho hk => ?_⟩
        have hlt : i < ops.size := by
          rcases Nat.lt_or_ge i ops.size with h | h
          · exact h
          · rw [Array.getElem?_eq_none h] at ho; cases ho
        have hn : hasNew ops = true := by
          unfold hasNew
          rw [Array.any_eq_true']
          exact ⟨o, Array.mem_of_getElem? ho, by simp [hk]⟩
        rw [e2, if_pos hn]
        exact ⟨H.wf _ (by omega), by simp only [Heap.reserve]; omega⟩
      have hl0 : ∀ j, listedOf (Array.replicate ops.size false) j = false := by
        intro j
        unfold listedOf
        rw [Array.getD_eq_getD_getElem?, Array.getElem?_replicate]
        split <;> rfl
      have hheap : heapL ops H.next G (listedOf (Array.replicate ops.size false)) 0 = G 0 := by
        refine Heap.ext (fun x => ?_) rfl
        unfold heapL
        rw [over_get (C.disj _ _)]
        have : early ops H.next G (listedOf (Array.replicate ops.size false)) 0 x = none := by
          by_cases hb : H.next ≤ x
          · obtain ⟨j, rfl⟩ : ∃ j, x = H.next + j := ⟨x - H.next, by omega⟩
            exact early_none (fun y => by rw [hl0] at y; exact absurd y.1 (by simp))
          · exact early_low (by omega)
        rw [this]
      have hfr : frL (dstOf ops) V (A 0) ops.size (listedOf (Array.replicate ops.size false)) = a := by
        funext t
        have : ∀ n, lastW (dstOf ops) (listedOf (Array.replicate ops.size false)) t n = none := by
          intro n
          induction n with
          | zero => rfl
          | succ n ih => simp only [lastW, hl0]; rw [if_neg (by simp)]; exact ih
        simp only [frL, this, e1]
      refine C.any hcall (B := B) (w0 := w0) (φ0 := φ) (H0 := H) (by rw [e3, e4]; exact hQ) ops.size _ 0 φ act { w with drawn := w.drawn + 1 } (by simp) (by simp) ?_ ?_ ?_ ?_ ?_ hd
      · intro j k hj _
        rw [hl0] at hj; cases hj
      · exact ⟨Nat.zero_le _, fun e _ h => by omega, fun e _ _ => hl0 e, .inl rfl, fun j _ h => by omega⟩
      · rw [hheap]; exact hR.1.drawn _
      · rw [hheap]; exact hR.2
      · rw [hheap, hfr]; exact F.ext hR.2
    · cases h
end
end Go.Proofs.SakAm

namespace Go.Proofs.SakAm
set_option linter.unusedVariables false
set_option linter.unusedSimpArgs false
open Go
open Go.RowKit (Below)
set_option linter.unusedSectionVars false
variable [Tabs]

section
variable {P : Program} {ext : FuncId → List Value → Heap → Option (Value × Heap)} {B : Nat} {w0 w : World} {φ : Nat → Place} {H H' : Heap}

def resVal (tmps : Array Value) (r : ResultVar) : Sem Value :=
  match r with
  | .tmp t => pure (tmps.getD t undef)
  | .cell p t => do loadVar t (← asAddr (tmps.getD p undef))

theorem results_eq (fn : Func) (tmps : Array Value) : results fn tmps = (do let vs ← fn.results.mapM (resVal tmps); pure (if h : vs.size = 1 then vs[0] else .tuple vs)) := rfl

theorem resAll_sound (R : Rel P B w0 φ H w) {nt : Nat} {a : Fr} {tmps : Array Value} (F : FrRel P φ H nt a tmps) : ∀ {l : List ResultVar} {vs : List Value}, resAll P a H l = some vs →
    ∃ us, (l.mapM (resVal tmps)).run P w = .ok us w ∧ LRel P φ H vs us
  | [], vs, h => by simp only [resAll, Option.some.injEq] at h; subst h; exact ⟨[], by simp, .nil⟩
  | r :: l, vs, h => by
    simp only [resAll, Option.bind_eq_some_iff] at h
    obtain ⟨v, hv, vs', h2, h3⟩ := h
    cases h3
    obtain ⟨us, k1, k2⟩ := resAll_sound R F h2
    rw [List.mapM_cons]
    cases r with
    | tmp t =>
      simp only [resOf, Option.some.injEq] at hv
      subst hv
      exact ⟨_, by simp only [resVal, Sem.run_bind, Sem.run_pure, Result.andThen_ok, k1], .cons (F.2 t) k2⟩
    | cell p t =>
      simp only [resOf] at hv
      obtain ⟨u, _, g2, c, g3, g4⟩ := ldT_rel R hv (F.2 p)
      refine ⟨u :: us, ?_, .cons g2 k2⟩
      have ha : (asAddr (tmps.getD p undef)).run P w = .ok c w := by rw [g3]; rfl
      have hv : (resVal tmps (.cell p t)).run P w = .ok u w := by simp only [resVal, Sem.run_bind, ha, Result.andThen_ok, g4]
      simp only [Sem.run_bind, hv, Result.andThen_ok, k1, Sem.run_pure]

theorem retK_sound (R : Rel P B w0 φ H w) {fn : Func} {a : Fr} {tmps : Array Value} (F : FrRel P φ H fn.ntmps a tmps) {v : Value} (h : retK P fn a H = some (v, H')) :
    H' = H ∧ ∃ u, (results fn tmps).run P w = .ok u w ∧ VRel P φ H v u := by
  simp only [retK, Option.bind_eq_some_iff] at h
  obtain ⟨vs, h1, h2⟩ := h
  cases h2
  refine ⟨rfl, ?_⟩
  obtain ⟨us, k1, k2⟩ := resAll_sound R F h1
  have hrun : (results fn tmps).run P w = .ok (if h : us.toArray.size = 1 then us.toArray[0] else .tuple us.toArray) w := by
    rw [results_eq, Array.mapM_eq_mapM_toList]
    simp only [Sem.run_bind, Sem.run_map, k1, Result.andThen_ok, Sem.run_pure]
  refine ⟨_, hrun, ?_⟩
  match vs, us, k2 with
  | [], [], _ => exact tuple_of_lrel .nil
  | [v], [u], k2 =>
    obtain ⟨u', e, hu⟩ := lrel_one k2
    cases e
    simpa [tupled] using hu
  | v :: v' :: r, u :: u' :: s, k2 =>
    have := tuple_of_lrel k2
    simpa [tupled] using this
  | [], _ :: _, k2 => have := k2.length; simp at this
  | _ :: _, [], k2 => have := k2.length; simp at this
  | [_], _ :: _ :: _, k2 => have := k2.length; simp at this
  | _ :: _ :: _, [_], k2 => have := k2.length; simp at this

/-- What a run of code comes to, and what the model's comes to. -/
def RunSound (P : Program) (run : Func → List Item → Fr → Heap → Option (Value × Heap)) : Prop :=
  ∀ fn items a H v H', run fn items a H = some (v, H') → ∀ (B : Nat) (w0 : World) (φ : Nat → Place) (w : World) (act : Act) (b : Frame) (cs : List Frame),
    Rel P B w0 φ H w → FrRel P φ H fn.ntmps a act.tmps → act.defers = [] →
    ∃ φ' w' act' todo u, Steps P (lone (b.at act items) cs w) (lone { b.at act' todo with mode := .returning } cs w') ∧ act'.defers = [] ∧ (results fn act'.tmps).run P w' = .ok u w' ∧
      Rel P B w0 φ' H' w' ∧ Ext φ H φ' H' ∧ VRel P φ' H' v u

theorem bodyOf_spec {f : FuncId} {fn : Func} {c : Code} (h : bodyOf P f = some (fn, c)) : P.funcs[f]? = some fn ∧ fn.body = some c := by
  unfold bodyOf at h
  split at h
  · rename_i g hg
    split at h
    · cases h
    · split at h
      · rename_i c' hc; cases h; exact ⟨hg, hc⟩
      · cases h
  · cases h

theorem fr0_rel {args : List Value} {argsC : Array Value} (h : LRel P φ H args argsC.toList) {nt : Nat} (hn : args.length ≤ nt) :
    FrRel P φ H nt (fr0 args) (argsC ++ Array.replicate (nt - argsC.size) undef) := by
  have hl : args.length = argsC.size := by simpa using h.length
  refine ⟨by simp; omega, fun t => ?_⟩
  simp only [fr0]
  rw [Array.getD_eq_getD_getElem?, List.getD_eq_getElem?_getD]
  by_cases ht : t < args.length
  · obtain ⟨u, hu, hr⟩ := h.get (List.getElem?_eq_getElem ht)
    rw [List.getElem?_eq_getElem ht, Array.getElem?_append_left (by omega)]
    rw [Array.getElem?_toList] at hu
    rw [hu]; exact hr
  · rw [List.getElem?_eq_none (by omega), Array.getElem?_append_right (by omega), Array.getElem?_replicate]
    split
    · exact VRel.plain plain_undef
    · exact VRel.plain plain_undef

theorem callBy_sound (hext : CallSound P ext) {run : Func → List Item → Fr → Heap → Option (Value × Heap)} (hrun : RunSound P run) : CallSound P (callBy P ext run) := by
  intro f args H v H' h
  unfold callBy at h
  split at h
  · rename_i r hx
    cases h
    exact hext f args H v H' hx
  · split at h
    · rename_i fn c hb
      split at h
      · rename_i hl
        refine ⟨by rw [hb]; rfl, fun B w0 φ w argsC R ha cs => ?_⟩
        obtain ⟨hf, hbody⟩ := bodyOf_spec hb
        let b : Frame := { (default : Frame) with fn := f, kind := .normal }
        have henter : Frame.enter P f argsC .normal = b.at { tmps := argsC ++ Array.replicate (fn.ntmps - argsC.size) undef, defers := [] } [.code c] := by
          simp [Frame.enter, Frame.at, hf, hbody, b]
        obtain ⟨φ', w', act', todo, u, k1, k2, k3, k4, k5, k6⟩ := hrun fn [.code c] (fr0 args) H v H' h B w0 φ w { tmps := argsC ++ Array.replicate (fn.ntmps - argsC.size) undef, defers := [] } b cs R (fr0_rel ha hl) rfl
        rw [← henter] at k1
        exact ⟨.returned u, w', _, ⟨φ', u, rfl, k4, k5, k6⟩, k1, rfl, rfl, k2, rfl, fn, hf, k3⟩
      · cases h
    · cases h

theorem arun_sound (hmix : P.follows .mixedOrders = true) (hext : CallSound P ext) (hover : CallOver ext) (hnone : ∀ E f args G, Disj E G → ext f args G = none → ext f args (over E G) = none) : ∀ n, RunSound P (arun P ext n) := by
  intro n
  induction n with
  | zero => intro fn items a H v H' h; simp [arun] at h
  | succ n ih =>
    intro fn items a H v H' h B w0 φ w act b cs R F hd
    have hcall : CallSound P (callBy P ext (arun P ext n)) := callBy_sound hext ih
    have hov : CallOver (callBy P ext (arun P ext n)) := callBy_over hover (arun_over hover hnone n) hnone
    -- a step of the machine, and the rest
    have one : ∀ {items' : List Item}, step P (lone (b.at act items) cs w) = .next (lone (b.at act items') cs w) → arun P ext n fn items' a H = some (v, H') →
        ∃ φ' w' act' todo u, Steps P (lone (b.at act items) cs w) (lone { b.at act' todo with mode := .returning } cs w') ∧ act'.defers = [] ∧ (results fn act'.tmps).run P w' = .ok u w' ∧
          Rel P B w0 φ' H' w' ∧ Ext φ H φ' H' ∧ VRel P φ' H' v u := by
      intro items' hs hr
      obtain ⟨φ', w', act', todo, u, k1, k2⟩ := ih fn items' a H v H' hr B w0 φ w act b cs R F hd
      exact ⟨φ', w', act', todo, u, .head hs k1, k2⟩
    unfold arun at h
    split at h
    · obtain ⟨rfl, u, k1, k2⟩ := retK_sound R F h
      exact ⟨φ, w, act, _, u, .one step_end, hd, k1, R, Ext.refl _ _, k2⟩
    · obtain ⟨rfl, u, k1, k2⟩ := retK_sound R F h
      exact ⟨φ, w, act, _, u, .one step_ret, hd, k1, R, Ext.refl _ _, k2⟩
    · exact one step_skip h
    · exact one step_label h
    · exact one step_inBlock h
    · exact one step_inScope h
    · exact one step_seq h
    · rename_i c x y k
      simp only [Option.bind_eq_some_iff] at h
      obtain ⟨cv, hcv, h⟩ := h
      unfold condK at h
      split at h
      · rename_i bv
        have hev := (evo_rel F hcv).bool_inv
        refine one (step_cond hev) ?_
        cases bv
        · exact h
        · exact h
      · cases h
    · exact one step_block h
    · exact one step_loop h
    · exact one step_inLoop h
    · exact one step_scope h
    · split at h
      · rename_i k' hk; exact one (step_exit hk) h
      · cases h
    · split at h
      · rename_i k' hk; exact one (step_goto hk) h
      · cases h
    · rename_i id ops draw k
      simp only [Option.bind_eq_some_iff] at h
      obtain ⟨⟨a1, H1⟩, hr, h⟩ := h
      have hw := region_sound (id := id) (Q := fun e act' w' => e = .normal ∧ ∃ φ', Rel P B w0 φ' H1 w' ∧ Ext φ H φ' H1 ∧ FrRel P φ' H1 fn.ntmps a1 act'.tmps ∧ act'.defers = []) hmix hcall hov hr R F hd
        (fun φ' w' act' k1 k2 k3 k4 => ⟨rfl, φ', k1, k2, k3, k4⟩)
      obtain ⟨e, act1, w1, ⟨rfl, φ1, k1, k2, k3, k4⟩, harr⟩ := hw b k cs
      obtain ⟨φ', w', act', todo, u, g1, g2, g3, g4, g5, g6⟩ := ih fn k a1 H1 v H' h B w0 φ1 w1 act1 b cs k1 k3 k4
      exact ⟨φ', w', act', todo, u, Steps.trans harr g1, g2, g3, g4, k2.trans g5, g6⟩
    · cases h
end
end Go.Proofs.SakAm

namespace Go.Proofs.SakAm
set_option linter.unusedVariables false
set_option linter.unusedSimpArgs false
open Go
set_option linter.unusedSectionVars false
variable [Tabs]

/-! ### With calls that come to the same in the end -/
section
variable {P : Program} {call : FuncId → List Value → Heap → Option (Value × Heap)} {c : Nat → FuncId → List Value → Heap → Option (Value × Heap)}

/-- What the calls come to, all late ones of a row come to. -/
def CallEv (call : FuncId → List Value → Heap → Option (Value × Heap)) (c : Nat → FuncId → List Value → Heap → Option (Value × Heap)) : Prop :=
  ∀ f args H r, call f args H = some r → ∃ n, ∀ m, n ≤ m → c m f args H = some r

theorem aopC_ev (hc : CallEv call c) {a : Fr} {H : Heap} {nid : Option Nat} {op : Op} {r : Value × Heap} (h : aopC P call a H nid op = some r) : ∃ n, ∀ m, n ≤ m → aopC P (c m) a H nid op = some r := by
  simp only [aopC, Option.bind_eq_some_iff] at h
  obtain ⟨out, ho, h⟩ := h
  cases out with
  | val v G => exact ⟨0, fun m _ => by simp only [aopC, ho, Option.bind_some]; exact h⟩
  | call f args =>
    obtain ⟨n, hn⟩ := hc f args H r h
    exact ⟨n, fun m hm => by simp only [aopC, ho, Option.bind_some]; exact hn m hm⟩

theorem opD_ev (hc : CallEv call c) {nt : Nat} {ops : Array Oper} {nid : Option Nat} {o : Oper} {a : Fr} {H : Heap} {r : Value × Fr × Heap} (h : opD P call nt ops nid o a H = some r) :
    ∃ n, ∀ m, n ≤ m → opD P (c m) nt ops nid o a H = some r := by
  unfold opD at h
  split at h
  · rename_i hg
    simp only [Option.bind_eq_some_iff] at h
    obtain ⟨x, h1, y, h2, h3⟩ := h
    obtain ⟨n, hn⟩ := aopC_ev hc h1
    exact ⟨n, fun m hm => by unfold opD; simp only [hg, hn m hm, Option.bind_some, h2, h3]⟩
  · rename_i j want hg
    split at h
    · cases h
    · rename_i g hgd
      simp only [Option.bind_eq_some_iff] at h
      obtain ⟨x, h1, y, h2, h3⟩ := h
      unfold gd at h1
      split at h1
      · rename_i b hb
        by_cases hw : b = want
        · rw [if_pos hw] at h1
          obtain ⟨n, hn⟩ := aopC_ev hc h1
          exact ⟨n, fun m hm => by unfold opD gd; simp only [hg, hgd, hb, if_pos hw, hn m hm, Option.bind_some, h2, h3]⟩
        · rw [if_neg hw] at h1
          exact ⟨0, fun m _ => by unfold opD gd; simp only [hg, hgd, hb, if_neg hw, h1, Option.bind_some, h2, h3]⟩
      · cases h1

theorem seqD_ev (hc : CallEv call c) {nt : Nat} {ops : Array Oper} : ∀ {l : List Oper} {a : Fr} {H : Heap} {r : Fr × Heap}, seqD P call nt ops l a H = some r → ∃ n, ∀ m, n ≤ m → seqD P (c m) nt ops l a H = some r
  | [], a, H, r, h => ⟨0, fun _ _ => h⟩
  | o :: l, a, H, r, h => by
    simp only [seqD, Option.bind_eq_some_iff] at h
    obtain ⟨x, h1, h2⟩ := h
    obtain ⟨n1, k1⟩ := opD_ev hc h1
    obtain ⟨n2, k2⟩ := seqD_ev hc h2
    exact ⟨max n1 n2, fun m hm => by simp only [seqD, k1 m (by omega), Option.bind_some, k2 m (by omega)]⟩

theorem drawD_ev (hc : CallEv call c) {nt : Nat} {ops : Array Oper} {bs : List Nat} {base : Nat} : ∀ {l : List Oper} {i : Nat} {a : Fr} {H : Heap} {past : List (Nat × Heap)} {reads : List Read} {r : Fr × Heap},
    drawD P call nt ops bs base i l a H past reads = some r → ∃ n, ∀ m, n ≤ m → drawD P (c m) nt ops bs base i l a H past reads = some r
  | [], i, a, H, past, reads, r, h => ⟨0, fun _ _ => h⟩
  | o :: l, i, a, H, past, reads, r, h => by
    simp only [drawD, Option.bind_eq_some_iff] at h
    obtain ⟨x, h1, h2⟩ := h
    obtain ⟨n1, k1⟩ := opD_ev hc h1
    split at h2
    · rename_i hk
      obtain ⟨g1, g2⟩ := ifD_eq h2
      obtain ⟨n2, k2⟩ := drawD_ev hc g2
      exact ⟨max n1 n2, fun m hm => by simp only [drawD, k1 m (by omega), Option.bind_some, hk, ifD, g1, if_true, k2 m (by omega)]⟩
    · rename_i hk
      obtain ⟨g1, g2⟩ := ifD_eq h2
      obtain ⟨n2, k2⟩ := drawD_ev hc g2
      exact ⟨max n1 n2, fun m hm => by simp only [drawD, k1 m (by omega), Option.bind_some, hk, ifD, g1, if_true, k2 m (by omega)]⟩
    · rename_i y hk1 hk3
      obtain ⟨n2, k2⟩ := drawD_ev hc h2
      refine ⟨max n1 n2, fun m hm => ?_⟩
      simp only [drawD, k1 m (by omega), Option.bind_some]
      exact k2 m (by omega)

theorem regionD_ev (hc : CallEv call c) {nt : Nat} {ops : Array Oper} {draw : Bool} {a : Fr} {H : Heap} {r : Fr × Heap} (h : regionD P call nt ops draw a H = some r) : ∃ n, ∀ m, n ≤ m → regionD P (c m) nt ops draw a H = some r := by
  unfold regionD at h
  split at h
  · rename_i hd
    split at h
    · rename_i hok
      obtain ⟨n, hn⟩ := drawD_ev hc h
      exact ⟨n, fun m hm => by unfold regionD; rw [if_pos hd, if_pos hok]; exact hn m hm⟩
    · cases h
  · rename_i hd
    obtain ⟨n, hn⟩ := seqD_ev hc h
    exact ⟨n, fun m hm => by unfold regionD; rw [if_neg hd]; exact hn m hm⟩
end

/-! ### A run without a bound -/
section
variable (P : Program) (ext : FuncId → List Value → Heap → Option (Value × Heap))

open Classical in
/-- What code comes to in the end. -/
noncomputable def run (fn : Func) (items : List Item) (a : Fr) (H : Heap) : Option (Value × Heap) :=
  if h : ∃ r n, arun P ext n fn items a H = some r then some (Classical.choose h) else none

/-- A call. -/
noncomputable def call : FuncId → List Value → Heap → Option (Value × Heap) := callBy P ext (run P ext)

variable {P ext}

theorem callBy_ev {r1 : Func → List Item → Fr → Heap → Option (Value × Heap)} {r2 : Nat → Func → List Item → Fr → Heap → Option (Value × Heap)}
    (h : ∀ fn items a H r, r1 fn items a H = some r → ∃ n, ∀ m, n ≤ m → r2 m fn items a H = some r) : CallEv (callBy P ext r1) (fun m => callBy P ext (r2 m)) := by
  intro f args H r hr
  unfold callBy at hr
  split at hr
  · rename_i x hx
    exact ⟨0, fun m _ => by simp only [callBy, hx]; exact hr⟩
  · rename_i hx
    split at hr
    · rename_i fn c hb
      split at hr
      · rename_i hl
        obtain ⟨n, hn⟩ := h _ _ _ _ _ hr
        exact ⟨n, fun m hm => by simp only [callBy, hx, hb, if_pos hl]; exact hn m hm⟩
      · cases hr
    · cases hr

theorem arun_succ : ∀ (n : Nat) {fn : Func} {items : List Item} {a : Fr} {H : Heap} {r : Value × Heap}, arun P ext n fn items a H = some r → arun P ext (n + 1) fn items a H = some r := by
  intro n
  induction n with
  | zero => intro fn items a H r h; simp [arun] at h
  | succ n ih =>
    intro fn items a H r h
    unfold arun at h ⊢
    split at h
    · exact h
    · exact h
    · exact ih h
    · exact ih h
    · exact ih h
    · exact ih h
    · exact ih h
    · simp only [Option.bind_eq_some_iff] at h ⊢
      obtain ⟨v, hv, h⟩ := h
      refine ⟨v, hv, ?_⟩
      unfold condK at h ⊢
      split at h
      · rename_i b
        cases b
        · exact ih h
        · exact ih h
      · cases h
    · exact ih h
    · exact ih h
    · exact ih h
    · exact ih h
    · split at h
      · exact ih h
      · cases h
    · split at h
      · exact ih h
      · cases h
    · simp only [Option.bind_eq_some_iff] at h ⊢
      obtain ⟨x, hx, h⟩ := h
      obtain ⟨m, hm⟩ := regionD_ev (c := fun _ => callBy P ext (arun P ext (n + 1))) (callBy_ev (r2 := fun _ => arun P ext (n + 1)) fun _ _ _ _ _ h => ⟨0, fun _ _ => ih h⟩) hx
      exact ⟨x, hm m (Nat.le_refl _), ih h⟩
    · cases h

theorem arun_mono {n m : Nat} (hnm : n ≤ m) {fn : Func} {items : List Item} {a : Fr} {H : Heap} {r : Value × Heap} (h : arun P ext n fn items a H = some r) : arun P ext m fn items a H = some r := by
  induction hnm with
  | refl => exact h
  | step _ ih => exact arun_succ _ ih

theorem run_iff {fn : Func} {items : List Item} {a : Fr} {H : Heap} {r : Value × Heap} : run P ext fn items a H = some r ↔ ∃ n, arun P ext n fn items a H = some r := by
  classical
  unfold run
  constructor
  · intro h
    split at h
    · rename_i hx
      injection h with h
      subst h
      exact Classical.choose_spec hx
    · cases h
  · rintro ⟨n, h⟩
    have hx : ∃ r n, arun P ext n fn items a H = some r := ⟨r, n, h⟩
    rw [dif_pos hx]
    obtain ⟨k, hk⟩ := Classical.choose_spec hx
    congr 1
    have h1 := arun_mono (Nat.le_max_left n k) h
    have h2 := arun_mono (Nat.le_max_right n k) hk
    rw [h1] at h2
    exact (Option.some.inj h2).symm

theorem run_eq_of {fn fn' : Func} {items items' : List Item} {a a' : Fr} {H H' : Heap} (h1 : ∀ n r, arun P ext n fn items a H = some r → run P ext fn' items' a' H' = some r) (h2 : ∀ n r, arun P ext n fn' items' a' H' = some r → run P ext fn items a H = some r) :
    run P ext fn items a H = run P ext fn' items' a' H' := by
  cases hr : run P ext fn items a H with
  | some r =>
    obtain ⟨n, hn⟩ := run_iff.1 hr
    exact (h1 n r hn).symm
  | none =>
    cases hr' : run P ext fn' items' a' H' with
    | none => rfl
    | some r =>
      obtain ⟨n, hn⟩ := run_iff.1 hr'
      rw [h2 n r hn] at hr; cases hr

/-- A step that only goes on. -/
theorem run_goes {fn : Func} {items items' : List Item} {a : Fr} {H : Heap} (h : ∀ n, arun P ext (n + 1) fn items a H = arun P ext n fn items' a H) : run P ext fn items a H = run P ext fn items' a H := by
  refine run_eq_of (fun n r hr => run_iff.2 ?_) (fun n r hr => run_iff.2 ⟨n + 1, by rw [h]; exact hr⟩)
  cases n with
  | zero => simp [arun] at hr
  | succ n => exact ⟨n, by rw [← h]; exact hr⟩

theorem run_ends {fn : Func} {items : List Item} {a : Fr} {H : Heap} {x : Option (Value × Heap)} (h : ∀ n, arun P ext (n + 1) fn items a H = x) : run P ext fn items a H = x := by
  cases hx : x with
  | some r => exact run_iff.2 ⟨1, by rw [h]; exact hx⟩
  | none =>
    cases hr : run P ext fn items a H with
    | none => rfl
    | some r =>
      obtain ⟨n, hn⟩ := run_iff.1 hr
      have := arun_succ n hn
      rw [h, hx] at this; cases this

theorem call_run : CallEv (call P ext) (fun n => callBy P ext (arun P ext n)) :=
  callBy_ev fun _ _ _ _ _ h => by
    obtain ⟨n, hn⟩ := run_iff.1 h
    exact ⟨n, fun m hm => arun_mono hm hn⟩

theorem call_of (n : Nat) : CallEv (callBy P ext (arun P ext n)) (fun _ => call P ext) :=
  callBy_ev (r2 := fun _ => run P ext) fun _ _ _ _ _ h => ⟨0, fun _ _ => run_iff.2 ⟨n, h⟩⟩

theorem run_region {fn : Func} {id : Nat} {ops : Array Oper} {draw : Bool} {k : List Item} {a : Fr} {H : Heap} :
    run P ext fn (.code (.region id ops draw) :: k) a H = (regionD P (call P ext) fn.ntmps ops draw a H).bind fun r => run P ext fn k r.1 r.2 := by
  cases hx : (regionD P (call P ext) fn.ntmps ops draw a H).bind fun r => run P ext fn k r.1 r.2 with
  | some r =>
    simp only [Option.bind_eq_some_iff] at hx
    obtain ⟨x, h1, h2⟩ := hx
    obtain ⟨n1, k1⟩ := regionD_ev call_run h1
    obtain ⟨n2, k2⟩ := run_iff.1 h2
    refine run_iff.2 ⟨max n1 n2 + 1, ?_⟩
    unfold arun
    simp only [k1 (max n1 n2) (by omega), Option.bind_some]
    exact arun_mono (by omega) k2
  | none =>
    cases hr : run P ext fn (.code (.region id ops draw) :: k) a H with
    | none => rfl
    | some r =>
      exfalso
      obtain ⟨n, hn⟩ := run_iff.1 hr
      have hn := arun_succ n hn
      unfold arun at hn
      simp only [Option.bind_eq_some_iff] at hn
      obtain ⟨x, h1, h2⟩ := hn
      obtain ⟨m, hm⟩ := regionD_ev (call_of n) h1
      rw [hm m (Nat.le_refl _)] at hx
      simp only [Option.bind_some] at hx
      rw [run_iff.2 ⟨n, h2⟩] at hx
      cases hx

theorem run_cond {fn : Func} {c : Operand} {x y : Code} {k : List Item} {a : Fr} {H : Heap} :
    run P ext fn (.code (.cond c x y) :: k) a H = (evo a c).bind fun v => condK v (run P ext fn (.code x :: k) a H) (run P ext fn (.code y :: k) a H) := by
  cases hv : evo a c with
  | none => exact run_ends fun n => by simp [arun, hv]
  | some v =>
    simp only [Option.bind_some]
    cases v with
    | bool b =>
      cases b
      · exact run_goes fun n => by simp [arun, hv, condK]
      · exact run_goes fun n => by simp [arun, hv, condK]
    | _ => exact run_ends fun n => by simp [arun, hv, condK]
end
end Go.Proofs.SakAm

namespace Go.Proofs.SakAm
set_option linter.unusedVariables false
set_option linter.unusedSimpArgs false
open Go
set_option linter.unusedSectionVars false
variable [Tabs]

section
variable {β : Type} {P : Program} {call : FuncId → List Value → Heap → Option (Value × Heap)}

theorem out_bind {x : Option Value} {H : Heap} {k : Value → Heap → Option β} : (x.bind fun v => k v H) = ((x.bind fun v => some (Out.val v H)).bind fun r => match r with | .val v H' => some (v, H') | .call f args => call f args H).bind fun r => k r.1 r.2 := by
  cases x <;> rfl
theorem out_heap {x : Option (Value × Heap)} {H : Heap} {k : Value → Heap → Option β} : (x.bind fun r => k r.1 r.2) = ((x.bind fun r => some (Out.val r.1 r.2)).bind fun r => match r with | .val v H' => some (v, H') | .call f args => call f args H).bind fun r => k r.1 r.2 := by
  cases x <;> rfl

theorem abuiltK_eq {H : Heap} {b : Builtin} {argTypes : Array TypeId} {args : List Value} {k : Value → Heap → Option β} :
    abuiltK P H b argTypes args k = ((abuilt P H b argTypes args).bind fun r => match r with | .val v H' => some (v, H') | .call f args => call f args H).bind fun r => k r.1 r.2 := by
  cases b with
  | len =>
    rcases args with _ | ⟨x, _ | ⟨y, r⟩⟩
    · rfl
    · simp only [abuiltK, abuilt]
      cases (argTypes[0]?).bind P.underlying with
      | none => rfl
      | some d => cases d <;> first | rfl | exact out_bind
    · rfl
  | append =>
    rcases args with _ | ⟨s, _ | ⟨x, _ | ⟨y, r⟩⟩⟩
    · rfl
    · rfl
    · simp only [abuiltK, abuilt]
      cases (argTypes[0]?).bind (elemOfT P) with
      | none => rfl
      | some e =>
        obtain ⟨e, n, y⟩ := e
        cases (argTypes[1]?).bind P.underlying with
        | none => rfl
        | some d => cases d <;> first | rfl | exact out_heap
    · rfl
  | max =>
    rcases args with _ | ⟨x, r⟩
    · rfl
    · exact out_bind
  | min =>
    rcases args with _ | ⟨x, r⟩
    · rfl
    · exact out_bind
  | complex =>
    rcases args with _ | ⟨s, _ | ⟨x, _ | ⟨y, r⟩⟩⟩ <;> first | rfl | exact out_bind
  | real =>
    rcases args with _ | ⟨s, _ | ⟨x, r⟩⟩ <;> first | rfl | exact out_bind
  | imag =>
    rcases args with _ | ⟨s, _ | ⟨x, r⟩⟩ <;> first | rfl | exact out_bind
  | _ => rfl

theorem obind_congr {α γ δ : Type} {x : Option α} {f : α → Option β} {g : α → Option γ} {h : γ → Option δ} {k : δ → Option β} (e : ∀ v, f v = ((g v).bind h).bind k) : x.bind f = ((x.bind g).bind h).bind k := by
  cases x with
  | none => rfl
  | some v => exact e v

theorem aopK_eq {a : Fr} {H : Heap} {nid : Option Nat} {op : Op} {k : Value → Heap → Option β} : aopK P call a H nid op k = (aopC P call a H nid op).bind fun r => k r.1 r.2 := by
  cases op with
  | move x => exact out_bind
  | assign x => exact out_bind
  | pick c x y => exact obind_congr fun v => obind_congr fun v => obind_congr fun v => out_bind
  | alloc t => exact obind_congr fun v => out_heap
  | box t x => exact obind_congr fun v => out_heap
  | build t ps =>
    simp only [aopK, aopC, aop]
    split
    · refine obind_congr fun v => obind_congr fun v => ?_
      generalize fillL _ _ = x
      cases x <;> rfl
    · rfl
  | buildSlice t n ps =>
    simp only [aopK, aopC, aop]
    refine obind_congr fun v => obind_congr fun v => ?_
    split
    · exact obind_congr fun v => obind_congr fun v => out_heap
    · rfl
  | load t x =>
    simp only [aopK, aopC, aop]
    refine obind_congr fun v => ?_
    cases szOf P t with
    | none => rfl
    | some s =>
      obtain ⟨g, n⟩ := s
      cases g <;> exact out_bind
  | store t x y =>
    simp only [aopK, aopC, aop]
    refine obind_congr fun v => obind_congr fun v => ?_
    cases szOf P t with
    | none => rfl
    | some s =>
      obtain ⟨g, n⟩ := s
      cases g with
      | true =>
        simp only
        generalize stA _ _ _ _ = x
        cases x <;> rfl
      | false =>
        rcases n with _ | _ | n
        · rfl
        · simp only
          generalize st1 _ _ _ = x
          cases x <;> rfl
        · rfl
  | nilCheck x => exact obind_congr fun v => out_bind
  | binOp op t x y u => exact obind_congr fun v => obind_congr fun v => out_bind
  | unOp op t x => exact obind_congr fun v => out_bind
  | convert s d x => exact obind_congr fun v => out_bind
  | makeFunc fn first captured =>
    cases fn with
    | func f =>
      simp only [aopK, aopC, aop]
      refine obind_congr fun v => ?_
      generalize evs _ _ = x
      cases x <;> rfl
    | _ => rfl
  | makeSlice t l c =>
    simp only [aopK, aopC, aop]
    refine obind_congr fun v => obind_congr fun v => obind_congr fun v => obind_congr fun u => ?_
    split
    · exact out_heap
    · rfl
  | slice t x lo hi mx =>
    cases mx with
    | some m => rfl
    | none =>
      simp only [aopK, aopC, aop]
      refine obind_congr fun v => obind_congr fun v => obind_congr fun v => ?_
      cases P.underlying t with
      | none => rfl
      | some d => cases d <;> first | rfl | exact out_bind | exact obind_congr fun v => out_bind
  | fieldAddr t x f =>
    simp only [aopK, aopC, aop]
    refine obind_congr fun v => ?_
    cases placeOf P t f with
    | none => rfl
    | some p =>
      obtain ⟨o, n⟩ := p
      cases n with
      | zero => rfl
      | succ n =>
        cases P.underlying t with
        | none => rfl
        | some d => cases d <;> first | rfl | exact out_bind
  | field t x f =>
    simp only [aopK, aopC, aop]
    refine obind_congr fun v => ?_
    cases P.underlying t with
    | none => rfl
    | some d =>
      cases d with
      | struct fs =>
        simp only
        generalize ((fs[f]?).bind fun f => (szOf P f.type).bind fun s => some (f.offset, s)) = x
        cases x with
        | none => rfl
        | some y => obtain ⟨o, g, n⟩ := y; exact out_bind
      | _ => rfl
  | indexAddr t x i =>
    simp only [aopK, aopC, aop]
    refine obind_congr fun v => obind_congr fun v => ?_
    cases P.underlying t with
    | none => rfl
    | some d => cases d <;> first | rfl | exact obind_congr fun v => out_bind
  | extract x i => exact obind_congr fun v => out_bind
  | call c =>
    simp only [aopK, aopC, aop]
    refine obind_congr fun v => ?_
    cases c.callee with
    | value x =>
      cases x with
      | func f => rfl
      | _ => exact obind_congr fun v => obind_congr fun v => rfl
    | builtin b => exact abuiltK_eq
    | _ => rfl
  | _ => rfl

theorem dstK_eq {nt : Nat} {a : Fr} {d : Option Tmp} {v : Value} {k : Fr → Option β} : dstK nt a d v k = (dst nt a d v).bind k := by
  cases d with
  | none => rfl
  | some d => simp only [dstK, dst]; split <;> rfl

theorem opK_eq {nt : Nat} {ops : Array Oper} {nid : Option Nat} {o : Oper} {a : Fr} {H : Heap} {k : Value → Fr → Heap → Option β} :
    opK P call nt ops nid o a H k = (opD P call nt ops nid o a H).bind fun r => k r.1 r.2.1 r.2.2 := by
  unfold opK opD
  cases o.guard with
  | none =>
    simp only
    rw [aopK_eq]
    simp only [dstK_eq, Option.bind_assoc, Option.bind_some]
  | some jw =>
    obtain ⟨j, want⟩ := jw
    simp only
    cases (ops[j]?).bind (·.dst) with
    | none => rfl
    | some g =>
      simp only [aopK_eq, dstK_eq, Option.bind_assoc, Option.bind_some]
      have : ∀ x : Option (Value × Heap), (x.bind fun r => some (r.1, r.2)) = x := fun x => by cases x <;> rfl
      rw [this]

theorem seqK_eq {nt : Nat} {ops : Array Oper} {k : Fr → Heap → Option β} : ∀ {l : List Oper} {a : Fr} {H : Heap}, seqK P call nt ops l a H k = (seqD P call nt ops l a H).bind fun r => k r.1 r.2
  | [], a, H => rfl
  | o :: l, a, H => by
    simp only [seqK, seqD, opK_eq, Option.bind_assoc]
    congr 1
    funext r
    exact seqK_eq

theorem ifD_bind {γ : Type} {c : Bool} {x : Option β} {f : β → Option γ} : ifD c (x.bind f) = (ifD c x).bind f := by
  unfold ifD; split <;> rfl

theorem drawK_eq {nt : Nat} {ops : Array Oper} {bs : List Nat} {base : Nat} {k : Fr → Heap → Option β} : ∀ {l : List Oper} {i : Nat} {a : Fr} {H : Heap} {past : List (Nat × Heap)} {reads : List Read},
    drawK P call nt ops bs base i l a H past reads k = (drawD P call nt ops bs base i l a H past reads).bind fun r => k r.1 r.2
  | [], i, a, H, past, reads => rfl
  | o :: l, i, a, H, past, reads => by
    simp only [drawK, drawD, opK_eq, Option.bind_assoc]
    congr 1
    funext r
    generalize kindOf o.op = kk
    rcases kk with _ | _ | _ | _ | kk
    · exact drawK_eq
    · show ifD _ _ = (ifD _ _).bind _
      rw [drawK_eq, ifD_bind]
    · exact drawK_eq
    · show ifD _ _ = (ifD _ _).bind _
      rw [drawK_eq, ifD_bind]
    · exact drawK_eq

theorem regionK_eq {nt : Nat} {ops : Array Oper} {draw : Bool} {a : Fr} {H : Heap} {k : Fr → Heap → Option β} : regionK P call nt ops draw a H k = (regionD P call nt ops draw a H).bind fun r => k r.1 r.2 := by
  unfold regionK regionD
  split
  · split
    · exact drawK_eq
    · rfl
  · exact seqK_eq
end

section
variable {P : Program} {ext : FuncId → List Value → Heap → Option (Value × Heap)}

theorem resK_eq {β : Type} {a : Fr} {H : Heap} : ∀ {l : List ResultVar} {k : List Value → Option β}, resK P a H l k = (resAll P a H l).bind k
  | [], k => rfl
  | .tmp t :: l, k => by simp only [resK, resAll, resOf, Option.bind_some, resK_eq, Option.bind_assoc]
  | .cell p t :: l, k => by
    simp only [resK, resAll, resOf, ldT]
    cases szOf P t with
    | none => rfl
    | some s =>
      obtain ⟨g, n⟩ := s
      cases g <;> simp only [resK_eq, Option.bind_assoc, Option.bind_some]

theorem retKK_eq {fn : Func} {a : Fr} {H : Heap} : (retKK P fn a H fun v H => some (v, H)) = retK P fn a H := by
  simp only [retKK, resK_eq, retK]

/-- Code as far as the next loop, or the next of the named regions, is what the run comes to. -/
theorem den_run (fn : Func) (stops : List Nat) : ∀ (n : Nat) (go : Bool) (items : List Item) (a : Fr) (H : Heap), den P (call P ext) (run P ext) fn stops n go items a H = run P ext fn items a H := by
  intro n
  induction n with
  | zero => intro go items a H; rfl
  | succ n ih =>
    intro go items a H
    unfold den
    split
    · rfl
    split
    · exact (run_ends fun n => by simp [arun, retKK_eq]).symm
    · exact (run_ends fun n => by simp [arun, retKK_eq]).symm
    · rw [ih]; exact (run_goes fun n => by simp [arun]).symm
    · rw [ih]; exact (run_goes fun n => by simp [arun]).symm
    · rw [ih]; exact (run_goes fun n => by simp [arun]).symm
    · rw [ih]; exact (run_goes fun n => by simp [arun]).symm
    · rw [ih]; exact (run_goes fun n => by simp [arun]).symm
    · simp only [ih]; exact run_cond.symm
    · rw [ih]; exact (run_goes fun n => by simp [arun]).symm
    · rename_i c k _
      rw [run_goes (items := .code (.loop c) :: k) (items' := .code c :: .inLoop c :: k) fun n => by simp [arun]]
      exact run_goes fun n => by simp [arun]
    · split
      · rw [ih]; exact (run_goes fun n => by simp [arun]).symm
      · rfl
    · rw [ih]; exact (run_goes fun n => by simp [arun]).symm
    · split
      · rename_i k' hk; rw [ih]; exact (run_goes fun n => by simp [arun, hk]).symm
      · rename_i hk; exact (run_ends fun n => by simp [arun, hk]).symm
    · split
      · rename_i k' hk; rw [ih]; exact (run_goes fun n => by simp [arun, hk]).symm
      · rename_i hk; exact (run_ends fun n => by simp [arun, hk]).symm
    · rw [regionK_eq, run_region]
      congr 1
      funext r
      exact ih _ _ _ _
    · rename_i h1 h2 h3 h4 h5 h6 h7 h8 h9 h10 h11 h12 h13 h14 h15
      refine (run_ends fun n => ?_).symm
      unfold arun
      split <;> first | rfl | (exfalso; first | exact h1 rfl | exact h2 _ rfl | exact h3 _ rfl | exact h4 _ _ rfl | exact h5 _ _ rfl | exact h6 _ _ rfl | exact h7 _ _ _ rfl | exact h8 _ _ _ _ rfl | exact h9 _ _ _ rfl | exact h10 _ _ rfl | exact h11 _ _ rfl | exact h12 _ _ rfl | exact h13 _ _ rfl | exact h14 _ _ rfl | exact h15 _ _ _ _ rfl)

theorem run_den {fn : Func} {items : List Item} {a : Fr} {H : Heap} {x : Option (Value × Heap)} (stops : List Nat) (h : den P (call P ext) (run P ext) fn stops 4000 true items a H = x) : run P ext fn items a H = x := by
  rw [← den_run fn stops 4000 true]; exact h

theorem call_den {f : FuncId} {args : List Value} {H : Heap} {fn : Func} {x : Option (Value × Heap)} (hb : bodyOf P f = some (fn, fn.body.getD .skip)) (hx : ∀ args H, ext f args H = none) (hl : decide (args.length ≤ fn.ntmps) = true) (stops : List Nat)
    (h : den P (call P ext) (run P ext) fn stops 4000 true [.code (fn.body.getD .skip)] (fr0 args) H = x) : call P ext f args H = x := by
  unfold call callBy
  rw [hx, hb]
  simp only
  rw [if_pos (of_decide_eq_true hl)]
  exact run_den stops h

theorem call_sound (hmix : P.follows .mixedOrders = true) (hext : CallSound P ext) (hover : CallOver ext) (hnone : ∀ E f args G, Disj E G → ext f args G = none → ext f args (over E G) = none) : CallSound P (call P ext) := by
  intro f args H v H' h
  obtain ⟨n, hn⟩ := call_run f args H _ h
  exact callBy_sound hext (arun_sound hmix hext hover hnone n) f args H v H' (hn n (Nat.le_refl _))
end
end Go.Proofs.SakAm

/-
  Calls whose answer is told beforehand: a closed call that was run once gives the same answer wherever it is made.
-/
namespace Go.Proofs.SakAm
set_option linter.unusedVariables false
set_option linter.unusedSimpArgs false
open Go
open Go.RowKit (Below)
set_option linter.unusedSectionVars false
variable [Tabs]

/-- What a table tells of the calls of no argument. -/
def told (ext : FuncId → List Value → Heap → Option (Value × Heap)) (tab : List (FuncId × Value)) (f : FuncId) (args : List Value) (H : Heap) : Option (Value × Heap) :=
  match tab.lookup f with
  | none => ext f args H
  | some v => if args.isEmpty then some (v, H) else none

/-- Nothing is told. -/
def mute : FuncId → List Value → Heap → Option (Value × Heap) := fun _ _ _ => none

section
variable {P : Program} {ext : FuncId → List Value → Heap → Option (Value × Heap)} {tab : List (FuncId × Value)}

theorem mute_sound : CallSound P mute := fun _ _ _ _ _ h => by cases h
theorem mute_over : CallOver mute := fun _ _ _ _ _ _ _ h => by cases h
theorem mute_none : ∀ E f args G, Disj E G → mute f args G = none → mute f args (over E G) = none := fun _ _ _ _ _ _ => rfl

theorem told_over (hover : CallOver ext) : CallOver (told ext tab) := by
  intro E f args G v G' D h
  unfold told at h ⊢
  split at h
  · exact hover E f args G v G' D h
  · split at h
    · rename_i hargs; cases h; rw [if_pos hargs]; exact ⟨rfl, D⟩
    · cases h

theorem told_none (hnone : ∀ E f args G, Disj E G → ext f args G = none → ext f args (over E G) = none) :
    ∀ E f args G, Disj E G → told ext tab f args G = none → told ext tab f args (over E G) = none := by
  intro E f args G D h
  unfold told at h ⊢
  split at h
  · exact hnone E f args G D h
  · split at h
    · cases h
    · rename_i hargs; rw [if_neg hargs]

/-- The empty heap is in any world. -/
theorem Rel.empty (φ : Nat → Place) (w : World) (hg : Tabs.good w.heap.size w) : Rel P w.heap.size w φ Heap.empty w :=
  ⟨Below.refl _ _, ⟨Nat.le_refl _, hg⟩, fun _ _ h => (nomatch h), fun _ _ _ _ h => (nomatch h)⟩

/-- A heap lies as it lay where nothing below the world's end has turned. -/
theorem Rel.below {B : Nat} {w0 w w' : World} {φ : Nat → Place} {H : Heap} (R : Rel P B w0 φ H w) (h : Below w.heap.size w w') : Rel P B w0 φ H w' := by
  refine ⟨R.bel.trans (h.mono R.size), R.base, fun i b hb => ?_, R.inj⟩
  obtain ⟨c, e, fz, h1, h2⟩ := R.cell i b hb
  have hlt : (φ i).at_ < w.heap.size := by
    rcases Nat.lt_or_ge (φ i).at_ w.heap.size with k | k
    · exact k
    · rw [Array.getElem?_eq_none k] at h1; cases h1
  exact ⟨c, e, fz, (h.block _ hlt).trans h1, h2⟩

theorem told_sound (hmix : P.follows .mixedOrders = true) (hext : CallSound P ext) (hover : CallOver ext) (hnone : ∀ E f args G, Disj E G → ext f args G = none → ext f args (over E G) = none)
    (ht : ∀ f v, tab.lookup f = some v → leaf v = true ∧ ∃ n, (callBy P ext (arun P ext n) f [] Heap.empty).map (·.1) = some v) : CallSound P (told ext tab) := by
  intro f args H v H' h
  unfold told at h
  split at h
  · exact hext f args H v H' h
  · rename_i u hu
    split at h
    · rename_i hargs
      cases h
      obtain ⟨hl, n, hn⟩ := ht f v hu
      simp only [Option.map_eq_some_iff] at hn
      obtain ⟨⟨v', H1⟩, hr, hv⟩ := hn
      cases hv
      obtain ⟨k1, k2⟩ := callBy_sound hext (arun_sound hmix hext hover hnone n) f [] Heap.empty v' H1 hr
      refine ⟨k1, fun B w0 φ w argsC R hlr => ?_⟩
      have he : args = [] := by simpa using hargs
      subst he
      have ha : argsC.toList = [] := by have := hlr.length; simpa using this.symm
      refine (k2 w.heap.size w φ w argsC (Rel.empty φ w (Tabs.keep R.base.2 R.base.1 R.bel)) (by rw [ha]; exact LRel.nil)).mono fun e w' hw => ?_
      obtain ⟨φ', u, rfl, r1, _, r3⟩ := hw
      obtain rfl := r3.leaf_inv hl
      exact ⟨φ, u, rfl, R.below r1.bel, Ext.refl _ _, VRel.plain (by cases u <;> simp_all [plain, leaf])⟩
    · cases h
end
end Go.Proofs.SakAm

/-
  What the small operations come to at values that are written out: the rules by which a chain is followed.
-/
namespace Go.Proofs.SakAm
set_option linter.unusedVariables false
set_option linter.unusedSimpArgs false
open Go
set_option linter.unusedSectionVars false
variable [Tabs]

section
variable {P : Program} {t : TypeId} {xo yo : Operand} {k : IntKind} {a b : Int}

@[simp] theorem abin_add : abin P .add t xo yo (.int k a) (.int k b) = some (.int k (k.wrap (a + b))) := by
  simp [abin, plain, leaf, onlyPlain, pureRun, eqGuard, binOp, Op.intArith, bind, Sem.bind, pure]
@[simp] theorem abin_sub : abin P .sub t xo yo (.int k a) (.int k b) = some (.int k (k.wrap (a - b))) := by
  simp [abin, plain, leaf, onlyPlain, pureRun, eqGuard, binOp, Op.intArith, bind, Sem.bind, pure]
@[simp] theorem abin_mul : abin P .mul t xo yo (.int k a) (.int k b) = some (.int k (k.wrap (a * b))) := by
  simp [abin, plain, leaf, onlyPlain, pureRun, eqGuard, binOp, Op.intArith, bind, Sem.bind, pure]
@[simp] theorem abin_eql : abin P .eql t xo yo (.int k a) (.int k b) = some (.bool (a == b)) := by
  simp [abin, plain, leaf, onlyPlain, pureRun, eqGuard, binOp, Op.intCmp, bind, Sem.bind, pure]
@[simp] theorem abin_neq : abin P .neq t xo yo (.int k a) (.int k b) = some (.bool (a != b)) := by
  simp [abin, plain, leaf, onlyPlain, pureRun, eqGuard, binOp, Op.intCmp, bind, Sem.bind, pure]
@[simp] theorem abin_lss : abin P .lss t xo yo (.int k a) (.int k b) = some (.bool (decide (a < b))) := by
  simp [abin, plain, leaf, onlyPlain, pureRun, eqGuard, binOp, Op.intCmp, bind, Sem.bind, pure]
@[simp] theorem abin_leq : abin P .leq t xo yo (.int k a) (.int k b) = some (.bool (decide (a ≤ b))) := by
  simp [abin, plain, leaf, onlyPlain, pureRun, eqGuard, binOp, Op.intCmp, bind, Sem.bind, pure]
@[simp] theorem abin_gtr : abin P .gtr t xo yo (.int k a) (.int k b) = some (.bool (decide (b < a))) := by
  simp [abin, plain, leaf, onlyPlain, pureRun, eqGuard, binOp, Op.intCmp, bind, Sem.bind, pure]
@[simp] theorem abin_geq : abin P .geq t xo yo (.int k a) (.int k b) = some (.bool (decide (b ≤ a))) := by
  simp [abin, plain, leaf, onlyPlain, pureRun, eqGuard, binOp, Op.intCmp, bind, Sem.bind, pure]
theorem abin_quo (h : b ≠ 0) : abin P .quo t xo yo (.int k a) (.int k b) = some (.int k (k.wrap (a.tdiv b))) := by
  simp [abin, plain, leaf, onlyPlain, pureRun, eqGuard, binOp, Op.intDiv, bind, Sem.bind, pure, h]
theorem abin_rem (h : b ≠ 0) : abin P .rem t xo yo (.int k a) (.int k b) = some (.int k (a.tmod b)) := by
  simp [abin, plain, leaf, onlyPlain, pureRun, eqGuard, binOp, Op.intDiv, bind, Sem.bind, pure, h]
theorem abin_shl {yk : IntKind} (h : 0 ≤ b) : abin P .shl t xo yo (.int k a) (.int yk b) = some (.int k (k.wrap (a * 2 ^ min b.toNat k.bits))) := by
  simp [abin, plain, leaf, onlyPlain, pureRun, eqGuard, binOp, Op.shift, bind, Sem.bind, pure, show ¬ b < 0 from by omega]
theorem abin_shr {yk : IntKind} (h : 0 ≤ b) : abin P .shr t xo yo (.int k a) (.int yk b) = some (.int k (a.fdiv (2 ^ min b.toNat k.bits))) := by
  simp [abin, plain, leaf, onlyPlain, pureRun, eqGuard, binOp, Op.shift, bind, Sem.bind, pure, show ¬ b < 0 from by omega]
@[simp] theorem abin_and : abin P .and t xo yo (.int k a) (.int k b) = some (.int k (k.wrap ((BitVec.ofInt k.bits a &&& BitVec.ofInt k.bits b).toNat))) := by
  simp [abin, plain, leaf, onlyPlain, pureRun, eqGuard, binOp, Op.intBits, bind, Sem.bind, pure]
@[simp] theorem abin_or : abin P .or t xo yo (.int k a) (.int k b) = some (.int k (k.wrap ((BitVec.ofInt k.bits a ||| BitVec.ofInt k.bits b).toNat))) := by
  simp [abin, plain, leaf, onlyPlain, pureRun, eqGuard, binOp, Op.intBits, bind, Sem.bind, pure]
@[simp] theorem abin_andNot : abin P .andNot t xo yo (.int k a) (.int k b) = some (.int k (k.wrap ((BitVec.ofInt k.bits a &&& ~~~BitVec.ofInt k.bits b).toNat))) := by
  simp [abin, plain, leaf, onlyPlain, pureRun, eqGuard, binOp, Op.intBits, bind, Sem.bind, pure]
@[simp] theorem aun_not {c : Bool} : aun P .not (.bool c) = some (.bool (!c)) := by
  simp [aun, plain, leaf, onlyPlain, pureRun, Op.unary, pure]
@[simp] theorem aun_neg : aun P .neg (.int k a) = some (.int k (k.wrap (0 - a))) := by
  simp [aun, plain, leaf, onlyPlain, pureRun, Op.unary, Op.intArith, pure]

/-- Is a type one of pointers? -/
def isPtr (P : Program) (t : TypeId) : Bool := match P.underlying t with | some (.pointer _) => true | _ => false
def isBool (P : Program) (t : TypeId) : Bool := match P.underlying t with | some .bool => true | _ => false
def isStr (P : Program) (t : TypeId) : Bool := match P.underlying t with | some .string => true | _ => false
def isInt (P : Program) (t : TypeId) (k : IntKind) : Bool := match P.underlying t with | some (.int k') => k == k' | _ => false

theorem pureRun_under {α : Type} {d : TypeDesc} (h : P.underlying t = some d) (f : TypeDesc → Sem α) : pureRun P (underlying t >>= f) = pureRun P (f d) := by
  simp [underlying, bind, Sem.bind, pureRun, program, h, pure]

theorem equal_nil {e : TypeId} (h : P.underlying t = some (.pointer e)) : ∀ (n : Nat) {q : Bool → Sem Value}, 0 < n → pureRun P ((Op.equalIn n t (.pointer none) (.pointer none)).bind q) = pureRun P (q true)
  | n + 1, q, _ => by
    unfold Op.equalIn
    simp [underlying, bind, Sem.bind, pureRun, program, h, pure]
theorem equal_bool {c d : Bool} (h : P.underlying t = some .bool) : ∀ (n : Nat) {q : Bool → Sem Value}, 0 < n → pureRun P ((Op.equalIn n t (.bool c) (.bool d)).bind q) = pureRun P (q (c == d))
  | n + 1, q, _ => by
    unfold Op.equalIn
    simp [underlying, bind, Sem.bind, pureRun, program, h, pure]

theorem abin_nil (h : isPtr P t = true) : abin P .eql t xo yo (.pointer none) (.pointer none) = some (.bool true) := by
  unfold isPtr at h
  split at h
  · rename_i e he
    simp only [abin, plain, leaf, Bool.and_self, if_true, eqGuard, binOp, bind, Sem.bind, pure]
    show onlyPlain (pureRun P ((Op.equalIn 10000 t (.pointer none) (.pointer none)).bind _)) = _
    rw [equal_nil he _ (by omega)]
    rfl
  · cases h
theorem abin_ptr (h : isPtr P t = true) {p : Addr} : abin P .eql t xo yo (.pointer (some p)) (.pointer none) = some (.bool false) := by
  unfold isPtr at h
  split at h
  · rename_i e he
    simp [abin, plain, leaf, aeq, he]
  · cases h
theorem abin_nnil (h : isPtr P t = true) : abin P .neq t xo yo (.pointer none) (.pointer none) = some (.bool false) := by
  unfold isPtr at h
  split at h
  · rename_i e he
    simp only [abin, plain, leaf, Bool.and_self, if_true, eqGuard, binOp, bind, Sem.bind, pure]
    show onlyPlain (pureRun P ((Op.equalIn 10000 t (.pointer none) (.pointer none)).bind _)) = _
    rw [equal_nil he _ (by omega)]
    rfl
  · cases h
theorem abin_nptr (h : isPtr P t = true) {p : Addr} : abin P .neq t xo yo (.pointer (some p)) (.pointer none) = some (.bool true) := by
  unfold isPtr at h
  split at h
  · rename_i e he
    simp [abin, plain, leaf, aeq, he]
  · cases h
theorem abin_beql (h : isBool P t = true) {c d : Bool} : abin P .eql t xo yo (.bool c) (.bool d) = some (.bool (c == d)) := by
  unfold isBool at h
  split at h
  · rename_i he
    simp only [abin, plain, leaf, Bool.and_self, if_true, eqGuard, binOp, bind, Sem.bind, pure]
    show onlyPlain (pureRun P ((Op.equalIn 10000 t (.bool c) (.bool d)).bind _)) = _
    rw [equal_bool he _ (by omega)]
    rfl
  · cases h
theorem abin_bneq (h : isBool P t = true) {c d : Bool} : abin P .neq t xo yo (.bool c) (.bool d) = some (.bool (c != d)) := by
  unfold isBool at h
  split at h
  · rename_i he
    simp only [abin, plain, leaf, Bool.and_self, if_true, eqGuard, binOp, bind, Sem.bind, pure]
    show onlyPlain (pureRun P ((Op.equalIn 10000 t (.bool c) (.bool d)).bind _)) = _
    rw [equal_bool he _ (by omega)]
    rfl
  · cases h
theorem aconv_int {s d : TypeId} {k' : IntKind} (hs : isInt P s k = true) (hd : isInt P d k' = true) : aconv P s d (.int k a) = some (.int k' (k'.wrap a)) := by
  unfold isInt at hs hd
  split at hs
  · rename_i k1 h1
    split at hd
    · rename_i k2 h2
      have e1 := eq_of_beq hs
      have e2 := eq_of_beq hd
      subst e1 e2
      simp only [aconv, leaf, if_true]
      unfold convert
      rw [pureRun_under h1, pureRun_under h2]
      rfl
    · cases hd
  · cases hs
end

section
variable {H : Heap} {b : Blk} {v : Value} {i o vr n : Nat}

@[simp] theorem gd_same {c : Bool} {x : Option (Value × Heap)} : gd (.bool c) c H x = x := by simp [gd]
@[simp] theorem gd_tf {x : Option (Value × Heap)} : gd (.bool true) false H x = some (undef, H) := by simp [gd]
@[simp] theorem gd_ft {x : Option (Value × Heap)} : gd (.bool false) true H x = some (undef, H) := by simp [gd]
theorem gd_bool {c w : Bool} {x : Option (Value × Heap)} : gd (.bool c) w H x = if c = w then x else some (undef, H) := rfl
@[simp] theorem apick_bool {c : Bool} {x y : Value} : apick (.bool c) x y = some (if c then x else y) := rfl
@[simp] theorem condK_bool {β : Type} {c : Bool} {x y : Option β} : condK (.bool c) x y = if c then x else y := by cases c <;> rfl
@[simp] theorem ifD_true {β : Type} {x : Option β} : ifD true x = x := rfl
@[simp] theorem nilc_ptr {p : Addr} : nilc (.pointer (some p)) = some (.pointer (some p)) := rfl
@[simp] theorem fadd_ptr {f : Nat} : fadd f (.pointer (some ⟨i, o, some vr⟩)) = some (.pointer (some ⟨i, o + f, some vr⟩)) := rfl
@[simp] theorem ld1_ptr : ld1 H (.pointer (some ⟨i, o, some vr⟩)) = (blk H i vr).bind fun b => b.cells[o]? := rfl
@[simp] theorem ldA_ptr : ldA H n (.pointer (some ⟨i, o, some vr⟩)) = (blk H i vr).bind fun b => if o + n ≤ b.cells.length then some (.agg ((b.cells.drop o).take n).toArray) else none := rfl
@[simp] theorem aext_tuple {xs : Array Value} : aext i (.tuple xs) = xs[i]? := rfl
@[simp] theorem cellsOf_agg {cs : Array Value} : cellsOf (.agg cs) = cs.toList := rfl
@[simp] theorem alen_slice {p : Option Addr} {l f : Nat} : alen (.slice p l f) = some (.int .i64 l) := rfl
@[simp] theorem one_int {k : IntKind} {z : Int} : one (.int k z) = true := rfl
@[simp] theorem one_bool {c : Bool} : one (.bool c) = true := rfl
@[simp] theorem one_ptr {p : Option Addr} : one (.pointer p) = true := rfl
@[simp] theorem one_slice {p : Option Addr} {l f : Nat} : one (.slice p l f) = true := rfl
@[simp] theorem one_str {s : ByteArray} : one (.string s) = true := rfl
@[simp] theorem one_cplx {fk : FloatKind} {x y : Nat} : one (.complex fk x y) = true := rfl
@[simp] theorem cellsOf_int {k : IntKind} {z : Int} : cellsOf (.int k z) = [.int k z] := rfl
@[simp] theorem cellsOf_bool {c : Bool} : cellsOf (.bool c) = [.bool c] := rfl
@[simp] theorem cellsOf_slice {p : Option Addr} {l f : Nat} : cellsOf (.slice p l f) = [.slice p l f] := rfl
@[simp] theorem cellsOf_ptr {p : Option Addr} : cellsOf (.pointer p) = [.pointer p] := rfl
@[simp] theorem cellsOf_str {s : ByteArray} : cellsOf (.string s) = [.string s] := rfl

@[simp] theorem new_next : (H.new b).next = H.next + 1 := rfl
@[simp] theorem upd_next : (H.upd i b).next = H.next := rfl
@[simp] theorem reserve_next {k : Nat} : (H.reserve k).next = H.next + k := rfl
theorem new_get {j : Nat} : (H.new b).get j = if j = H.next then some b else H.get j := rfl
@[simp] theorem new_self : (H.new b).get H.next = some b := by simp [new_get]
theorem new_old {j : Nat} (h : j < H.next) : (H.new b).get j = H.get j := by rw [new_get, if_neg (by omega)]
@[simp] theorem reserve_get {k j : Nat} : (H.reserve k).get j = H.get j := rfl
theorem upd_get {j : Nat} : (H.upd i b).get j = if j = i ∧ i < H.next then some b else H.get j := rfl
@[simp] theorem blk_new_self : blk (H.new b) H.next vr = if b.ver = vr then some b else none := by simp [blk]
theorem blk_new_old {j : Nat} (h : ¬ j = H.next) : blk (H.new b) j vr = blk H j vr := by simp [blk, new_get, h]
theorem blk_upd_self : blk (H.upd i b) i vr = if i < H.next then (if b.ver = vr then some b else none) else blk H i vr := by
  simp only [blk, upd_get, true_and]; split <;> simp
theorem blk_upd_other {j : Nat} (h : ¬ j = i) : blk (H.upd i b) j vr = blk H j vr := by simp [blk, upd_get, h]
@[simp] theorem blk_reserve {k j : Nat} : blk (H.reserve k) j vr = blk H j vr := rfl
theorem mkbox_none {t : TypeId} (h : (cellsOf v).all one = true) : mkbox H none t v = some (.pointer (some ⟨H.next, 0, some 0⟩), H.new { cells := cellsOf v, elem := t, ver := 0, ro := false }) := by
  simp [mkbox, h, mkAt]
end

/-- A heap that has only grown. -/
structure Grow (H H' : Heap) : Prop where
  next : H.next ≤ H'.next
  get : ∀ i, i < H.next → H'.get i = H.get i

theorem Grow.refl (H : Heap) : Grow H H := ⟨Nat.le_refl _, fun _ _ => rfl⟩
theorem Grow.trans {H H' H'' : Heap} (h : Grow H H') (k : Grow H' H'') : Grow H H'' :=
  ⟨Nat.le_trans h.next k.next, fun i hi => (k.get i (Nat.lt_of_lt_of_le hi h.next)).trans (h.get i hi)⟩
theorem Grow.new (H : Heap) (b : Blk) : Grow H (H.new b) := ⟨by simp, fun i hi => new_old hi⟩
theorem Grow.reserve (H : Heap) (k : Nat) : Grow H (H.reserve k) := ⟨by simp, fun _ _ => rfl⟩
theorem Grow.blk {H H' : Heap} (h : Grow H H') {i vr : Nat} {b : Blk} (hb : SakAm.blk H i vr = some b) : SakAm.blk H' i vr = some b := by
  obtain ⟨h1, h2⟩ := blk_eq hb
  simp [SakAm.blk, h.get i (Heap.lt_of_get h1), h1, h2]
end Go.Proofs.SakAm
