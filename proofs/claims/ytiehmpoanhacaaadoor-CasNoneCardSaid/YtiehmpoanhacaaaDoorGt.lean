/-
  The ends of a graph, and their gates.
-/
import Derived.Test.YtiehmpoanhacaaaDoorKGate
import Derived.Test.YtiehmpoanhacaaaDoorNw
import Derived.Test.YtiehmpoanhacaaaDoorAmC
set_option maxRecDepth 100000
set_option linter.unusedVariables false
set_option linter.unusedSimpArgs false
set_option maxHeartbeats 400000
namespace Go.Proofs.YtiehmpoanhacaaaDoor
open Go Go.Proofs.SakAm
attribute [local congr] obind_c condK_c ifD_c

theorem list_call (g : Nat) (hg : g < 18446744073709551616) (H : Heap) : C F.group_Group_List [.int .u64 (g : Nat)] H = some (listRes T.int g H) := by
  have h0 : tab.lookup F.group_Group_List = none := by kernel_rfl
  refine call_ext (P := P) (ext := told ext0 tab) (told_ext h0 ?_)
  unfold ext0
  first | rw [listX_at hg H] | exact orX_left (listX_at hg H)

/-- The first numbers. -/
def rng (r : Nat) : List Int := (List.range r).map fun i : Nat => (i : Int)

/-- What the ends of a graph are, wherever it is asked. -/
def EOk (K : Kept) (uv : Value) (es : List Int) : Prop := ∀ (K' : Kept) (H : Heap) (L : List Asrt), K.le K' → Own K' H L →
  ∃ v H' K'', K'.le K'' ∧ C F.graph_Ends [uv] H = some (v, H') ∧ Own K'' H' L ∧ RdSl K'' v 1 es.length (ints es)

theorem EOk.mono {K K' : Kept} {uv : Value} {es : List Int} (h : EOk K uv es) (le : K.le K') : EOk K' uv es := fun K2 H L l2 own => h K2 H L (le.trans l2) own

section
variable {K : Kept} {H : Heap} {L : List Asrt} {uv : Value} {l : Ly} {r : Nat}

theorem full_ok (r : Nat) (h0 : 1 ≤ r) (h1 : r ≤ 6) (H : Heap) : C F.group_Full [.int .i64 r] H = some (.int .u64 ((2 ^ r - 1 : Nat) : Int), H) := by
  rw [F.group_Full.e]
  have : r = 1 ∨ r = 2 ∨ r = 3 ∨ r = 4 ∨ r = 5 ∨ r = 6 := by omega
  rcases this with rfl | rfl | rfl | rfl | rfl | rfl <;> simp [abin_shl, IntKind.bits, wrap64]

theorem els_full (r : Nat) (h0 : 1 ≤ r) (h1 : r ≤ 6) : els (2 ^ r - 1) 0 64 = List.range r := by
  have : r = 1 ∨ r = 2 ∨ r = 3 ∨ r = 4 ∨ r = 5 ∨ r = 6 := by omega
  rcases this with rfl | rfl | rfl | rfl | rfl | rfl <;> decide +kernel

theorem ends_run (own : Own K H L) {up : List (List Int)} (hu : UpIs K uv up) (he : ∀ l, l ∈ up → l = []) (h1 : 1 ≤ up.length) (h6 : up.length ≤ 6) :
    ∃ v H' K', K.le K' ∧ Own K' H' L ∧ RdSl K' v 1 (rng up.length).length (ints (rng up.length)) ∧
      ∀ (n i : Nat), i + n = up.length → ∀ a : Fr, a 16 = .int .i64 i → a 15 = .int .i64 up.length → a 14 = uv → a 3 = .int .u64 ((2 ^ up.length - 1 : Nat) : Int) →
        R F.graph_Ends.f F.graph_Ends.b0 a H = some (v, H') := by
  have hp : 2 ^ up.length ≤ 2 ^ 6 := Nat.pow_le_pow_right (by decide) h6
  have hp0 : 0 < 2 ^ up.length := Nat.pow_pos (by decide)
  have hc := list_call (2 ^ up.length - 1) (by omega) H
  have hel := els_full up.length h1 h6
  have hne : els (2 ^ up.length - 1) 0 64 ≠ [] := by rw [hel]; intro h; have := congrArg List.length h; rw [List.length_range] at this; simp only [List.length_nil] at this; omega
  unfold listRes at hc
  rw [if_neg hne, hel] at hc
  have own1 := own.new ⟨(List.range up.length).map (fun x : Nat => Value.int .i64 x), T.int, 0, false⟩
  have own2 : Own K _ (SlA (.blk H.next 0 up.length) T.int 1 (ints (rng up.length)) :: L) := Own.toSl (z := 1) (n := up.length) (by
    have : ints (rng up.length) = (List.range up.length).map (fun x : Nat => Value.int .i64 x) := by simp [ints, rng]
    rw [this]; exact own1) (by simp [ints, rng])
  obtain ⟨K', le, own3, rd⟩ := own2.freezeSl
  refine ⟨_, _, K', le, own3, by simpa [rng, Hd.n, Hd.val] using rd, ?_⟩
  intro n
  induction n with
  | zero =>
    intro i hi a h16 h15 h14 h3
    rw [F.graph_Ends.e0, h16, h15, h3]
    have : (i : Int) = up.length := by omega
    simp -implicitDefEqProofs [this, hc]
  | succ n ih =>
    intro i hi a h16 h15 h14 h3
    have hlt : i < up.length := by omega
    have hg : up[i]? = some [] := by rw [List.getElem?_eq_getElem hlt]; exact congrArg some (he _ (List.getElem_mem hlt))
    obtain ⟨w, g1, g2, g3⟩ := hu.get own hg
    have hs : IntKind.wrap .i64 ((i : Int) + 1) = ((i + 1 : Nat) : Int) := by rw [wi _ (by omega) (by omega)]; omega
    rw [F.graph_Ends.e0, h16, h15, h14]
    simp -implicitDefEqProofs [show ((i : Int) < (up.length : Int)) from by omega, g1, g2, g3.alen]
    rw [F.graph_Ends.e1]
    simp -implicitDefEqProofs [put, h16, hs]
    refine ih (i + 1) (by omega) _ ?_ ?_ ?_ ?_ <;> simp [put, h15, h14, h3]

theorem ends_nil {up : List (List Int)} (hu : UpIs K uv up) (he : ∀ l, l ∈ up → l = []) (h1 : 1 ≤ up.length) (h6 : up.length ≤ 6) : EOk K uv (rng up.length) := by
  intro K' H L le own
  have hu := hu.mono le
  obtain ⟨H1, e1, own1⟩ := gok_nil hu he h1 h6 K' H L (.refl _) own
  obtain ⟨v, H', K'', le2, own2, rd, run⟩ := ends_run own1 hu he h1 h6
  refine ⟨v, H', K'', le2, ?_, own2, rd⟩
  rw [F.graph_Ends.e]
  simp -implicitDefEqProofs [e1, hu.alen, full_ok up.length h1 h6]
  refine run up.length 0 (by omega) _ ?_ ?_ ?_ ?_ <;> simp [put]

theorem gates_loop (hu : one l.up = true) (hn : alen l.up = some (.int .i64 r)) (hm : 0 < l.cells) {cs : List Int} (hc : ∀ c, c ∈ cs → 0 ≤ c ∧ c < r) (hcl : cs.length ≤ 100) {v : Value} (rd : RdSl K v 1 cs.length (ints cs)) {i : Nat} :
    ∀ (n j : Nat), j + n = cs.length → ∀ (H : Heap) (o : Hd), Own K H (SlA o T.int 1 (ints (cs.take j)) :: BoxA i T.layout_Layout l.list :: L) → o.n = j →
      ∀ a : Fr, a 10 = .int .i64 j → a 9 = .int .i64 cs.length → a 8 = v → a 2 = .pointer (some ⟨i, 0, some 0⟩) → a 5 = o.val →
        ∃ (w : Value) (H' : Heap) (K' : Kept), K.le K' ∧ R F.gate_gates.f F.gate_gates.b0 a H = some (w, H') ∧ Own K' H' L ∧ RdSl K' w 1 cs.length (ints cs)
  | 0, j, hj, H, o, own, ho, a, h10, h9, h8, h2, h5 => by
    rw [F.gate_gates.e0, h10, h9, h5]
    obtain ⟨K', le, own', rd'⟩ := own.freezeSl
    have e : j = cs.length := by omega
    rw [ho, e, List.take_length] at rd'
    refine ⟨o.val, H, K', le, ?_, own'.tl, rd'⟩
    simp -implicitDefEqProofs [e]
  | n + 1, j, hj, H, o, own, ho, a, h10, h9, h8, h2, h5 => by
    have hlt : j < cs.length := by omega
    have hg : cs[j]? = some cs[j] := List.getElem?_eq_getElem hlt
    have hcj := hc _ (List.getElem_mem hlt)
    generalize hx : cs[j] = c at hg hcj
    obtain ⟨g1, g2⟩ := rd.geti own hg
    have b1 := ly_ld (own.up 1)
    obtain ⟨H1, e1, own1⟩ := gate_of own hu hn c
    have hin : (if 0 < l.cells ∧ 0 ≤ c ∧ c < r then c else -1) = c := if_pos ⟨hm, hcj⟩
    rw [hin] at e1
    obtain ⟨k, H2, e2, own2⟩ := mkrow_own own1 T.int 1 [.int .i64 c] rfl
    obtain ⟨o', H3, e3, ho', own3⟩ := append_own (m := 1) (bytes := 8) (own2.up 1) (rowOf_row own2 (n := 1) (z := 1) rfl) rfl rfl (by omega) (by omega) (by omega)
    have own4 := (own3.up 1).tl
    have htk : ints (cs.take j) ++ [.int .i64 c] = ints (cs.take (j + 1)) := by rw [List.take_add_one, hg]; simp [ints]
    rw [htk] at own4
    have hs : IntKind.wrap .i64 ((j : Int) + 1) = ((j + 1 : Nat) : Int) := by rw [wi _ (by omega) (by omega)]; omega
    rw [F.gate_gates.e0, h10, h9, h8, h2, h5]
    simp -implicitDefEqProofs [-ldA_ptr, show ((j : Int) < (cs.length : Int)) from by omega, g1, g2, b1, e1, reps, fillL, splice, e2, e3, hs]
    refine gates_loop hu hn hm hc hcl rd n (j + 1) (by omega) H3 o' own4 (by omega) _ ?_ ?_ ?_ ?_ ?_ <;> simp [put, h9, h8, h2, h5]

theorem gates_ok (own : Own K H L) (hu : one l.up = true) (hn : alen l.up = some (.int .i64 r)) (hm : 0 < l.cells) {cs : List Int} (hc : ∀ c, c ∈ cs → 0 ≤ c ∧ c < r) (hcl : cs.length ≤ 100) {v : Value} (rd : RdSl K v 1 cs.length (ints cs)) :
    ∃ (w : Value) (H' : Heap) (K' : Kept), K.le K' ∧ C F.gate_gates [l.val, v] H = some (w, H') ∧ Own K' H' L ∧ RdSl K' w 1 cs.length (ints cs) := by
  obtain ⟨i, H1, e1, own1, _⟩ := ly_box own l hu
  rw [F.gate_gates.e]
  simp -implicitDefEqProofs [e1, rd.alen]
  refine gates_loop hu hn hm hc hcl rd cs.length 0 (by omega) H1 .nil (by simpa [ints] using slnil own1 T.int 1) rfl _ ?_ ?_ ?_ ?_ ?_ <;> simp [put, Hd.val]

theorem valEq_ly (hu : leafEq l.up l.up = true) : valEq l.val l.val = true := by
  simp only [valEq, Ly.val, Ly.list, leavesEq, leafEq_int, hu, Bool.and_self]

theorem gateEnds_ok (own : Own K H L) (g : GoodL l r) (hl : leafEq l.up l.up = true) {es : List Int} (he : EOk K l.up es) (hc : ∀ c, c ∈ es → 0 ≤ c ∧ c < r) (hcl : es.length ≤ 100) :
    ∃ (w : Value) (H' : Heap) (K' : Kept), K.le K' ∧ C F.gate_Ends [l.val] H = some (w, H') ∧ Own K' H' L ∧ RdSl K' w 1 es.length (ints es) := by
  have hu : one l.up = true := g.c.up
  have hs := g.slots
  obtain ⟨i, H1, e1, own1, b1⟩ := ly_box own l hu
  have r1 := own1.rd
  obtain ⟨v, H2, K2, le2, e2, own2, rd2⟩ := he K H1 _ (.refl K) own1
  have b2 := ly_ld own2
  obtain ⟨w, H3, K3, le3, e3, own3, rd3⟩ := gates_ok own2 hu g.n (by omega) hc hcl rd2
  refine ⟨w, H3, K3, le2.trans le3, ?_, own3.tl, rd3⟩
  have hz : (l.cells == 0) = false := by simp; omega
  rw [F.gate_Ends.e]
  have hb : tells (some l.val) l.val = true := valEq_ly hl
  simp -implicitDefEqProofs [-ldA_ptr, e1, b1, r1, Ly.list, hz, e2, b2, hb, e3]
end
end Go.Proofs.YtiehmpoanhacaaaDoor
