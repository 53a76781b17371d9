/-
  Configurations and their layouts, where the graph is one that may be.
-/
import Derived.Test.YtiehmpoanhacaaaDoorKConf
import Derived.Test.YtiehmpoanhacaaaDoorKGraph
import Derived.Test.YtiehmpoanhacaaaDoorNu
import Derived.Test.YtiehmpoanhacaaaDoorLy
set_option maxRecDepth 100000
set_option linter.unusedVariables false
set_option linter.unusedSimpArgs false
set_option maxHeartbeats 1000000
namespace Go.Proofs.YtiehmpoanhacaaaDoor
open Go Go.Proofs.SakAm
attribute [local congr] obind_c condK_c ifD_c

/-- A graph that may be: its check says so, wherever it is asked. -/
def GOk (K : Kept) (uv : Value) : Prop := ∀ (K' : Kept) (H : Heap) (L : List Asrt), K.le K' → Own K' H L → ∃ H', C F.graph_Check [uv] H = some (.int .i64 0, H') ∧ Own K' H' L

theorem GOk.mono {K K' : Kept} {uv : Value} (h : GOk K uv) (le : K.le K') : GOk K' uv := fun K2 H L l2 own => h K2 H L (le.trans l2) own

section
variable {K : Kept} {H : Heap} {L : List Asrt} {i : Nat} {t : TypeId} {c : Cf}

theorem cf_ld (own : Own K H (BoxA i t c.list :: L)) : ldA H 6 (.pointer (some ⟨i, 0, some 0⟩)) = some c.val := by
  simp [own.rd, Cf.list, Cf.val]

theorem cf_box (own : Own K H L) (c : Cf) (hu : one c.up = true) : ∃ i H', mkbox H none T.api_Conf c.val = some (.pointer (some ⟨i, 0, some 0⟩), H') ∧ Own K H' (BoxA i T.api_Conf c.list :: L) ∧ (ldA H' 6 (.pointer (some ⟨i, 0, some 0⟩)) = some c.val) := by
  obtain ⟨i, H', e, o⟩ := mkbox_own own T.api_Conf c.val c.list (by simp [Cf.val]) (by simp [Cf.list, hu])
  exact ⟨i, H', e, o, cf_ld o⟩

theorem bound_ok (own : Own K H L) (g : GoodC c) : ∃ H', C F.conf_bound [c.val] H = some (.bool false, H') ∧ Own K H' L := by
  obtain ⟨i, H1, e1, own1, _⟩ := cf_box own c g.up
  refine ⟨H1, ?_, own1.tl⟩
  have hc := g.cap.lt
  have h0 := g.p0
  have h1 := g.p1
  rw [F.conf_bound.e]
  have q1 : IntKind.wrap .i64 (c.prod + 2) = c.prod + 2 := wi _ (by omega) (by omega)
  have q2 : IntKind.wrap .u64 (c.prod + 2) = c.prod + 2 := wu64 _ (by omega) (by omega)
  have q3 : IntKind.wrap .u64 c.cap = c.cap := wu64 _ (by omega) (by omega)
  have q5 : 0 ≤ (c.prod + 2) * c.cap := Int.mul_nonneg (by omega) (by omega)
  have q6 : (c.prod + 2) * c.cap ≤ 6 * 64 := Int.mul_le_mul (by omega) (by omega) (by omega) (by omega)
  have q4 : IntKind.wrap .u64 ((c.prod + 2) * c.cap) = (c.prod + 2) * c.cap := wu64 _ (by omega) (by omega)
  rcases g.width with w | w
  · have w1 : IntKind.wrap .i64 (c.width - 1) = 31 := by rw [w]; exact wi 31 (by omega) (by omega)
    simp [e1, own1.rd, Cf.list, w1, abin_shl, IntKind.bits, q1, q2, q3, q4]
    rw [wu64 _ (by omega) (by omega)]; omega
  · have w1 : IntKind.wrap .i64 (c.width - 1) = 63 := by rw [w]; exact wi 63 (by omega) (by omega)
    simp [e1, own1.rd, Cf.list, w1, abin_shl, IntKind.bits, q1, q2, q3, q4]
    rw [wu64 _ (by omega) (by omega)]; omega

theorem check_ok (own : Own K H L) (g : GoodC c) (hg : GOk K c.up) : ∃ H', C F.conf_Check [c.val] H = some (.int .i64 0, H') ∧ Own K H' L := by
  obtain ⟨i, H1, e1, own1, _⟩ := cf_box own c g.up
  obtain ⟨H2, e2, own2⟩ := hg K H1 _ (.refl K) own1
  obtain ⟨H3, e3, own3⟩ := bound_ok own2 g
  refine ⟨H3, ?_, own3.tl⟩
  have hc := g.cap.lt
  have v0 := g.v0
  have v1 := g.v1
  have p0 := g.p0
  have p1 := g.p1
  have r1 := own1.rd
  have r3 := own3.rd
  have hl := cf_ld own2
  have run : ∀ a : Fr, a 1 = .pointer (some ⟨i, 0, some 0⟩) → R F.conf_Check.f F.conf_Check.b0 a H1 = some (.int .i64 0, H3) := by
    intro a h1
    rw [F.conf_Check.e0, h1]
    simp [-ldA_ptr, r1, Cf.list, e2, hl, e3, r3, show ¬ (64 < c.cap) from by omega]
  rw [F.conf_Check.e]
  by_cases ho : c.var = 1
  · have := g.one ho
    simp [e1, r1, Cf.list, ho, this, right_ok _ g.width, lapRight _ g.cap]
    refine run _ ?_; simp [put]
  · have hb : (c.var == 1) = false := by simp [ho]
    simp [e1, r1, Cf.list, hb, show ¬ (c.var < 1) from by omega, show ¬ (5 < c.var) from by omega, show ¬ (c.prod < 1) from by omega, show ¬ (4 < c.prod) from by omega, right_ok _ g.width, lapRight _ g.cap]
    refine run _ ?_; simp [put]

theorem start_ok (own : Own K H L) (g : GoodC c) (hg : GOk K c.up) : ∃ H', C F.conf_Start [c.val] H = some (.int .u64 (cutw c.width c.start), H') ∧ Own K H' L := by
  obtain ⟨i, H1, e1, own1, h1⟩ := cf_box own c g.up
  obtain ⟨H2, e2, own2⟩ := check_ok own1 g hg
  refine ⟨H2, ?_, own2.tl⟩
  rw [F.conf_Start.e]
  simp [-ldA_ptr, e1, h1, e2, own2.rd, Cf.list, cut_ok _ g.width g.start]
end

section
variable {K : Kept} {H : Heap} {L : List Asrt} {l : Ly} {r : Nat}

theorem first_ok (own : Own K H L) (g : GoodL l r) (hg : GOk K l.up) (c : Int) (h0 : 0 ≤ c) (h1 : c < l.slots) :
    ∃ H', C F.layout_Layout_First [l.val, .int .i64 c] H = some (.int .u64 (firstV l c), H') ∧ Own K H' L := by
  have hu : one l.up = true := g.c.up
  obtain ⟨s1, s2, s3, s4, s5, s6⟩ := g.slots
  have hr := g.r1
  obtain ⟨i, H1, e1, own1, b1⟩ := ly_box own l hu
  obtain ⟨H2, e2, own2⟩ := there own1 hu c
  have ht : (decide (0 < l.cells ∧ 0 ≤ c ∧ c < l.cells)) = true := by simp; omega
  rw [ht] at e2
  have cv : ldA H2 6 (.pointer (some ⟨i, 0, some 0⟩)) = some l.cf.val := by simp [own2.rd, Ly.list, Cf.val, Cf.list, Ly.cf]
  obtain ⟨H3, e3, own3⟩ := start_ok own2 g.c hg
  have b3 := ly_ld own3
  obtain ⟨H4, e4, own4⟩ := marked own3 hu c h0 (by omega) (by omega) (by omega)
  have r2 := own2.rd
  have r4 := own4.rd
  rw [F.layout_Layout_First.e]
  have n1 : ¬ l.slots ≤ c := by omega
  have cl : l.list = [.int .i64 l.var, .int .i64 l.width, .int .i64 l.cap, .int .i64 l.prod, .int .u64 l.start, l.up, .int .i64 l.cursor, .int .i64 l.claim, .int .i64 l.ticket, .int .i64 l.serving, .int .i64 l.next, .int .i64 l.marks, .int .i64 l.slots, .int .i64 l.cells] := rfl
  by_cases q1 : c = l.ticket
  · refine ⟨H2, ?_, own2.tl⟩
    have b0 : (c == l.ticket) = true := by simp [q1]
    rw [show firstV l c = 0 from if_pos (.inl q1)]
    simp [-ldA_ptr, e1, b1, e2, r2, cl, n1, b0]
  · have b0 : (c == l.ticket) = false := by simp [q1]
    by_cases q2 : c = l.serving
    · refine ⟨H2, ?_, own2.tl⟩
      have b2 : (c == l.serving) = true := by simp [q2]
      rw [show firstV l c = 0 from if_pos (.inr q2)]
      simp [-ldA_ptr, e1, b1, e2, r2, cl, n1, b0, b2]
    · have b2 : (c == l.serving) = false := by simp [q2]
      refine ⟨H4, ?_, own4.tl⟩
      have hcap : CapOk l.cap := g.c.cap
      have hcut : InR (kOf l.width) (cutw l.width l.start) := inR_cut g.c
      have hf : l.width = 32 ∨ l.width = 64 := g.c.width
      simp only [show l.cf.width = l.width from rfl, show l.cf.start = l.start from rfl] at e3
      have no : ¬ (c = l.ticket ∨ c = l.serving) := by simp [q1, q2]
      by_cases m : 0 ≤ l.marks ∧ l.marks ≤ c
      · have m' : (decide (0 ≤ l.marks ∧ l.marks ≤ c ∧ c < l.slots)) = true := by simp; omega
        rw [m'] at e4
        have k0 : 0 ≤ c - l.marks := by omega
        have k1 : c - l.marks < l.cap := by omega
        unfold firstV
        rw [if_neg no, if_pos m]
        generalize cutw l.width l.start = st at hcut e3
        rcases hf with w | w
        · simp only [kOf, w, if_true] at hcut ⊢
          have cv32 : IntKind.wrap .u32 st = st := hcut
          by_cases v : l.var = 4
          · have hb := (inR_first32 l.cap (c - l.marks) st).up
            have hb' : IntKind.wrap .u64 (lapFirst .u32 l.cap (c - l.marks) st) = _ := hb
            simp [-ldA_ptr, e1, b1, e2, r2, r4, cl, n1, b0, b2, cv, e3, b3, e4, w, v, cv32, lapFirst_u32 _ hcap k0 k1 hcut, hb']
          · have hb := (inR_ahead32 hcap (c - l.marks) st).up
            have hb' : IntKind.wrap .u64 (lapAhead .u32 l.cap (c - l.marks) st) = _ := hb
            simp [-ldA_ptr, e1, b1, e2, r2, r4, cl, n1, b0, b2, cv, e3, b3, e4, w, v, cv32, lapAhead_u32 _ hcap k0 k1 hcut, hb']
        · rw [show kOf l.width = .u64 from by simp [kOf, w]] at hcut ⊢
          by_cases v : l.var = 4
          · simp [-ldA_ptr, e1, b1, e2, r2, r4, cl, n1, b0, b2, cv, e3, b3, e4, w, v, lapFirst_u64 _ hcap k0 k1 hcut]
          · simp [-ldA_ptr, e1, b1, e2, r2, r4, cl, n1, b0, b2, cv, e3, b3, e4, w, v, lapAhead_u64 _ hcap k0 k1 hcut]
      · have m' : (decide (0 ≤ l.marks ∧ l.marks ≤ c ∧ c < l.slots)) = false := by simp; omega
        rw [m'] at e4
        unfold firstV
        rw [if_neg no, if_neg m]
        simp [-ldA_ptr, e1, b1, e2, r2, cl, n1, b0, b2, cv, e3, b3, e4]
end
end Go.Proofs.YtiehmpoanhacaaaDoor
