/-
  A step of a scan.
-/
import Derived.Test.YtiehmpoanhacaaaDoorGt
import Derived.Test.YtiehmpoanhacaaaDoorAmC
set_option maxRecDepth 100000
set_option linter.unusedVariables false
set_option linter.unusedSimpArgs false
set_option maxHeartbeats 400000
namespace Go.Proofs.YtiehmpoanhacaaaDoor
open Go Go.Proofs.SakAm
attribute [local congr] obind_c condK_c ifD_c

section
variable {K : Kept} {H : Heap} {L : List Asrt} {b : Nat} {l : Ly} {B : Bd} {fi : Nat} {ft : TypeId} {pre post : List Value} {f : Rg} {cv : Value} {cs : List Int}
theorem scan_no_b_u64 (t : Int) (cv x : Value) (H : Heap) : C F.gate_Scan_u64 [.pointer none, .int .i64 t, cv, x] H = some (.bool true, H) := by
  rw [F.gate_Scan_u64.e]
  simp -implicitDefEqProofs
theorem scan_no_f_u64 (b : Nat) (t : Int) (cv : Value) (H : Heap) : C F.gate_Scan_u64 [.pointer (some ⟨b, 0, some 0⟩), .int .i64 t, cv, .pointer none] H = some (.bool true, H) := by
  rw [F.gate_Scan_u64.e]
  simp -implicitDefEqProofs

theorem scan_out_u64 (own : Own K H (RgA .u64 fi ft pre f post :: L)) {n : Nat} (hn : alen cv = some (.int .i64 n)) (t : Int) (hi : f.i < 0 ∨ (n : Int) ≤ f.i) :
    ∃ H', C F.gate_Scan_u64 [.pointer (some ⟨b, 0, some 0⟩), .int .i64 t, cv, .pointer (some ⟨fi, pre.length, some 0⟩)] H = some (.bool true, H') ∧ Own K H' (RgA .u64 fi ft pre { f with i := 0 } post :: L) := by
  have r4 := rg_ld own (m := 4) (v := .int .i64 f.i) rfl
  obtain ⟨H1, e1, own1⟩ := rg_st own 4 (.int .i64 0) { f with i := 0 } (by omega) rfl rfl
  refine ⟨H1, ?_, own1⟩
  rw [F.gate_Scan_u64.e]
  by_cases p : f.i < 0
  · simp -implicitDefEqProofs [-ld1_ptr, r4, hn, p, e1]
  · have p2 : (n : Int) ≤ f.i := by omega
    simp -implicitDefEqProofs [-ld1_ptr, r4, hn, p, p2, e1]

theorem scan_in_u64 (own : Own K H (Bo_u64 b l B :: RgA .u64 fi ft pre f post :: L)) (rd : RdSl K cv 1 cs.length (ints cs)) (hu : one l.up = true) (ok : B.Ok .u64) (hlog : B.log.length ≤ 1000000) (t : Int)
    (h0 : 0 ≤ f.i) (h1 : f.i < cs.length) (hcs : cs.length ≤ 1000) (hc : 0 ≤ at_ cs f.i ∧ at_ cs f.i < B.has.length ∧ l.kind (at_ cs f.i) = 1) :
    ∃ H', C F.gate_Scan_u64 [.pointer (some ⟨b, 0, some 0⟩), .int .i64 t, cv, .pointer (some ⟨fi, pre.length, some 0⟩)] H = some (.bool (scanP .u64 B t cs f).2.2, H') ∧
      Own K H' (Bo_u64 b l (scanP .u64 B t cs f).1 :: RgA .u64 fi ft pre (scanP .u64 B t cs f).2.1 post :: L) := by
  have r4 := rg_ld (own.up 1) (m := 4) (v := .int .i64 f.i) rfl
  have hg : (ints cs)[f.i.toNat]? = some (.int .i64 (at_ cs f.i)) := map_at h0 h1
  have g1 := rd.sadd (k := .i64) h0 (by omega)
  have g2 := rd.ld1 own (j := f.i.toNat) (by omega) (by omega)
  rw [Nat.mul_one, hg] at g2
  obtain ⟨H1, e1, own1⟩ := load_u64 own hu ok t (at_ cs f.i) hc.2.2 hc.1 hc.2.1 hlog
  have own1f := own1.up 1
  have s4 := rg_ld own1f (m := 4) (v := .int .i64 f.i) rfl
  have s7 := rg_ld own1f (m := 7) (v := .int .u64 f.mn) rfl
  generalize hv : at_ B.has (at_ cs f.i) = v at *
  have n0 : ¬ f.i < 0 := by omega
  have n1 : ¬ (cs.length : Int) ≤ f.i := by omega
  have hs1 : IntKind.wrap .i64 (f.i + 1) = f.i + 1 := wi _ (by omega) (by omega)
  -- the rest, from a register on
  have tail : ∀ (H : Heap) (f1 : Rg), f1.i = f.i → Own K H (RgA .u64 fi ft pre f1 post :: Bo_u64 b l (B.look t 1 (at_ cs f.i)) :: L) →
      ∃ H', (∀ a : Fr, a 3 = .pointer (some ⟨fi, pre.length, some 0⟩) → a 2 = cv → R F.gate_Scan_u64.f F.gate_Scan_u64.b0 a H = some (.bool (decide ((cs.length : Int) ≤ f.i + 1)), H')) ∧
        Own K H' (RgA .u64 fi ft pre (if f.i + 1 < (cs.length : Int) then { f1 with i := f.i + 1 } else { f1 with i := 0 }) post :: Bo_u64 b l (B.look t 1 (at_ cs f.i)) :: L) := by
    intro H f1 hf own
    have t4 := rg_ld own (m := 4) (v := .int .i64 f1.i) rfl
    rw [hf] at t4
    obtain ⟨H2, e2, own2⟩ := rg_st own 4 (.int .i64 (f.i + 1)) { f1 with i := f.i + 1 } (by omega) rfl rfl
    have t4' := rg_ld own2 (m := 4) (v := .int .i64 (f.i + 1)) rfl
    by_cases p : f.i + 1 < (cs.length : Int)
    · refine ⟨H2, fun a h3 h2 => ?_, by rw [if_pos p]; exact own2⟩
      rw [F.gate_Scan_u64.e0, h3, h2]
      simp -implicitDefEqProofs [-ld1_ptr, t4, hs1, e2, t4', rd.alen, p, show ¬ (cs.length : Int) ≤ f.i + 1 from by omega]
    · obtain ⟨H3, e3, own3⟩ := rg_st own2 4 (.int .i64 0) { f1 with i := 0 } (by omega) rfl rfl
      refine ⟨H3, fun a h3 h2 => ?_, by rw [if_neg p]; exact own3⟩
      rw [F.gate_Scan_u64.e0, h3, h2]
      simp -implicitDefEqProofs [-ld1_ptr, t4, hs1, e2, t4', rd.alen, p, e3, show (cs.length : Int) ≤ f.i + 1 from by omega]
  have hout : ¬ (f.i < 0 ∨ (cs.length : Int) ≤ f.i) := by omega
  by_cases p : f.i = 0 ∨ wdiff .u64 v f.mn < 0
  · obtain ⟨H2, e2, own2⟩ := rg_st own1f 7 (.int .u64 v) { f with mn := v } (by omega) rfl rfl
    obtain ⟨H3, run, own3⟩ := tail H2 { f with mn := v } rfl own2
    refine ⟨H3, ?_, ?_⟩
    · have hsc : (scanP .u64 B t cs f).2.2 = decide ((cs.length : Int) ≤ f.i + 1) := by
        unfold scanP; rw [if_neg hout]; simp only; split <;> simp <;> omega
      rw [hsc, F.gate_Scan_u64.e]
      by_cases p0 : f.i = 0
      · have pb : (f.i == 0) = true := by simp [p0]
        simp -implicitDefEqProofs [-ld1_ptr, r4, rd.alen, n0, n1, g1, g2, e1, s4, pb, e2]
        refine run _ ?_ ?_ <;> simp [put, fr0]
      · have pb : (f.i == 0) = false := by simp [p0]
        have pw : wdiff .u64 v f.mn < 0 := by omega
        simp -implicitDefEqProofs [-ld1_ptr, r4, rd.alen, n0, n1, g1, g2, e1, s4, s7, pb, less_u64, pw, e2]
        refine run _ ?_ ?_ <;> simp [put, fr0]
    · have hsb : (scanP .u64 B t cs f).1 = B.look t 1 (at_ cs f.i) := by unfold scanP; rw [if_neg hout]; simp only; split <;> rfl
      have hsf : (scanP .u64 B t cs f).2.1 = (if f.i + 1 < (cs.length : Int) then { ({ f with mn := v } : Rg) with i := f.i + 1 } else { ({ f with mn := v } : Rg) with i := 0 }) := by
        unfold scanP; rw [if_neg hout]; simp only [hv, if_pos p]; split <;> rfl
      rw [hsb, hsf]; exact own3.up 1
  · obtain ⟨H3, run, own3⟩ := tail H1 f rfl own1f
    refine ⟨H3, ?_, ?_⟩
    · have hsc : (scanP .u64 B t cs f).2.2 = decide ((cs.length : Int) ≤ f.i + 1) := by
        unfold scanP; rw [if_neg hout]; simp only; split <;> simp <;> omega
      rw [hsc, F.gate_Scan_u64.e]
      have pb : (f.i == 0) = false := by simp; omega
      have pw : ¬ wdiff .u64 v f.mn < 0 := by omega
      simp -implicitDefEqProofs [-ld1_ptr, r4, rd.alen, n0, n1, g1, g2, e1, s4, s7, pb, less_u64, pw]
      refine run _ ?_ ?_ <;> simp [put, fr0]
    · have hsb : (scanP .u64 B t cs f).1 = B.look t 1 (at_ cs f.i) := by unfold scanP; rw [if_neg hout]; simp only; split <;> rfl
      have hsf : (scanP .u64 B t cs f).2.1 = (if f.i + 1 < (cs.length : Int) then { f with i := f.i + 1 } else { f with i := 0 }) := by
        unfold scanP; rw [if_neg hout]; simp only [hv, if_neg p]; split <;> rfl
      rw [hsb, hsf]; exact own3.up 1
end
end Go.Proofs.YtiehmpoanhacaaaDoor
