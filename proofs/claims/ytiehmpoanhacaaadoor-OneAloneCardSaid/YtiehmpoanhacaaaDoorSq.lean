/-
  Sequencers as they are made; which calls may go on.
-/
import Derived.Test.YtiehmpoanhacaaaDoorKSeqone
import Derived.Test.YtiehmpoanhacaaaDoorGt
import Derived.Test.YtiehmpoanhacaaaDoorEv
set_option maxRecDepth 100000
set_option linter.unusedVariables false
set_option linter.unusedSimpArgs false
set_option maxHeartbeats 400000
namespace Go.Proofs.YtiehmpoanhacaaaDoor
open Go Go.Proofs.SakAm
attribute [local congr] obind_c condK_c ifD_c

def ptr (i : Nat) : Value := .pointer (some ⟨i, 0, some 0⟩)

def OneA (k : IntKind) (ts : TypeId) (s b lg : Nat) (c : Cf) (ev : Value) (cur next least : Int) : Asrt := BoxA s ts ([ptr b, ptr lg] ++ c.list ++ [ev, .int .i64 cur, .int k next, .int k least])
def CasA (k : IntKind) (ts tw : TypeId) (s b lg : Nat) (c : Cf) (ev : Value) (claim : Int) (least : List Int) : Asrt := exA fun h : Hd =>
  packA [BoxA s ts ([ptr b, ptr lg] ++ c.list ++ [ev, .int .i64 claim, h.val]), SlA h tw 1 (least.map fun x => Value.int k x)]
def StpA (k : IntKind) (ts tw : TypeId) (s b lg : Nat) (l : Ly) (ev : Value) (least : List Int) : Asrt := exA fun h : Hd =>
  packA [BoxA s ts ([ptr b, ptr lg] ++ l.list ++ [ev, h.val]), SlA h tw 1 (least.map fun x => Value.int k x)]

section
variable {K : Kept} {H : Heap} {L : List Asrt} {k : IntKind} {ts tw : TypeId} {s b lg : Nat} {c : Cf} {l : Ly} {ev : Value} {claim : Int} {least : List Int} {B : Bd} {r : Nat} {es : List Int}

theorem cas_open (own : Own K H (CasA k ts tw s b lg c ev claim least :: L)) : ∃ h : Hd, Own K H (BoxA s ts ([ptr b, ptr lg] ++ c.list ++ [ev, .int .i64 claim, h.val]) :: SlA h tw 1 (least.map fun x => Value.int k x) :: L) := by
  obtain ⟨h, own⟩ := own.ex
  exact ⟨h, own.opn⟩
theorem cas_close {h : Hd} (own : Own K H (BoxA s ts ([ptr b, ptr lg] ++ c.list ++ [ev, .int .i64 claim, h.val]) :: SlA h tw 1 (least.map fun x => Value.int k x) :: L)) : Own K H (CasA k ts tw s b lg c ev claim least :: L) :=
  Own.toEx (A := fun h : Hd => packA [BoxA s ts ([ptr b, ptr lg] ++ c.list ++ [ev, .int .i64 claim, h.val]), SlA h tw 1 (least.map fun x => Value.int k x)]) h own.pack2
theorem stp_open (own : Own K H (StpA k ts tw s b lg l ev least :: L)) : ∃ h : Hd, Own K H (BoxA s ts ([ptr b, ptr lg] ++ l.list ++ [ev, h.val]) :: SlA h tw 1 (least.map fun x => Value.int k x) :: L) := by
  obtain ⟨h, own⟩ := own.ex
  exact ⟨h, own.opn⟩
theorem stp_close {h : Hd} (own : Own K H (BoxA s ts ([ptr b, ptr lg] ++ l.list ++ [ev, h.val]) :: SlA h tw 1 (least.map fun x => Value.int k x) :: L)) : Own K H (StpA k ts tw s b lg l ev least :: L) :=
  Own.toEx (A := fun h : Hd => packA [BoxA s ts ([ptr b, ptr lg] ++ l.list ++ [ev, h.val]), SlA h tw 1 (least.map fun x => Value.int k x)]) h own.pack2

theorem valEq_cf (hu : leafEq c.up c.up = true) : valEq c.val c.val = true := by
  simp only [valEq, Cf.val, Cf.list, leavesEq, leafEq_int, hu, Bool.and_self]

/-- What a sequencer's making begins with. -/
theorem seq_lay_u64 (own : Own K H (Bo_u64 b l B :: L)) (hu : one l.up = true) :
    ∃ i H1 H2 H3, C F.board_Board_Layout_u64 [ptr b] H = some (l.val, H1) ∧ mkbox H1 none T.layout_Layout (.agg z14.toArray) = some (ptr i, H2) ∧ stA H2 14 (ptr i) l.val = some H3 ∧ Own K H3 (BoxA i T.layout_Layout l.list :: Bo_u64 b l B :: L) := by
  obtain ⟨H1, e1, own1⟩ := blayout_u64 own hu
  obtain ⟨i, H2, e2, own2⟩ := mkbox_own own1 T.layout_Layout (.agg z14.toArray) z14 (by simp) (by simp [z14])
  obtain ⟨H3, e3, own3⟩ := stA_own own2 0 14 l.val l.list (by simp [Ly.val]) (by simp [Ly.list]) (by simp [z14]) (by simp [Ly.list, hu])
  rw [show splice z14 0 l.list = l.list from by simp [splice, z14, Ly.list]] at own3
  exact ⟨i, H1, H2, H3, e1, e2, e3, own3⟩

theorem may_seqone_u64 {cells : List Value} {prod cap : Int} {fi : Nat} {ft : TypeId} {pre post : List Value} {f : Rg} (own : Own K H (BoxA s ts cells :: RgA .u64 fi ft pre f post :: L)) (h5 : cells[5]? = some (.int .i64 prod)) (h4 : cells[4]? = some (.int .i64 cap)) (t : Int) :
    C F.seqone_Seq_may_u64 [ptr s, .int .i64 t, .pointer (some ⟨fi, pre.length, some 0⟩)] H = some (.bool (decide (0 ≤ t ∧ t < prod ∧ 1 ≤ f.n ∧ f.n ≤ cap)), H) := by
  have r := own.rd
  have rf := rg_ld (own.up 1) (m := 1) (v := .int .i64 f.n) rfl
  simp only [ld1_ptr] at rf
  rw [F.seqone_Seq_may_u64.e]
  by_cases p1 : 0 ≤ t
  · by_cases p2 : t < prod
    · by_cases p3 : 1 ≤ f.n
      · by_cases p4 : f.n ≤ cap <;> simp -implicitDefEqProofs [ptr, r, h4, h5, rf, p1, p2, p3, p4]
      · simp -implicitDefEqProofs [ptr, r, h4, h5, rf, p1, p2, p3]
    · simp -implicitDefEqProofs [ptr, r, h4, h5, rf, p1, p2]
  · simp -implicitDefEqProofs [ptr, r, h4, h5, rf, p1]

theorem may_nos_seqone_u64 (t : Int) (x : Value) (H : Heap) : C F.seqone_Seq_may_u64 [.pointer none, .int .i64 t, x] H = some (.bool false, H) := by
  rw [F.seqone_Seq_may_u64.e]
  simp -implicitDefEqProofs
theorem may_nof_seqone_u64 (t : Int) (s : Nat) (H : Heap) : C F.seqone_Seq_may_u64 [ptr s, .int .i64 t, .pointer none] H = some (.bool false, H) := by
  rw [F.seqone_Seq_may_u64.e]
  simp -implicitDefEqProofs [ptr]

theorem new_not_seqone_u64 (own : Own K H (Bo_u64 b l B :: L)) (hu : one l.up = true) (x : Value) (hv : l.var ≠ 1) : ∃ H', C F.seqone_New_u64 [ptr b, x] H = some (.pointer none, H') ∧ Own K H' (Bo_u64 b l B :: L) := by
  obtain ⟨i, H1, H2, H3, e1, e2, e3, own3⟩ := seq_lay_u64 own hu
  have r3 := own3.rd
  refine ⟨H3, ?_, own3.tl⟩
  rw [F.seqone_New_u64.e]
  simp only [z14, ptr] at e1 e2 e3 ⊢
  have hb : (l.var != 1) = true := by simp [hv]
  simp -implicitDefEqProofs [e1, e2, e3, r3, Ly.list, hb]
theorem new_seqone_u64 (own : Own K H (Bo_u64 b l B :: L)) (g : GoodL l r) (hl : leafEq l.up l.up = true) (hg : GOk K l.up) (he : EOk K l.up es) (hc : ∀ c, c ∈ es → 0 ≤ c ∧ c < r) (hcl : es.length ≤ 100) (hw : kOf l.width = .u64) (hv : l.var = 1) :
    ∃ s ev H' K', K.le K' ∧ C F.seqone_New_u64 [ptr b, ptr lg] H = some (ptr s, H') ∧ Own K' H' (OneA .u64 T.seqone_Seq_u64 s b lg l.cf ev l.cursor (cutw l.width l.start) (cutw l.width l.start) :: Bo_u64 b l B :: L) ∧ RdSl K' ev 1 es.length (ints es) := by
  have hu : one l.up = true := g.c.up
  obtain ⟨i, H1, H2, H3, e1, e2, e3, own3⟩ := seq_lay_u64 own hu
  have r3 := own3.rd
  have c3 : ldA H3 6 (.pointer (some ⟨i, 0, some 0⟩)) = some l.cf.val := by simp [r3, Ly.list, Cf.val, Cf.list, Ly.cf]
  obtain ⟨H4, e4, own4⟩ := start_ok own3 g.c hg
  have hcut : InR .u64 (cutw l.width l.start) := hw ▸ inR_cut g.c
  have e5 := ofr_u64 H4 _ hcut
  have own5 : Own K (H4.reserve 13) (FreeA (H4.next + 11) :: BoxA i T.layout_Layout l.list :: Bo_u64 b l B :: L) := own4.reserve 13 [11] (by decide) (by decide)
  have r5 := (own5.up 1).rd
  have b5 := ly_ld (own5.up 1)
  have c5 : ldA (H4.reserve 13) 6 (.pointer (some ⟨i, 0, some 0⟩)) = some l.cf.val := by simp [r5, Ly.list, Cf.val, Cf.list, Ly.cf]
  obtain ⟨ev, H6, K', le, e6, own6, rd⟩ := gateEnds_ok own5 g hl he hc hcl
  have r6 := (own6.up 1).rd
  have c6 : ldA H6 6 (.pointer (some ⟨i, 0, some 0⟩)) = some l.cf.val := by simp [r6, Ly.list, Cf.val, Cf.list, Ly.cf]
  have t6 : tells (some l.cf.val) l.cf.val = true := valEq_cf hl
  obtain ⟨H7, e7, own7⟩ := mkbox_at own6 T.seqone_Seq_u64 (.agg ([ptr b, ptr lg] ++ l.cf.list ++ [ev, .int .i64 l.cursor, .int .u64 (cutw l.width l.start), .int .u64 (cutw l.width l.start)]).toArray) ([ptr b, ptr lg] ++ l.cf.list ++ [ev, .int .i64 l.cursor, .int .u64 (cutw l.width l.start), .int .u64 (cutw l.width l.start)]) (by simp) (by simp [ptr, Cf.list, rd.one]; exact hu)
  refine ⟨H4.next + 11, ev, H7, K', le, ?_, (own7.up 1).tl, rd⟩
  rw [F.seqone_New_u64.e]
  have hcv : cellsOf l.cf.val = l.cf.list := by simp [Cf.val]
  have cfl : l.cf.list = [.int .i64 l.var, .int .i64 l.width, .int .i64 l.cap, .int .i64 l.prod, .int .u64 l.start, l.up] := rfl
  have hb : (l.var != 1) = false := by simp [hv]
  simp only [show l.cf.width = l.width from rfl, show l.cf.start = l.start from rfl] at e4
  simp only [z14, ptr, cfl, List.cons_append, List.nil_append] at e1 e2 e3 e7 ⊢
  have ly : l.list = [.int .i64 l.var, .int .i64 l.width, .int .i64 l.cap, .int .i64 l.prod, .int .u64 l.start, l.up, .int .i64 l.cursor, .int .i64 l.claim, .int .i64 l.ticket, .int .i64 l.serving, .int .i64 l.next, .int .i64 l.marks, .int .i64 l.slots, .int .i64 l.cells] := rfl
  simp -implicitDefEqProofs [-ldA_ptr, e1, e2, e3, r3, ly, hb, c3, e4, e5, c5, b5, e6, c6, t6, r6, r5, fillL, splice, hcv, cfl, rd.cellsOf, e7]

end
end Go.Proofs.YtiehmpoanhacaaaDoor
