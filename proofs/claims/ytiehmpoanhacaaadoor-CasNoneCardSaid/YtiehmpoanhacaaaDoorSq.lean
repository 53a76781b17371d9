/-
  Sequencers as they are made; which calls may go on.
-/
import Derived.Test.YtiehmpoanhacaaaDoorKSeqcas
import Derived.Test.YtiehmpoanhacaaaDoorGt
import Derived.Test.YtiehmpoanhacaaaDoorEv
set_option maxRecDepth 100000
set_option linter.unusedVariables false
set_option linter.unusedSimpArgs false
set_option maxHeartbeats 400000
namespace Go.Proofs.YtiehmpoanhacaaaDoor
open Go Go.Proofs.SakAm
attribute [local congr] obind_c condK_c ifD_c

def ptr (i : Nat) : Value := .pointer (some ⟨i, 0, some 0⟩)

def OneA (k : IntKind) (ts : TypeId) (s b lg : Nat) (c : Cf) (ev : Value) (cur next least : Int) : Asrt := BoxA s ts ([ptr b, ptr lg] ++ c.list ++ [ev, .int .i64 cur, .int k next, .int k least])
def CasA (k : IntKind) (ts tw : TypeId) (s b lg : Nat) (c : Cf) (ev : Value) (claim : Int) (least : List Int) : Asrt := exA fun h : Hd =>
  packA [BoxA s ts ([ptr b, ptr lg] ++ c.list ++ [ev, .int .i64 claim, h.val]), SlA h tw 1 (least.map fun x => Value.int k x)]
def StpA (k : IntKind) (ts tw : TypeId) (s b lg : Nat) (l : Ly) (ev : Value) (least : List Int) : Asrt := exA fun h : Hd =>
  packA [BoxA s ts ([ptr b, ptr lg] ++ l.list ++ [ev, h.val]), SlA h tw 1 (least.map fun x => Value.int k x)]

section
variable {K : Kept} {H : Heap} {L : List Asrt} {k : IntKind} {ts tw : TypeId} {s b lg : Nat} {c : Cf} {l : Ly} {ev : Value} {claim : Int} {least : List Int} {B : Bd} {r : Nat} {es : List Int}

theorem cas_open (own : Own K H (CasA k ts tw s b lg c ev claim least :: L)) : ∃ h : Hd, Own K H (BoxA s ts ([ptr b, ptr lg] ++ c.list ++ [ev, .int .i64 claim, h.val]) :: SlA h tw 1 (least.map fun x => Value.int k x) :: L) := by
  obtain ⟨h, own⟩ := own.ex
  exact ⟨h, own.opn⟩
theorem cas_close {h : Hd} (own : Own K H (BoxA s ts ([ptr b, ptr lg] ++ c.list ++ [ev, .int .i64 claim, h.val]) :: SlA h tw 1 (least.map fun x => Value.int k x) :: L)) : Own K H (CasA k ts tw s b lg c ev claim least :: L) :=
  Own.toEx (A := fun h : Hd => packA [BoxA s ts ([ptr b, ptr lg] ++ c.list ++ [ev, .int .i64 claim, h.val]), SlA h tw 1 (least.map fun x => Value.int k x)]) h own.pack2
theorem stp_open (own : Own K H (StpA k ts tw s b lg l ev least :: L)) : ∃ h : Hd, Own K H (BoxA s ts ([ptr b, ptr lg] ++ l.list ++ [ev, h.val]) :: SlA h tw 1 (least.map fun x => Value.int k x) :: L) := by
  obtain ⟨h, own⟩ := own.ex
  exact ⟨h, own.opn⟩
theorem stp_close {h : Hd} (own : Own K H (BoxA s ts ([ptr b, ptr lg] ++ l.list ++ [ev, h.val]) :: SlA h tw 1 (least.map fun x => Value.int k x) :: L)) : Own K H (StpA k ts tw s b lg l ev least :: L) :=
  Own.toEx (A := fun h : Hd => packA [BoxA s ts ([ptr b, ptr lg] ++ l.list ++ [ev, h.val]), SlA h tw 1 (least.map fun x => Value.int k x)]) h own.pack2

theorem valEq_cf (hu : leafEq c.up c.up = true) : valEq c.val c.val = true := by
  simp only [valEq, Cf.val, Cf.list, leavesEq, leafEq_int, hu, Bool.and_self]

/-- What a sequencer's making begins with. -/
theorem seq_lay_u32 (own : Own K H (Bo_u32 b l B :: L)) (hu : one l.up = true) :
    ∃ i H1 H2 H3, C F.board_Board_Layout_u32 [ptr b] H = some (l.val, H1) ∧ mkbox H1 none T.layout_Layout (.agg z14.toArray) = some (ptr i, H2) ∧ stA H2 14 (ptr i) l.val = some H3 ∧ Own K H3 (BoxA i T.layout_Layout l.list :: Bo_u32 b l B :: L) := by
  obtain ⟨H1, e1, own1⟩ := blayout_u32 own hu
  obtain ⟨i, H2, e2, own2⟩ := mkbox_own own1 T.layout_Layout (.agg z14.toArray) z14 (by simp) (by simp [z14])
  obtain ⟨H3, e3, own3⟩ := stA_own own2 0 14 l.val l.list (by simp [Ly.val]) (by simp [Ly.list]) (by simp [z14]) (by simp [Ly.list, hu])
  rw [show splice z14 0 l.list = l.list from by simp [splice, z14, Ly.list]] at own3
  exact ⟨i, H1, H2, H3, e1, e2, e3, own3⟩

theorem may_seqcas_u32 {cells : List Value} {prod cap : Int} {fi : Nat} {ft : TypeId} {pre post : List Value} {f : Rg} (own : Own K H (BoxA s ts cells :: RgA .u32 fi ft pre f post :: L)) (h5 : cells[5]? = some (.int .i64 prod)) (h4 : cells[4]? = some (.int .i64 cap)) (t : Int) :
    C F.seqcas_Seq_may_u32 [ptr s, .int .i64 t, .pointer (some ⟨fi, pre.length, some 0⟩)] H = some (.bool (decide (0 ≤ t ∧ t < prod ∧ 1 ≤ f.n ∧ f.n ≤ cap)), H) := by
  have r := own.rd
  have rf := rg_ld (own.up 1) (m := 1) (v := .int .i64 f.n) rfl
  simp only [ld1_ptr] at rf
  rw [F.seqcas_Seq_may_u32.e]
  by_cases p1 : 0 ≤ t
  · by_cases p2 : t < prod
    · by_cases p3 : 1 ≤ f.n
      · by_cases p4 : f.n ≤ cap <;> simp -implicitDefEqProofs [ptr, r, h4, h5, rf, p1, p2, p3, p4]
      · simp -implicitDefEqProofs [ptr, r, h4, h5, rf, p1, p2, p3]
    · simp -implicitDefEqProofs [ptr, r, h4, h5, rf, p1, p2]
  · simp -implicitDefEqProofs [ptr, r, h4, h5, rf, p1]

theorem may_nos_seqcas_u32 (t : Int) (x : Value) (H : Heap) : C F.seqcas_Seq_may_u32 [.pointer none, .int .i64 t, x] H = some (.bool false, H) := by
  rw [F.seqcas_Seq_may_u32.e]
  simp -implicitDefEqProofs
theorem may_nof_seqcas_u32 (t : Int) (s : Nat) (H : Heap) : C F.seqcas_Seq_may_u32 [ptr s, .int .i64 t, .pointer none] H = some (.bool false, H) := by
  rw [F.seqcas_Seq_may_u32.e]
  simp -implicitDefEqProofs [ptr]

theorem new_not_seqcas_u32 (own : Own K H (Bo_u32 b l B :: L)) (hu : one l.up = true) (x : Value) (hv : l.var ≠ 2) : ∃ H', C F.seqcas_New_u32 [ptr b, x] H = some (.pointer none, H') ∧ Own K H' (Bo_u32 b l B :: L) := by
  obtain ⟨i, H1, H2, H3, e1, e2, e3, own3⟩ := seq_lay_u32 own hu
  have r3 := own3.rd
  refine ⟨H3, ?_, own3.tl⟩
  rw [F.seqcas_New_u32.e]
  simp only [z14, ptr] at e1 e2 e3 ⊢
  have hb : (l.var != 2) = true := by simp [hv]
  simp -implicitDefEqProofs [e1, e2, e3, r3, Ly.list, hb]
theorem new_loop_seqcas_u32 (g : GoodL l r) (hg : GOk K l.up) (hl : leafEq l.up l.up = true) (hw : kOf l.width = .u32) {i : Nat} {c : Cf} {claim : Int} :
    ∀ (n j : Nat), (j : Int) + n = l.prod → ∀ (H : Heap), Own K H (CasA .u32 T.seqcas_Seq_u32 T.uint32 s b lg c ev claim (List.replicate j (cutw l.width l.start)) :: BoxA i T.layout_Layout l.list :: L) →
      ∃ H', (∀ a : Fr, a 26 = .int .i64 j → a 25 = .int .i64 l.prod → a 6 = ptr s → a 5 = ptr i → R F.seqcas_New_u32.f F.seqcas_New_u32.b0 a H = some (ptr s, H')) ∧ Own K H' (CasA .u32 T.seqcas_Seq_u32 T.uint32 s b lg c ev claim (List.replicate l.prod.toNat (cutw l.width l.start)) :: L)
  | 0, j, hj, H, own => by
    refine ⟨H, fun a h26 h25 h6 h5 => ?_, ?_⟩
    · rw [F.seqcas_New_u32.e0, h26, h25, h6]
      simp -implicitDefEqProofs [show (j : Int) = l.prod from by omega]
    · rw [show l.prod.toNat = j from by omega]; exact (own.up 1).tl
  | n + 1, j, hj, H, own => by
    have hp1 : l.prod ≤ 4 := g.c.p1
    obtain ⟨h, own⟩ := cas_open own
    have own1 : Own K (H.reserve 14) (FreeA (H.next + 9) :: BoxA s T.seqcas_Seq_u32 ([ptr b, ptr lg] ++ c.list ++ [ev, .int .i64 claim, h.val]) :: SlA h T.uint32 1 ((List.replicate j (cutw l.width l.start)).map fun x => Value.int .u32 x) :: BoxA i T.layout_Layout l.list :: L) := own.reserve 14 [9] (by decide) (by decide)
    have r1 := (own1.up 1).rd
    have rl := (own1.up 3).rd
    have c1 : ldA (H.reserve 14) 6 (.pointer (some ⟨i, 0, some 0⟩)) = some l.cf.val := by simp [rl, Ly.list, Cf.val, Cf.list, Ly.cf]
    obtain ⟨H1, e1, own2⟩ := start_ok own1 g.c hg
    simp only [show l.cf.width = l.width from rfl, show l.cf.start = l.start from rfl] at e1
    have r2 := (own2.up 1).rd
    have hcut : InR .u32 (cutw l.width l.start) := hw ▸ inR_cut g.c
    have of1 := ofr_u32 H1 _ hcut
    obtain ⟨H2, e2, own3⟩ := mkrow_at own2 T.uint32 1 [.int .u32 (cutw l.width l.start)] rfl
    have own4 := own3.up 2
    have hln := own4.slen
    simp only [List.length_map, List.length_replicate, Nat.mul_one] at hln
    obtain ⟨h', H3, e3, hn, own5⟩ := append_own (m := 1) (bytes := 4) own4 (rowOf_row own3 (n := 1) (z := 1) rfl) rfl rfl (by omega) (by omega) (by omega)
    obtain ⟨H4, e4, own6⟩ := st1_own (own5.up 2) 10 h'.val (by simp [Cf.list]) (by simp)
    have own7 : Own K H4 (BoxA s T.seqcas_Seq_u32 ([ptr b, ptr lg] ++ c.list ++ [ev, .int .i64 claim, h'.val]) :: SlA h' T.uint32 1 ((List.replicate j (cutw l.width l.start)).map (fun x => Value.int .u32 x) ++ [.int .u32 (cutw l.width l.start)]) :: BoxA i T.layout_Layout l.list :: L) := (own6.up 2).tl
    rw [show (List.replicate j (cutw l.width l.start)).map (fun x => Value.int .u32 x) ++ [.int .u32 (cutw l.width l.start)] = (List.replicate (j + 1) (cutw l.width l.start)).map (fun x => Value.int .u32 x) from by simp [List.replicate_succ']] at own7
    have own8 := cas_close own7
    have hs1 : IntKind.wrap .i64 ((j : Int) + 1) = ((j + 1 : Nat) : Int) := by rw [wi _ (by omega) (by omega)]; omega
    have cfl : c.list = [.int .i64 c.var, .int .i64 c.width, .int .i64 c.cap, .int .i64 c.prod, .int .u64 c.start, c.up] := rfl
    obtain ⟨H', run, own'⟩ := new_loop_seqcas_u32 g hg hl hw n (j + 1) (by omega) H4 own8
    refine ⟨H', fun a h26 h25 h6 h5 => ?_, own'⟩
    rw [F.seqcas_New_u32.e0, h26, h25, h6, h5]
    simp only [ptr] at r1 r2 e1 e2 e3 e4 c1 run ⊢
    simp -implicitDefEqProofs [-ldA_ptr, show ((j : Int) < l.prod) from by omega, r1, cfl, c1, e1, r2, of1, reps, fillL, splice, e2, e3, e4, hs1]
    refine run _ ?_ ?_ ?_ ?_ <;> simp [put, h25, h6, h5, ptr]

theorem new_seqcas_u32 (own : Own K H (Bo_u32 b l B :: L)) (g : GoodL l r) (hl : leafEq l.up l.up = true) (hg : GOk K l.up) (he : EOk K l.up es) (hc : ∀ c, c ∈ es → 0 ≤ c ∧ c < r) (hcl : es.length ≤ 100) (hw : kOf l.width = .u32) (hv : l.var = 2) :
    ∃ s ev H' K', K.le K' ∧ C F.seqcas_New_u32 [ptr b, ptr lg] H = some (ptr s, H') ∧ Own K' H' (CasA .u32 T.seqcas_Seq_u32 T.uint32 s b lg l.cf ev l.claim (List.replicate l.prod.toNat (cutw l.width l.start)) :: Bo_u32 b l B :: L) ∧ RdSl K' ev 1 es.length (ints es) := by
  have hu : one l.up = true := g.c.up
  have hp0 : 1 ≤ l.prod := g.c.p0
  obtain ⟨i, H1, H2, H3, e1, e2, e3, own3⟩ := seq_lay_u32 own hu
  have r3 := own3.rd
  have own5 : Own K (H3.reserve 11) (FreeA (H3.next + 9) :: BoxA i T.layout_Layout l.list :: Bo_u32 b l B :: L) := own3.reserve 11 [9] (by decide) (by decide)
  have r5 := (own5.up 1).rd
  have b5 := ly_ld (own5.up 1)
  have c5 : ldA (H3.reserve 11) 6 (.pointer (some ⟨i, 0, some 0⟩)) = some l.cf.val := by simp [r5, Ly.list, Cf.val, Cf.list, Ly.cf]
  obtain ⟨ev, H6, K', le, e6, own6, rd⟩ := gateEnds_ok own5 g hl he hc hcl
  have r6 := (own6.up 1).rd
  have c6 : ldA H6 6 (.pointer (some ⟨i, 0, some 0⟩)) = some l.cf.val := by simp [r6, Ly.list, Cf.val, Cf.list, Ly.cf]
  have t6 : tells (some l.cf.val) l.cf.val = true := valEq_cf hl
  obtain ⟨H7, e7, own7⟩ := mkbox_at own6 T.seqcas_Seq_u32 (.agg ([ptr b, ptr lg] ++ l.cf.list ++ [ev, .int .i64 l.claim, Hd.nil.val]).toArray) ([ptr b, ptr lg] ++ l.cf.list ++ [ev, .int .i64 l.claim, Hd.nil.val]) (by simp) (by simp [ptr, Cf.list, rd.one]; exact hu)
  have r7 := (own7.up 1).rd
  have own8 : Own K' H7 (CasA .u32 T.seqcas_Seq_u32 T.uint32 (H3.next + 9) b lg l.cf ev l.claim (List.replicate 0 (cutw l.width l.start)) :: BoxA i T.layout_Layout l.list :: Bo_u32 b l B :: L) := cas_close (h := .nil) ((slnil own7 T.uint32 1).up 1)
  refine ⟨H3.next + 9, ev, ?_⟩
  obtain ⟨H8, hrun, own9⟩ := new_loop_seqcas_u32 (l := l) (r := r) g (hg.mono le) hl hw l.prod.toNat 0 (by omega) H7 own8
  refine ⟨H8, K', le, ?_, own9, rd⟩
  rw [F.seqcas_New_u32.e]
  have hcv : cellsOf l.cf.val = l.cf.list := by simp [Cf.val]
  have cfl : l.cf.list = [.int .i64 l.var, .int .i64 l.width, .int .i64 l.cap, .int .i64 l.prod, .int .u64 l.start, l.up] := rfl
  have hb : (l.var != 2) = false := by simp [hv]
  simp only [z14, ptr, cfl, List.cons_append, List.nil_append, Hd.val] at e1 e2 e3 e7 hrun ⊢
  have ly : l.list = [.int .i64 l.var, .int .i64 l.width, .int .i64 l.cap, .int .i64 l.prod, .int .u64 l.start, l.up, .int .i64 l.cursor, .int .i64 l.claim, .int .i64 l.ticket, .int .i64 l.serving, .int .i64 l.next, .int .i64 l.marks, .int .i64 l.slots, .int .i64 l.cells] := rfl
  simp -implicitDefEqProofs [-ldA_ptr, e1, e2, e3, r3, ly, hb, c5, b5, e6, c6, t6, r6, r5, fillL, splice, hcv, cfl, rd.cellsOf, e7, r7]
  refine hrun _ ?_ ?_ ?_ ?_ <;> simp [put]
end
end Go.Proofs.YtiehmpoanhacaaaDoor
