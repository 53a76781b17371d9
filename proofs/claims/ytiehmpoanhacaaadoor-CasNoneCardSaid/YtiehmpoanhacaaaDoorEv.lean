/-
  A log of events without data.
-/
import Derived.Test.YtiehmpoanhacaaaDoorKEvent
import Derived.Test.YtiehmpoanhacaaaDoorAmC
set_option maxRecDepth 100000
set_option linter.unusedVariables false
set_option linter.unusedSimpArgs false
set_option maxHeartbeats 400000
namespace Go.Proofs.YtiehmpoanhacaaaDoor
open Go Go.Proofs.SakAm
attribute [local congr] obind_c condK_c ifD_c

/-- A log of these events. -/
def LogA (lg : Nat) (E : List Ev) : Asrt := exA fun x : Hd × List (Ev × Value) => andA (EvsOf E x.2) (packA [BoxA lg T.event_Log [x.1.val], SlA x.1 T.api_Event 7 (x.2.flatMap evCells)])

section
variable {K : Kept} {H : Heap} {L : List Asrt} {lg : Nat} {E : List Ev}

theorem log_open (own : Own K H (LogA lg E :: L)) : ∃ (h : Hd) (ps : List (Ev × Value)), EvsOf E ps ∧ Own K H (BoxA lg T.event_Log [h.val] :: SlA h T.api_Event 7 (ps.flatMap evCells) :: L) := by
  obtain ⟨x, own⟩ := own.ex
  obtain ⟨h1, own⟩ := own.and
  exact ⟨x.1, x.2, h1, own.opn⟩

theorem log_close {h : Hd} {ps : List (Ev × Value)} (he : EvsOf E ps) (own : Own K H (BoxA lg T.event_Log [h.val] :: SlA h T.api_Event 7 (ps.flatMap evCells) :: L)) : Own K H (LogA lg E :: L) :=
  Own.toEx (A := fun x : Hd × List (Ev × Value) => andA (EvsOf E x.2) (packA [BoxA lg T.event_Log [x.1.val], SlA x.1 T.api_Event 7 (x.2.flatMap evCells)])) (h, ps) (own.pack2.toAnd he)

theorem newLog (own : Own K H L) : ∃ lg H', C F.event_NewLog [] H = some (.pointer (some ⟨lg, 0, some 0⟩), H') ∧ Own K H' (LogA lg [] :: L) := by
  obtain ⟨i, H1, e1, own1⟩ := mkbox_own own T.event_Log (.agg #[.slice none 0 0]) [.slice none 0 0] rfl rfl
  refine ⟨i, H1, ?_, log_close (h := .nil) EvsOf.nil ((slnil own1 T.api_Event 7).up 1)⟩
  rw [F.event_NewLog.e]
  simp -implicitDefEqProofs [fillL, e1]

theorem copied_ok (own : Own K H L) (e : Ev) {d : Value} (hd : Emp d) :
    ∃ d' H', C F.event_copied [.agg (evCells (e, d)).toArray] H = some (.agg (evCells (e, d')).toArray, H') ∧ Emp d' ∧ Own K H' L := by
  have rd := hd.rd K 1
  obtain ⟨i1, H1, e1, own1⟩ := mkbox_own own T.api_Event (.agg (evCells (e, d)).toArray) (evCells (e, d)) (by simp) (by simp [evCells, rd.one])
  obtain ⟨i2, H2, e2, own2⟩ := mkbox_own own1 T.api_Event (.agg #[.int .i64 0, .int .i64 0, .int .i64 0, .int .i64 0, .int .u64 0, .int .i64 0, .slice none 0 0]) _ rfl rfl
  obtain ⟨j, H3, e3, own3⟩ := mkrow_own own2 T.int 0 [] rfl
  have r3 := (own3.up 2).rd
  have e4 := append_none (.blk j 0 0) H3 (e := T.int) (z := 1) (bytes := 8) (rd.row own3) rd.slen (by simp [Hd.n]) (by simp [Hd.n])
  have em : Emp (Hd.blk j 0 0).val := .blk j 0
  obtain ⟨H5, e5, own5⟩ := st1_own (own3.up 2) 6 (Hd.blk j 0 0).val (by simp [evCells]) (by simp)
  have own5' : Own K H5 (BoxA i1 T.api_Event (evCells (e, (Hd.blk j 0 0).val)) :: BoxA j T.int [] :: BoxA i2 T.api_Event [.int .i64 0, .int .i64 0, .int .i64 0, .int .i64 0, .int .u64 0, .int .i64 0, .slice none 0 0] :: L) := own5
  have r5 := own5'.rd
  obtain ⟨H6, e6, own6⟩ := stA_own (own5'.up 2) 0 7 (.agg (evCells (e, (Hd.blk j 0 0).val)).toArray) (evCells (e, (Hd.blk j 0 0).val)) (by simp) (by simp [evCells]) (by simp) (by simp [evCells])
  have own6' : Own K H6 (BoxA i2 T.api_Event (evCells (e, (Hd.blk j 0 0).val)) :: BoxA i1 T.api_Event (evCells (e, (Hd.blk j 0 0).val)) :: BoxA j T.int [] :: L) := own6
  have r6 := own6'.rd
  refine ⟨(Hd.blk j 0 0).val, H6, ?_, em, own6'.tl.tl.tl⟩
  rw [F.event_copied.e]
  simp only [evCells] at e1 e6 r3 r5 r6 ⊢
  have e4' : aappend H3 T.int 1 8 (.slice (some ⟨j, 0, some 0⟩) 0 1) d = some ((Hd.blk j 0 0).val, H3) := e4
  simp -implicitDefEqProofs [e1, e2, reps, fillL, e3, r3, e4', e5, r5, e6, r6]

theorem noted (own : Own K H (LogA lg E :: L)) (e : Ev) {d : Value} (hd : Emp d) (hlen : E.length ≤ 1000000) :
    ∃ H', C F.event_Log_Note [.pointer (some ⟨lg, 0, some 0⟩), .agg (evCells (e, d)).toArray] H = some (.tuple #[], H') ∧ Own K H' (LogA lg (E ++ [e]) :: L) := by
  have rd := hd.rd K 1
  obtain ⟨h, ps, he, own⟩ := log_open own
  obtain ⟨i1, H1, e1, own1⟩ := mkbox_own own T.api_Event (.agg (evCells (e, d)).toArray) (evCells (e, d)) (by simp) (by simp [evCells, rd.one])
  have own2 : Own K (H1.reserve 12) (FreeA (H1.next + 7) :: BoxA i1 T.api_Event (evCells (e, d)) :: BoxA lg T.event_Log [h.val] :: SlA h T.api_Event 7 (ps.flatMap evCells) :: L) := own1.reserve 12 [7] (by decide) (by decide)
  have r1 := (own2.up 1).rd
  have r2 := (own2.up 2).rd
  obtain ⟨d', H2, e2, hd', own3⟩ := copied_ok own2 e hd
  have r3 := (own3.up 2).rd
  obtain ⟨H3, e3, own4⟩ := mkrow_at own3 T.api_Event 1 (evCells (e, d')) (by simp [evCells, (hd'.rd K 1).one])
  have own5 := own4.up 3
  have hl := own5.slen
  rw [ev_len, he.length] at hl
  obtain ⟨h', H4, e4, hn, own6⟩ := append_own (m := 1) (bytes := 72) own5 (rowOf_row own4 (n := 1) (z := 7) rfl) rfl rfl (by omega) (by omega) (by omega)
  have hcat : ps.flatMap evCells ++ evCells (e, d') = (ps ++ [(e, d')]).flatMap evCells := by simp
  rw [hcat] at own6
  obtain ⟨H5, e5, own7⟩ := st1_own (own6.up 3) 0 h'.val (by simp) (by simp)
  refine ⟨H5, ?_, log_close (h := h') (he.snoc e hd') ((own7.up 3).tl.up 2).tl⟩
  rw [F.event_Log_Note.e]
  simp only [evCells] at e1 e2 e3 e4 r1 r2 r3 ⊢
  have one_d := rd.one
  have cd := rd.cellsOf
  simp -implicitDefEqProofs [e1, r1, r2, e2, r3, reps, fillL, splice, e3, e4, e5]

theorem logLen (own : Own K H (LogA lg E :: L)) : C F.event_Log_Len [.pointer (some ⟨lg, 0, some 0⟩)] H = some (.int .i64 E.length, H) := by
  obtain ⟨h, ps, he, own⟩ := log_open own
  have hl := (own.up 1).slen
  rw [ev_len, he.length] at hl
  rw [F.event_Log_Len.e]
  simp -implicitDefEqProofs [own.rd]
  omega
end
end Go.Proofs.YtiehmpoanhacaaaDoor
