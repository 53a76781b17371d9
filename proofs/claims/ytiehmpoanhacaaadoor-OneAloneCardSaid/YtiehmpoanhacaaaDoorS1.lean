/-
  The sequencer of one producer: its calls, as functions of plain data.
-/
import Derived.Test.YtiehmpoanhacaaaDoorLa
import Derived.Test.YtiehmpoanhacaaaDoorSc
import Derived.Test.YtiehmpoanhacaaaDoorAmC
set_option maxRecDepth 100000
set_option linter.unusedVariables false
set_option linter.unusedSimpArgs false
set_option maxHeartbeats 400000
namespace Go.Proofs.YtiehmpoanhacaaaDoor
open Go Go.Proofs.SakAm
attribute [local congr] obind_c condK_c ifD_c

/-- An event's value, without data. -/
def evV (e : Ev) : Value := .agg (evCells (e, .slice none 0 0)).toArray

section
variable {K : Kept} {H : Heap} {L : List Asrt} {s b lg fi : Nat} {cv : Cf} {ev : Value} {l : Ly} {S : Sq} {ft : TypeId} {pre post : List Value} {f : Rg} {es : List Int}
/-- What a sequencer of one producer works on. -/
abbrev Sy1_u64 (s b lg : Nat) (cv : Cf) (ev : Value) (l : Ly) (S : Sq) (fi : Nat) (ft : TypeId) (pre : List Value) (f : Rg) (post : List Value) (L : List Asrt) : List Asrt :=
  OneA .u64 T.seqone_Seq_u64 s b lg cv ev l.cursor S.next (at_ S.least 0) :: Bo_u64 b l S.bd :: LogA lg S.ev :: RgA .u64 fi ft pre f post :: L

theorem gfits_u64 (H : Heap) (cap fr n least : Int) : C F.gate_Fits_u64 [.int .i64 cap, .int .u64 fr, .int .i64 n, .int .u64 least] H = some (.bool (fitsP .u64 cap fr n least), H) := by
  rw [F.gate_Fits_u64.e]
  simp -implicitDefEqProofs [add_u64, diff_u64, fitsP]

theorem fits1_u64 (own : Own K H (Sy1_u64 s b lg cv ev l S fi ft pre f post L)) : C F.seqone_Seq_fits_u64 [ptr s, .pointer (some ⟨fi, pre.length, some 0⟩)] H = some (.bool (fitsP .u64 cv.cap f.fr f.n (at_ S.least 0)), H) := by
  have s4 := box_ld (m := 4) own rfl
  have s11 := box_ld (m := 11) own rfl
  have f1 := rg_ld (own.up 3) (m := 1) (v := .int .i64 f.n) rfl
  have f6 := rg_ld (own.up 3) (m := 6) (v := .int .u64 f.fr) rfl
  rw [F.seqone_Seq_fits_u64.e]
  simp -implicitDefEqProofs [-ld1_ptr, ptr, s4, s11, f1, f6, gfits_u64]

theorem grant1_u64 (own : Own K H (Sy1_u64 s b lg cv ev l S fi ft pre f post L)) (hev : S.ev.length ≤ 999999) (t : Int) (hf : InR .u64 f.fr) :
    ∃ H', (∀ a : Fr, a 0 = ptr s → a 1 = .int .i64 t → a 2 = .pointer (some ⟨fi, pre.length, some 0⟩) → R F.seqone_Seq_Claim_u64.f F.seqone_Seq_Claim_u64.b1 a H = some (.bool true, H')) ∧
      Own K H' (Sy1_u64 s b lg cv ev l ({ S with next := wadd .u64 S.next f.n, ev := S.ev ++ [⟨3, t, f.n, f.fr⟩] ++ [⟨4, t, 0, 0⟩] } : Sq) fi ft pre { f with pc := 0 } post L) := by
  have s10 := box_ld (m := 10) own rfl
  have f1 := rg_ld (own.up 3) (m := 1) (v := .int .i64 f.n) rfl
  obtain ⟨H1, e1, own1⟩ := st1_own own 10 (.int .u64 (wadd .u64 S.next f.n)) (by simp [Cf.list]) rfl
  have own1' : Own K H1 (OneA .u64 T.seqone_Seq_u64 s b lg cv ev l.cursor (wadd .u64 S.next f.n) (at_ S.least 0) :: Bo_u64 b l S.bd :: LogA lg S.ev :: RgA .u64 fi ft pre f post :: L) := own1
  obtain ⟨H2, e2, own2⟩ := rg_st (own1'.up 3) 3 (.int .i64 0) { f with pc := 0 } (by omega) rfl rfl
  have g1 := rg_ld own2 (m := 1) (v := .int .i64 f.n) rfl
  have g6 := rg_ld own2 (m := 6) (v := .int .u64 f.fr) rfl
  have k1 := box_ld (m := 1) (own2.up 1) rfl
  obtain ⟨H3, e3, own3⟩ := noted (own2.up 3) ⟨3, t, f.n, f.fr⟩ (d := .slice none 0 0) Emp.nil (by omega)
  have k1' := box_ld (m := 1) (own3.up 2) rfl
  obtain ⟨H4, e4, own4⟩ := noted own3 ⟨4, t, 0, 0⟩ (d := .slice none 0 0) Emp.nil (by simp; omega)
  -- LogA, RgA, OneA, Bo
  have own5 : Own K H4 (OneA .u64 T.seqone_Seq_u64 s b lg cv ev l.cursor (wadd .u64 S.next f.n) (at_ S.least 0) :: Bo_u64 b l S.bd :: LogA lg (S.ev ++ [⟨3, t, f.n, f.fr⟩] ++ [⟨4, t, 0, 0⟩]) :: RgA .u64 fi ft pre { f with pc := 0 } post :: L) := ((own4.up 1).dn 3).dn 2
  refine ⟨H4, fun a h0 h1 h2 => ?_, own5⟩
  rw [F.seqone_Seq_Claim_u64.e1, h0, h1, h2]
  simp only [evCells] at e3 e4
  simp only [ptr] at *
  simp -implicitDefEqProofs [-ld1_ptr, s10, f1, add_u64, e1, e2, k1, g1, g6, up_u64 _ _ hf, fillL, splice, e3, k1', e4]

theorem scan1_u64 (own : Own K H (Sy1_u64 s b lg cv ev l S fi ft pre f post L)) (rd : RdSl K ev 1 es.length (ints es)) (hu : one l.up = true) (ok : SqOk .u64 S) (t : Int) (hf : InR .u64 f.fr) (hm : InR .u64 f.mn) (hes : es.length ≤ 1000)
    (h0 : 0 ≤ f.i) (h1 : f.i < es.length) (hc : ∀ c, c ∈ es → 0 ≤ c ∧ c < S.bd.has.length ∧ l.kind c = 1) (cs : Sc) (hcs : cs.k = .u64 ∧ cs.cap = cv.cap ∧ cs.ends = es) :
    ∃ H', (∀ a : Fr, a 0 = ptr s → a 1 = .int .i64 t → a 2 = .pointer (some ⟨fi, pre.length, some 0⟩) → R F.seqone_Seq_Claim_u64.f F.seqone_Seq_Claim_u64.b0 a H = some (.bool (oneScan cs S t f).2.2, H')) ∧
      Own K H' (Sy1_u64 s b lg cv ev l (oneScan cs S t f).1 fi ft pre (oneScan cs S t f).2.1 post L) := by
  obtain ⟨ck, cc, ce⟩ := hcs
  have s0 := box_ld (m := 0) own rfl
  have s8 := box_ld (m := 8) own rfl
  have own1 : Own K H (Bo_u64 b l S.bd :: RgA .u64 fi ft pre f post :: OneA .u64 T.seqone_Seq_u64 s b lg cv ev l.cursor S.next (at_ S.least 0) :: LogA lg S.ev :: L) := (own.up 3).up 2
  obtain ⟨H1, e1, own2⟩ := scan_in_u64 own1 rd hu ok.ok (by have := ok.log; omega) t h0 h1 hes (hc _ (at_mem h0 h1))
  have hsc : oneScan cs S t f = (if (scanP .u64 S.bd t es f).2.2 = true then (if fitsP .u64 cv.cap (scanP .u64 S.bd t es f).2.1.fr (scanP .u64 S.bd t es f).2.1.n (scanP .u64 S.bd t es f).2.1.mn = true then oneGrant cs ({ S with bd := (scanP .u64 S.bd t es f).1, least := [(scanP .u64 S.bd t es f).2.1.mn] } : Sq) t (scanP .u64 S.bd t es f).2.1 else (({ S with bd := (scanP .u64 S.bd t es f).1, least := [(scanP .u64 S.bd t es f).2.1.mn] } : Sq), (scanP .u64 S.bd t es f).2.1, false)) else (({ S with bd := (scanP .u64 S.bd t es f).1 } : Sq), (scanP .u64 S.bd t es f).2.1, false)) := by
    unfold oneScan; rw [ck, cc, ce]
  have hfr : (scanP .u64 S.bd t es f).2.1.fr = f.fr := scanP_fr _ _ _ _ _
  have hok1 : (scanP .u64 S.bd t es f).1.Ok .u64 := scanP_ok ok.ok _ _ _
  have hlog1 : (scanP .u64 S.bd t es f).1.log.length ≤ S.bd.log.length + 1 := scanP_log _ _ _ _ _
  generalize hr : scanP .u64 S.bd t es f = r at *
  obtain ⟨B1, f1, dn⟩ := r
  simp only at e1 own2 hsc hfr hok1 hlog1
  have q7 := rg_ld (own2.up 1) (m := 7) (v := .int .u64 f1.mn) rfl
  cases dn with
  | false =>
    refine ⟨H1, fun a a0 a1 a2 => ?_, ?_⟩
    · rw [hsc, F.seqone_Seq_Claim_u64.e0, a0, a1, a2]
      simp only [ptr] at *
      simp -implicitDefEqProofs [-ld1_ptr, s0, s8, e1]
    · rw [hsc]
      exact ((own2.up 2).up 3).dn 2
  | true =>
    have own3 : Own K H1 (OneA .u64 T.seqone_Seq_u64 s b lg cv ev l.cursor S.next (at_ S.least 0) :: Bo_u64 b l B1 :: LogA lg S.ev :: RgA .u64 fi ft pre f1 post :: L) := ((own2.up 2).up 3).dn 2
    have hmn : InR .u64 f1.mn := by
      have := scanP_mn ok.ok t es f hm fun c h => ⟨(hc c h).1, (hc c h).2.1⟩
      rw [hr] at this; exact this
    obtain ⟨H2, e2, own4⟩ := st1_own own3 11 (.int .u64 f1.mn) (by simp [Cf.list]) rfl
    let S1 : Sq := { S with bd := B1, least := [f1.mn] }
    have own5 : Own K H2 (Sy1_u64 s b lg cv ev l S1 fi ft pre f1 post L) := own4
    have e3 := fits1_u64 own5
    have hl1 : at_ S1.least 0 = f1.mn := rfl
    rw [hl1] at e3
    by_cases p : fitsP .u64 cv.cap f1.fr f1.n f1.mn = true
    · obtain ⟨H3, run, own6⟩ := grant1_u64 own5 (by have := ok.ev; simp only [S1]; omega) t (by rw [hfr]; exact hf)
      refine ⟨H3, fun a a0 a1 a2 => ?_, ?_⟩
      · rw [hsc, if_pos rfl, if_pos p, F.seqone_Seq_Claim_u64.e0, a0, a1, a2]
        simp only [ptr] at *
        simp -implicitDefEqProofs [-ld1_ptr, s0, s8, e1, q7, e2, e3, p, oneGrant]
        refine run _ ?_ ?_ ?_ <;> simp [put, a0, a1, a2]
      · rw [hsc, if_pos rfl, if_pos p]
        simp only [oneGrant, Sq.take, Sq.grant, ck]
        exact own6
    · refine ⟨H2, fun a a0 a1 a2 => ?_, ?_⟩
      · rw [hsc, if_pos rfl, if_neg p, F.seqone_Seq_Claim_u64.e0, a0, a1, a2]
        simp only [ptr] at *
        simp -implicitDefEqProofs [-ld1_ptr, s0, s8, e1, q7, e2, e3, p]
      · rw [hsc, if_pos rfl, if_neg p]
        exact own5

theorem claim1_u64 (own : Own K H (Sy1_u64 s b lg cv ev l S fi ft pre f post L)) (rd : RdSl K ev 1 es.length (ints es)) (hu : one l.up = true) (ok : SqOk .u64 S) (t : Int) (hf : InR .u64 f.fr) (hm : InR .u64 f.mn) (hes : es.length ≤ 1000)
    (h0 : 0 < es.length) (hi : f.pc = 1 → 0 ≤ f.i ∧ f.i < es.length) (hc : ∀ c, c ∈ es → 0 ≤ c ∧ c < S.bd.has.length ∧ l.kind c = 1) (cs : Sc) (hcs : cs.k = .u64 ∧ cs.cap = cv.cap ∧ cs.ends = es)
    (may : 0 ≤ t ∧ t < cv.prod ∧ 1 ≤ f.n ∧ f.n ≤ cv.cap) :
    ∃ H', C F.seqone_Seq_Claim_u64 [ptr s, .int .i64 t, .pointer (some ⟨fi, pre.length, some 0⟩)] H = some (.bool (oneClaim cs S t f).2.2, H') ∧
      Own K H' (Sy1_u64 s b lg cv ev l (oneClaim cs S t f).1 fi ft pre (oneClaim cs S t f).2.1 post L) := by
  obtain ⟨ck, cc, ce⟩ := hcs
  have own0 : Own K H (BoxA s T.seqone_Seq_u64 _ :: RgA .u64 fi ft pre f post :: Bo_u64 b l S.bd :: LogA lg S.ev :: L) := (own.up 3).up 1
  have em := may_seqone_u64 (prod := cv.prod) (cap := cv.cap) own0 rfl rfl t
  rw [decide_eq_true may] at em
  have f3 := rg_ld (own.up 3) (m := 3) (v := .int .i64 f.pc) rfl
  by_cases p1 : f.pc = 1
  · obtain ⟨H1, run, own1⟩ := scan1_u64 own rd hu ok t hf hm hes (hi p1).1 (hi p1).2 hc cs ⟨ck, cc, ce⟩
    have hcl : oneClaim cs S t f = oneScan cs S t f := by unfold oneClaim; rw [if_pos p1]
    rw [hcl]
    refine ⟨H1, ?_, own1⟩
    have pb : (f.pc == 1) = true := by simp [p1]
    rw [F.seqone_Seq_Claim_u64.e]
    simp only [ptr] at *
    simp -implicitDefEqProofs [-ld1_ptr, em, f3, pb]
    refine run _ ?_ ?_ ?_ <;> simp [put, fr0]
  · have pb : (f.pc == 1) = false := by simp [p1]
    have s10 := box_ld (m := 10) own rfl
    obtain ⟨H1, e1, own1⟩ := rg_st (own.up 3) 6 (.int .u64 S.next) { f with fr := S.next } (by omega) rfl rfl
    have own2 : Own K H1 (Sy1_u64 s b lg cv ev l S fi ft pre { f with fr := S.next } post L) := own1.dn 3
    have e2 := fits1_u64 own2
    simp only at e2
    by_cases p : fitsP .u64 cv.cap S.next f.n (at_ S.least 0) = true
    · obtain ⟨H3, run, own3⟩ := grant1_u64 own2 (by have := ok.ev; omega) t ok.next
      have hcl : oneClaim cs S t f = oneGrant cs S t { f with fr := S.next } := by unfold oneClaim; rw [if_neg p1, ck, cc, if_pos p]
      rw [hcl]
      refine ⟨H3, ?_, by simp only [oneGrant, Sq.take, Sq.grant, ck]; exact own3⟩
      rw [F.seqone_Seq_Claim_u64.e]
      simp only [ptr] at *
      simp -implicitDefEqProofs [-ld1_ptr, em, f3, pb, s10, e1, e2, p, oneGrant]
      refine run _ ?_ ?_ ?_ <;> simp [put, fr0]
    · obtain ⟨H2, e3, own3⟩ := rg_st (own2.up 3) 3 (.int .i64 1) { f with fr := S.next, pc := 1 } (by omega) rfl rfl
      obtain ⟨H3, e4, own4⟩ := rg_st own3 4 (.int .i64 0) { f with fr := S.next, pc := 1, i := 0 } (by omega) rfl rfl
      have own5 : Own K H3 (Sy1_u64 s b lg cv ev l S fi ft pre { f with fr := S.next, pc := 1, i := 0 } post L) := own4.dn 3
      obtain ⟨H4, run, own6⟩ := scan1_u64 own5 rd hu ok t ok.next hm hes (by simp) (by simpa using h0) hc cs ⟨ck, cc, ce⟩
      have hcl : oneClaim cs S t f = oneScan cs S t { f with fr := S.next, pc := 1, i := 0 } := by unfold oneClaim; rw [if_neg p1, ck, cc, if_neg p]
      rw [hcl]
      refine ⟨H4, ?_, own6⟩
      rw [F.seqone_Seq_Claim_u64.e]
      simp only [ptr] at *
      simp -implicitDefEqProofs [-ld1_ptr, em, f3, pb, s10, e1, e2, p, e3, e4]
      refine run _ ?_ ?_ ?_ <;> simp [put, fr0]

theorem pub1_u64 (own : Own K H (Sy1_u64 s b lg cv ev l S fi ft pre f post L)) (hu : one l.up = true) (ok : SqOk .u64 S) (t : Int) (hf : InR .u64 f.fr) (hc : 0 ≤ l.cursor ∧ l.cursor < S.bd.has.length ∧ l.kind l.cursor = 1) (cs : Sc) (hcs : cs.k = .u64 ∧ cs.cell = l.cursor)
    (may : 0 ≤ t ∧ t < cv.prod ∧ 1 ≤ f.n ∧ f.n ≤ cv.cap) :
    ∃ H', C F.seqone_Seq_Publish_u64 [ptr s, .int .i64 t, .pointer (some ⟨fi, pre.length, some 0⟩)] H = some (.bool true, H') ∧
      Own K H' (Sy1_u64 s b lg cv ev l (onePub cs S t f).1 fi ft pre f post L) := by
  obtain ⟨ck, cc⟩ := hcs
  have own0 : Own K H (BoxA s T.seqone_Seq_u64 _ :: RgA .u64 fi ft pre f post :: Bo_u64 b l S.bd :: LogA lg S.ev :: L) := (own.up 3).up 1
  have em := may_seqone_u64 (prod := cv.prod) (cap := cv.cap) own0 rfl rfl t
  rw [decide_eq_true may] at em
  have s0 := box_ld (m := 0) own rfl
  have s9 := box_ld (m := 9) own rfl
  have f1 := rg_ld (own.up 3) (m := 1) (v := .int .i64 f.n) rfl
  have f6 := rg_ld (own.up 3) (m := 6) (v := .int .u64 f.fr) rfl
  obtain ⟨H1, e1, own1⟩ := store_u64 (own.up 1) hu ok.ok t l.cursor (wadd .u64 f.fr f.n) hc.2.2 hc.1 hc.2.1 (inRwrapu64 _) (by have := ok.log; omega)
  have t1 := box_ld (m := 1) (own1.up 1) rfl
  have g1 := rg_ld (own1.up 3) (m := 1) (v := .int .i64 f.n) rfl
  have g6 := rg_ld (own1.up 3) (m := 6) (v := .int .u64 f.fr) rfl
  obtain ⟨H2, e2, own2⟩ := noted (own1.up 2) ⟨5, t, f.n, f.fr⟩ (d := .slice none 0 0) Emp.nil (by have := ok.ev; omega)
  -- [Log, Bo, One, Rg]
  refine ⟨H2, ?_, ?_⟩
  · rw [F.seqone_Seq_Publish_u64.e]
    simp only [evCells] at e2
    simp only [ptr] at *
    simp -implicitDefEqProofs [-ld1_ptr, em, s0, s9, f1, f6, add_u64, e1, t1, g1, g6, up_u64 _ _ hf, fillL, splice, e2]
  · have : (onePub cs S t f).1 = ({ S with bd := S.bd.lay t 2 l.cursor (wadd .u64 f.fr f.n), ev := S.ev ++ [⟨5, t, f.n, f.fr⟩] } : Sq) := by simp only [onePub, ck, cc]
    rw [this]
    exact (own2.up 2).up 2 |>.dn 1

theorem tip1_u64 (own : Own K H (Sy1_u64 s b lg cv ev l S fi ft pre f post L)) (hu : one l.up = true) (ok : SqOk .u64 S) (t : Int) (hc : 0 ≤ l.cursor ∧ l.cursor < S.bd.has.length ∧ l.kind l.cursor = 1) (cs : Sc) (hcs : cs.cell = l.cursor) :
    ∃ H', C F.seqone_Seq_Tip_u64 [ptr s, .int .i64 t, .pointer (some ⟨fi, pre.length, some 0⟩)] H = some (.bool true, H') ∧
      Own K H' (Sy1_u64 s b lg cv ev l (oneTip cs S t f).1 fi ft pre (oneTip cs S t f).2.1 post L) := by
  have s0 := box_ld (m := 0) own rfl
  have s9 := box_ld (m := 9) own rfl
  obtain ⟨H1, e1, own1⟩ := load_u64 (own.up 1) hu ok.ok t l.cursor hc.2.2 hc.1 hc.2.1 (by have := ok.log; omega)
  obtain ⟨H2, e2, own2⟩ := rg_st (own1.up 3) 8 (.int .u64 (at_ S.bd.has l.cursor)) { f with vl := at_ S.bd.has l.cursor } (by omega) rfl rfl
  refine ⟨H2, ?_, ?_⟩
  · rw [F.seqone_Seq_Tip_u64.e]
    simp only [ptr] at *
    simp -implicitDefEqProofs [-ld1_ptr, s0, s9, e1, e2]
    rw [F.seqone_Seq_Tip_u64.e0]
  · simp only [oneTip, hcs]
    exact ((own2.up 2).up 1).dn 3
end
end Go.Proofs.YtiehmpoanhacaaaDoor
