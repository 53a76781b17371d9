/-
  The cases' configurations; calls that may not go on.
-/
import Derived.Test.YtiehmpoanhacaaaDoorKSakialaw20
import Derived.Test.YtiehmpoanhacaaaDoorSq
import Derived.Test.YtiehmpoanhacaaaDoorAmC
set_option maxRecDepth 100000
set_option linter.unusedVariables false
set_option linter.unusedSimpArgs false
set_option maxHeartbeats 400000
namespace Go.Proofs.YtiehmpoanhacaaaDoor
open Go Go.Proofs.SakAm
attribute [local congr] obind_c condK_c ifD_c

section
variable {K : Kept} {H : Heap} {L : List Asrt} {q : Cs}

theorem conf_loop_seqcas (h : q.Ok) {i1 i2 i3 : Nat} {z : List Value} (hz : z.length = 6) :
    ∀ (n j : Nat), j + n = q.r → ∀ (H : Heap) (o : Hd), Own K H (BoxA i3 T.api_Conf (q.cf 2 o.val).list :: SlA o T.sl_int 1 (List.replicate j (.slice none 0 0)) :: BoxA i2 T.api_Conf z :: BoxA i1 T.sakialaw20_Case q.cells :: L) → o.n = j →
      ∃ uv H' K', K.le K' ∧ (∀ a : Fr, a 1 = ptr i1 → a 2 = ptr i2 → a 3 = ptr i3 → a 4 = .int .i64 j → R F.sakialaw20_conf.f F.sakialaw20_conf.b1 a H = some ((q.cf 2 uv).val, H')) ∧ Own K' H' L ∧ UpIs K' uv (flatUp q.r)
  | 0, j, hj, H, o, own, ho => by
    have hr := h.r0
    have rq := (own.up 3).rd
    have bc := cf_ld own
    obtain ⟨H1, e1, own1⟩ := stA_own (own.up 2) 0 6 (q.cf 2 o.val).val (q.cf 2 o.val).list (by simp [Cf.val]) (by simp [Cf.list]) (by omega) (by simp [Cf.list, Cs.cf])
    rw [show splice z 0 (q.cf 2 o.val).list = (q.cf 2 o.val).list from by simp [splice, List.drop_eq_nil_of_le (show z.length ≤ 6 from by omega), Cf.list]] at own1
    have b1 := cf_ld own1
    obtain ⟨K', le, own2, rd⟩ := (own1.up 2).freezeSl
    rw [ho, show j = q.r from by omega] at rd
    refine ⟨o.val, H1, K', le, fun a h1 h2 h3 h4 => ?_, own2.tl.tl.tl, upIs_flat rd⟩
    have hm : q.roots.tmod 3 = q.roots % 3 := Int.tmod_eq_emod_of_nonneg hr
    have hw : IntKind.wrap .i64 (q.roots % 3) = q.roots % 3 := wi _ (by omega) (by omega)
    have hle : ¬ ((j : Int) ≤ q.roots % 3) := by have : q.r = (q.roots % 3).toNat + 1 := rfl; omega
    rw [F.sakialaw20_conf.e1, h1, h2, h3, h4]
    simp only [ptr] at *
    simp -implicitDefEqProofs [-ldA_ptr, rq, Cs.cells, abin_rem (show (3 : Int) ≠ 0 by decide), hm, hw, hle, bc, e1, b1]
  | n + 1, j, hj, H, o, own, ho => by
    have hr := h.r0
    have hrl := q.r_le
    have rq := (own.up 3).rd
    have rc := own.rd
    obtain ⟨k, H1, e1, own1⟩ := mkrow_own own T.sl_int 1 [.slice none 0 0] rfl
    obtain ⟨o', H2, e2, ho2, own2⟩ := append_own (m := 1) (bytes := 24) (own1.up 2) (rowOf_row own1 (n := 1) (z := 1) rfl) rfl rfl (by omega) (by omega) (by omega)
    obtain ⟨H3, e3, own3⟩ := st1_own (own2.up 2) 5 o'.val (by simp [Cf.list]) (by simp)
    have own4 : Own K H3 (BoxA i3 T.api_Conf (q.cf 2 o'.val).list :: SlA o' T.sl_int 1 (List.replicate j (.slice none 0 0) ++ [.slice none 0 0]) :: BoxA i2 T.api_Conf z :: BoxA i1 T.sakialaw20_Case q.cells :: L) := (own3.up 2).tl
    rw [show List.replicate j (Value.slice none 0 0) ++ [Value.slice none 0 0] = List.replicate (j + 1) (.slice none 0 0) from by simp [List.replicate_succ']] at own4
    obtain ⟨uv, H', K', le, run, own', up'⟩ := conf_loop_seqcas h hz n (j + 1) (by omega) H3 o' own4 (by omega)
    refine ⟨uv, H', K', le, fun a h1 h2 h3 h4 => ?_, own', up'⟩
    have hm : q.roots.tmod 3 = q.roots % 3 := Int.tmod_eq_emod_of_nonneg hr
    have hw : IntKind.wrap .i64 (q.roots % 3) = q.roots % 3 := wi _ (by omega) (by omega)
    have hle : ((j : Int) ≤ q.roots % 3) := by have : q.r = (q.roots % 3).toNat + 1 := rfl; omega
    have hs1 : IntKind.wrap .i64 ((j : Int) + 1) = ((j + 1 : Nat) : Int) := by rw [wi _ (by omega) (by omega)]; omega
    rw [F.sakialaw20_conf.e1, h1, h2, h3, h4]
    simp only [ptr] at *
    simp -implicitDefEqProofs [rq, rc, Cs.cells, Cs.cf, Cf.list, abin_rem (show (3 : Int) ≠ 0 by decide), hm, hw, hle, reps, fillL, splice, e1, e2, e3, hs1]
    refine run _ ?_ ?_ ?_ ?_ <;> simp [put, h1, h2, h3]

theorem conf_seqcas (own : Own K H L) (h : q.Ok) : ∃ uv H' K', K.le K' ∧ C F.sakialaw20_conf [q.val] H = some ((q.cf 2 uv).val, H') ∧ Own K' H' L ∧ UpIs K' uv (flatUp q.r) := by
  have hl0 := h.l0
  have hp0 := h.p0
  let z : List Value := [.int .i64 0, .int .i64 0, .int .i64 0, .int .i64 0, .int .u64 0, .slice none 0 0]
  obtain ⟨i1, H1, e1, own1⟩ := mkbox_own own T.sakialaw20_Case q.val q.cells (by simp [Cs.val]) (by simp [Cs.cells])
  obtain ⟨i2, H2, e2, own2⟩ := mkbox_own own1 T.api_Conf (.agg z.toArray) z (by simp) (by simp [z])
  have r2 := (own2.up 1).rd
  obtain ⟨i3, H3, e3, own3⟩ := mkbox_own own2 T.api_Conf (.agg z.toArray) z (by simp) (by simp [z])
  let c0 : Cf := ⟨2, 32, q.cap, (1 + q.prod % 4), q.start, .slice none 0 0⟩
  obtain ⟨H4, e4, own4⟩ := stA_own own3 0 6 (.agg c0.list.toArray) c0.list (by simp) (by simp [Cf.list]) (by simp [z]) (by simp [Cf.list, c0])
  rw [show splice z 0 c0.list = c0.list from by simp [splice, z, Cf.list]] at own4
  have r4 := (own4.up 2).rd
  have own5 : Own K H4 (BoxA i3 T.api_Conf c0.list :: SlA .nil T.sl_int 1 [] :: BoxA i2 T.api_Conf z :: BoxA i1 T.sakialaw20_Case q.cells :: L) := (slnil own4 T.sl_int 1).up 1
  have hcap : IntKind.wrap .i64 (2 * 2 ^ min (q.log % 4).toNat (IntKind.bits .i64)) = q.cap := by
    have hm : q.log % 4 = 0 ∨ q.log % 4 = 1 ∨ q.log % 4 = 2 ∨ q.log % 4 = 3 := by omega
    rcases hm with e | e | e | e <;> simp [Cs.cap, e, wrapi64, IntKind.bits]
  have hm4 : q.log.tmod 4 = q.log % 4 := Int.tmod_eq_emod_of_nonneg hl0
  have hp4 : q.prod.tmod 4 = q.prod % 4 := Int.tmod_eq_emod_of_nonneg hp0
  have hpw : IntKind.wrap .i64 (q.prod % 4) = q.prod % 4 := wi _ (by omega) (by omega)
  have hpw1 : IntKind.wrap .i64 (1 + q.prod % 4) = 1 + q.prod % 4 := wi _ (by omega) (by omega)
  have hcells : q.cells = [.bool q.wide, .int .u8 q.log, .int .u8 q.prod, .int .u8 q.roots, .int .u64 q.start] := rfl
  have hz : z = [.int .i64 0, .int .i64 0, .int .i64 0, .int .i64 0, .int .u64 0, .slice none 0 0] := rfl
  have shl : ∀ (xo yo : Operand), abin P .shl T.int xo yo (.int .i64 2) (.int .u8 (q.log % 4)) = some (.int .i64 q.cap) := fun xo yo => by rw [abin_shl (by omega), hcap]
  cases hq : q.wide with
  | true =>
    obtain ⟨H5, e5, own6⟩ := st1_own own5 1 (.int .i64 64) (by simp [Cf.list]) rfl
    have own7 : Own K H5 (BoxA i3 T.api_Conf (q.cf 2 Hd.nil.val).list :: SlA .nil T.sl_int 1 (List.replicate 0 (.slice none 0 0)) :: BoxA i2 T.api_Conf z :: BoxA i1 T.sakialaw20_Case q.cells :: L) := by
      have : (q.cf 2 Hd.nil.val).list = c0.list.set 1 (.int .i64 64) := by simp [Cf.list, Cs.cf, hq, c0, Hd.val]
      rw [this]; exact own6
    obtain ⟨uv, H', K', le, run, own', up'⟩ := conf_loop_seqcas h (z := z) rfl q.r 0 (by omega) H5 .nil own7 rfl
    refine ⟨uv, H', K', le, ?_, own', up'⟩
    rw [F.sakialaw20_conf.e]
    simp only [ptr, hz, Cf.list, c0] at e1 e2 e3 e4 e5 r2 r4 run ⊢
    simp -implicitDefEqProofs [e1, e2, r2, hcells, abin_rem (show (4 : Int) ≠ 0 by decide), hm4, hp4, shl, hpw, hpw1, fillL, splice, e3, e4, r4, hq, e5]
    rw [F.sakialaw20_conf.e0]
    refine run _ ?_ ?_ ?_ ?_ <;> simp [put]
  | false =>
    have own7 : Own K H4 (BoxA i3 T.api_Conf (q.cf 2 Hd.nil.val).list :: SlA .nil T.sl_int 1 (List.replicate 0 (.slice none 0 0)) :: BoxA i2 T.api_Conf z :: BoxA i1 T.sakialaw20_Case q.cells :: L) := by
      have : (q.cf 2 Hd.nil.val).list = c0.list := by simp [Cf.list, Cs.cf, hq, c0, Hd.val]
      rw [this]; exact own5
    obtain ⟨uv, H', K', le, run, own', up'⟩ := conf_loop_seqcas h (z := z) rfl q.r 0 (by omega) H4 .nil own7 rfl
    refine ⟨uv, H', K', le, ?_, own', up'⟩
    rw [F.sakialaw20_conf.e]
    simp only [ptr, hz, Cf.list, c0] at e1 e2 e3 e4 r2 r4 run ⊢
    simp -implicitDefEqProofs [e1, e2, r2, hcells, abin_rem (show (4 : Int) ≠ 0 by decide), hm4, hp4, shl, hpw, hpw1, fillL, splice, e3, e4, r4, hq]
    rw [F.sakialaw20_conf.e0]
    refine run _ ?_ ?_ ?_ ?_ <;> simp [put]

theorem claim_no_seqcas_u32 {x0 x1 x2 : Value} (h : C F.seqcas_Seq_may_u32 [x0, x1, x2] H = some (.bool false, H)) : C F.seqcas_Seq_Claim_u32 [x0, x1, x2] H = some (.bool true, H) := by
  rw [F.seqcas_Seq_Claim_u32.e]
  simp -implicitDefEqProofs [h]
theorem pub_no_seqcas_u32 {x0 x1 x2 : Value} (h : C F.seqcas_Seq_may_u32 [x0, x1, x2] H = some (.bool false, H)) : C F.seqcas_Seq_Publish_u32 [x0, x1, x2] H = some (.bool true, H) := by
  rw [F.seqcas_Seq_Publish_u32.e]
  simp -implicitDefEqProofs [h]
theorem tip_nos_seqcas_u32 (x1 x2 : Value) (H : Heap) : C F.seqcas_Seq_Tip_u32 [.pointer none, x1, x2] H = some (.bool true, H) := by
  rw [F.seqcas_Seq_Tip_u32.e]
  simp -implicitDefEqProofs
  all_goals (try rw [F.seqcas_Seq_Tip_u32.e0])
theorem tip_nof_seqcas_u32 (s : Nat) (x1 : Value) (H : Heap) : C F.seqcas_Seq_Tip_u32 [ptr s, x1, .pointer none] H = some (.bool true, H) := by
  rw [F.seqcas_Seq_Tip_u32.e]
  simp -implicitDefEqProofs [ptr]
  all_goals (try rw [F.seqcas_Seq_Tip_u32.e0])
end
end Go.Proofs.YtiehmpoanhacaaaDoor
