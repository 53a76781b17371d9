/-
  Of no sequencer, and of registers that may not be: the laws over the chains.
-/
import Derived.Test.YtiehmpoanhacaaaDoorLa
set_option maxRecDepth 100000
set_option linter.unusedVariables false
set_option linter.unusedSimpArgs false
set_option maxHeartbeats 1000000
namespace Go.Proofs.YtiehmpoanhacaaaDoor
open Go Go.Proofs.SakAm
attribute [local congr] obind_c condK_c ifD_c

section
variable {K : Kept} {H : Heap} {L : List Asrt}

theorem live_seqcas (H : Heap) : C F.sakialaw20_live [] H = some (.bool true, H) := rfl

theorem none_tail_seqcas {ci : Nat} {c : Cf} {r : Nat} (own : Own K H (BoxA ci T.api_Conf c.list :: L)) (g : GoodC c) (hw : c.width = 32) (hu : UpIs K c.up (flatUp r)) (h1 : 1 ≤ r) (h6 : r ≤ 6) (t n : Int) :
    ∃ H', ∀ a : Fr, a 9 = ptr ci → a 8 = .int .i64 t → a 2 = .int .i64 n → R F.sakialaw20_CasNone.f F.sakialaw20_CasNone.b1 a H = some (.bool true, H') := by
  have hlen : (flatUp r).length = r := flatUp_len
  have hg : GOk K c.up := gok_nil hu flatUp_nil (by omega) (by omega)
  have bc := cf_ld own
  obtain ⟨uv, H1, K1, le1, e1, own1, hu1⟩ := of_ok own g hu hg (by omega) (by omega) (fun l hl => by rw [flatUp_nil l hl]; simp)
  rw [hlen] at e1
  have gl : GoodL (mkLy c r uv) r := mkLy_good g h1 h6 hu1.one (by have := hu1.alen; rw [hlen] at this; exact this)
  have elw : (mkLy c r uv).width = 32 := by unfold mkLy; split; exact hw; split <;> exact hw
  have elv : (mkLy c r uv).var = c.var := by unfold mkLy; split; rfl; split <;> rfl
  have elp : (mkLy c r uv).prod = c.prod := by unfold mkLy; split; rfl; split <;> rfl
  have elc : (mkLy c r uv).cap = c.cap := by unfold mkLy; split; rfl; split <;> rfl
  have elu : (mkLy c r uv).up = uv := by unfold mkLy; split; rfl; split <;> rfl
  generalize hl : mkLy c r uv = l at *
  have hg1 : GOk K1 l.up := by rw [elu]; exact gok_nil hu1 flatUp_nil (by omega) (by omega)
  have he1 : EOk K1 l.up (rng r) := by rw [elu]; have := ends_nil hu1 flatUp_nil (by omega) (by omega); rw [hlen] at this; exact this
  have hle : leafEq l.up l.up = true := by rw [elu]; obtain ⟨hs, k1, _⟩ := hu1; exact k1.valEq
  have hone : one l.up = true := by rw [elu]; exact hu1.one
  obtain ⟨i2, H2, e2, own2⟩ := mkbox_own own1 T.layout_Layout (.agg z14.toArray) z14 (by simp) (by simp [z14])
  obtain ⟨H3, e3, own3⟩ := stA_own own2 0 14 l.val l.list (by simp [Ly.val]) (by simp [Ly.list]) (by simp [z14]) (by simp [Ly.list, hone])
  rw [show splice z14 0 l.list = l.list from by simp [splice, z14, Ly.list]] at own3
  have b3 := ly_ld own3
  obtain ⟨b, H4, e4, own4⟩ := new_u32 own3 gl hg1 (by simp [kOf, elw])
  obtain ⟨lg, H5, e5, own5⟩ := newLog own4
  have w00 : IntKind.wrap .i64 0 = 0 := rfl
  have cl : c.list = [.int .i64 c.var, .int .i64 c.width, .int .i64 c.cap, .int .i64 c.prod, .int .u64 c.start, c.up] := rfl
  let fr : Rg := ⟨0, n, 0, 0, 0, 0, 0, 0, 7, 0⟩
  have frl : Rg.cells .u32 fr = [.int .i64 0, .int .i64 n, .int .i64 0, .int .i64 0, .int .i64 0, .int .i64 0, .int .u32 0, .int .u32 0, .int .u32 7, .int .u32 0, .slice none 0 0] := rfl
  by_cases hv : c.var = 2
  · have hvb : (c.var != 2) = false := by simp [hv]
    obtain ⟨s, ev, H6, K2, le2, e6, own6, _⟩ := new_seqcas_u32 (own5.up 1) (lg := lg) gl hle hg1 he1 (fun c hc => by
      obtain ⟨x, hx, rfl⟩ := List.mem_map.1 hc
      have := List.mem_range.1 hx
      omega) (by simp [rng]; omega) (by simp [kOf, elw]) (by rw [elv]; exact hv)
    obtain ⟨fi, H7, e7, own7⟩ := mkbox_own own6 T.api_Frame_u32 (.agg (Rg.cells .u32 fr).toArray) (Rg.cells .u32 fr) (by simp) (by simp [Rg.cells])
    have rf := own7.rd
    have rc := (own7.up 5).rd
    have rc6 := (own6.up 4).rd
    have ln := len_u32 (own7.up 2)
    have lgn := logLen (own7.up 3)
    have own8 := own7.up 1
    obtain ⟨hd, ob⟩ := cas_open own8; have ob := (ob.up 1).tl
    have ob' : Own K2 H7 (BoxA s T.seqcas_Seq_u32 _ :: RgA .u32 fi T.api_Frame_u32 [] fr [] :: _) := ob
    have hm := may_seqcas_u32 (prod := c.prod) (cap := c.cap) ob' (by rw [← elp]; rfl) (by rw [← elc]; rfl) t
    refine ⟨H7, fun a h9 h8 h2 => ?_⟩
    rw [F.sakialaw20_CasNone.e1, h9, h8, h2]
    simp only [z14, ptr, frl, List.cons_append, List.nil_append, cl] at bc e2 e3 e4 e5 e6 e7 rf rc rc6 ln lgn hm ⊢
    have hm' : C F.seqcas_Seq_may_u32 [.pointer (some ⟨s, 0, some 0⟩), .int .i64 t, .pointer (some ⟨fi, 0, some 0⟩)] H7 = _ := hm
    have k1 := claim_no_seqcas_u32 (may_nos_seqcas_u32 t (.pointer (some ⟨fi, 0, some 0⟩)) H7)
    have k2 := pub_no_seqcas_u32 (may_nos_seqcas_u32 t (.pointer (some ⟨fi, 0, some 0⟩)) H7)
    have k3 := tip_nos_seqcas_u32 (.int .i64 t) (.pointer (some ⟨fi, 0, some 0⟩)) H7
    have k4 := claim_no_seqcas_u32 (may_nof_seqcas_u32 t s H7)
    have k5 := pub_no_seqcas_u32 (may_nof_seqcas_u32 t s H7)
    have k6 := tip_nof_seqcas_u32 s (.int .i64 t) H7
    simp only [ptr] at k4 k5 k6
    have hz : Bd.init l = ⟨(Bd.init l).has, (Bd.init l).data, []⟩ := rfl
    rw [hz] at ln
    simp only [List.length_nil] at ln lgn
    by_cases p : 0 ≤ t ∧ t < c.prod ∧ 1 ≤ n ∧ n ≤ c.cap
    · simp -implicitDefEqProofs [-ldA_ptr, bc, e1, e2, e3, b3, e4, e5, e6, fillL, splice, e7, k1, k2, k3, k4, k5, k6, rf, rc, rc6, ln, lgn, p, hvb, w00, live_seqcas]
    · rw [show decide (0 ≤ t ∧ t < c.prod ∧ 1 ≤ fr.n ∧ fr.n ≤ c.cap) = false from by simp only [fr]; exact decide_eq_false p] at hm'
      have k7 := claim_no_seqcas_u32 hm'
      have k8 := pub_no_seqcas_u32 hm'
      by_cases p1 : 0 ≤ t
      · by_cases p2 : t < c.prod
        · by_cases p3 : 1 ≤ n
          · have p4 : ¬ n ≤ c.cap := fun h => p ⟨p1, p2, p3, h⟩
            simp -implicitDefEqProofs [-ldA_ptr, bc, e1, e2, e3, b3, e4, e5, e6, fillL, splice, e7, k1, k2, k3, k4, k5, k6, rf, rc, rc6, ln, lgn, p1, p2, p3, p4, hvb, w00, live_seqcas, k7, k8]
          · simp -implicitDefEqProofs [-ldA_ptr, bc, e1, e2, e3, b3, e4, e5, e6, fillL, splice, e7, k1, k2, k3, k4, k5, k6, rf, rc, rc6, ln, lgn, p1, p2, p3, hvb, w00, live_seqcas, k7, k8]
        · simp -implicitDefEqProofs [-ldA_ptr, bc, e1, e2, e3, b3, e4, e5, e6, fillL, splice, e7, k1, k2, k3, k4, k5, k6, rf, rc, rc6, ln, lgn, p1, p2, hvb, w00, live_seqcas, k7, k8]
      · simp -implicitDefEqProofs [-ldA_ptr, bc, e1, e2, e3, b3, e4, e5, e6, fillL, splice, e7, k1, k2, k3, k4, k5, k6, rf, rc, rc6, ln, lgn, p1, hvb, w00, live_seqcas, k7, k8]
  · have hvb : (c.var != 2) = true := by simp [hv]
    obtain ⟨H6, e6, own6⟩ := new_not_seqcas_u32 (own5.up 1) hone (ptr lg) (by rw [elv]; exact hv)
    obtain ⟨fi, H7, e7, own7⟩ := mkbox_own own6 T.api_Frame_u32 (.agg (Rg.cells .u32 fr).toArray) (Rg.cells .u32 fr) (by simp) (by simp [Rg.cells])
    have rf := own7.rd
    have rc := (own7.up 4).rd
    have rc6 := (own6.up 3).rd
    have ln := len_u32 (own7.up 1)
    have lgn := logLen (own7.up 2)
    refine ⟨H7, fun a h9 h8 h2 => ?_⟩
    rw [F.sakialaw20_CasNone.e1, h9, h8, h2]
    simp only [z14, ptr, frl, List.cons_append, List.nil_append, cl] at bc e2 e3 e4 e5 e6 e7 rf rc rc6 ln lgn ⊢
    have k1 := claim_no_seqcas_u32 (may_nos_seqcas_u32 t (.pointer (some ⟨fi, 0, some 0⟩)) H7)
    have k2 := pub_no_seqcas_u32 (may_nos_seqcas_u32 t (.pointer (some ⟨fi, 0, some 0⟩)) H7)
    have k3 := tip_nos_seqcas_u32 (.int .i64 t) (.pointer (some ⟨fi, 0, some 0⟩)) H7
    have k4 := claim_no_seqcas_u32 (may_nos_seqcas_u32 t (.pointer none) H7)
    have k5 := pub_no_seqcas_u32 (may_nos_seqcas_u32 t (.pointer none) H7)
    have k6 := tip_nos_seqcas_u32 (.int .i64 t) (.pointer none) H7
    have hz : Bd.init l = ⟨(Bd.init l).has, (Bd.init l).data, []⟩ := rfl
    rw [hz] at ln
    simp only [List.length_nil] at ln lgn
    by_cases p1 : 0 ≤ t
    · by_cases p2 : t < c.prod
      · by_cases p3 : 1 ≤ n
        · by_cases p4 : n ≤ c.cap <;> simp -implicitDefEqProofs [-ldA_ptr, bc, e1, e2, e3, b3, e4, e5, e6, fillL, splice, e7, k1, k2, k3, k4, k5, k6, rf, rc, rc6, ln, lgn, p1, p2, p3, p4, hvb, w00, live_seqcas]
        · simp -implicitDefEqProofs [-ldA_ptr, bc, e1, e2, e3, b3, e4, e5, e6, fillL, splice, e7, k1, k2, k3, k4, k5, k6, rf, rc, rc6, ln, lgn, p1, p2, p3, hvb, w00, live_seqcas]
      · simp -implicitDefEqProofs [-ldA_ptr, bc, e1, e2, e3, b3, e4, e5, e6, fillL, splice, e7, k1, k2, k3, k4, k5, k6, rf, rc, rc6, ln, lgn, p1, p2, hvb, w00, live_seqcas]
    · simp -implicitDefEqProofs [-ldA_ptr, bc, e1, e2, e3, b3, e4, e5, e6, fillL, splice, e7, k1, k2, k3, k4, k5, k6, rf, rc, rc6, ln, lgn, p1, hvb, w00, live_seqcas]

theorem law_seqcas (q : Cs) (hq : q.Ok) (v t n : Int) (H : Heap) : ∃ H', C F.sakialaw20_CasNone [q.val, .agg #[.int .i64 v, .int .i64 t], .int .i64 n] H = some (.bool true, H') := by
  have hr := q.r_le
  obtain ⟨i1, H1, e1, own1⟩ := mkbox_own (Own.start H) T.sakialaw20_Case q.val q.cells (by simp [Cs.val]) (by simp [Cs.cells])
  obtain ⟨i2, H2, e2, own2⟩ := mkbox_own own1 T.a2_int (.agg #[.int .i64 v, .int .i64 t]) [.int .i64 v, .int .i64 t] rfl rfl
  have r2 := own2.rd
  have q2 : ldA H2 5 (ptr i1) = some q.val := by simp [ptr, (own2.up 1).rd, Cs.cells, Cs.val]
  obtain ⟨uv, H3, K3, le3, e3, own3, up3⟩ := conf_seqcas own2 hq
  obtain ⟨ci, H4, e4, own4⟩ := mkbox_own own3 T.api_Conf (.agg #[.int .i64 0, .int .i64 0, .int .i64 0, .int .i64 0, .int .u64 0, .slice none 0 0]) [.int .i64 0, .int .i64 0, .int .i64 0, .int .i64 0, .int .u64 0, .slice none 0 0] rfl rfl
  obtain ⟨H5, e5, own5⟩ := stA_own own4 0 6 (q.cf 2 uv).val (q.cf 2 uv).list (by simp [Cf.val]) (by simp [Cf.list]) (by simp) (by simp [Cf.list, Cs.cf, up3.one])
  rw [show splice [Value.int .i64 0, .int .i64 0, .int .i64 0, .int .i64 0, .int .u64 0, .slice none 0 0] 0 (q.cf 2 uv).list = (q.cf 2 uv).list from by simp [splice, Cf.list]] at own5
  obtain ⟨H6, e6, own6⟩ := st1_own own5 1 (.int .i64 32) (by simp [Cf.list]) rfl
  have own6' : Own K3 H6 (BoxA ci T.api_Conf ({ q.cf 2 uv with width := 32 } : Cf).list :: BoxA i2 T.a2_int [.int .i64 v, .int .i64 t] :: BoxA i1 T.sakialaw20_Case q.cells :: []) := own6
  have hgood := Cs.good hq (v := 2) (by omega) (by omega) up3.one
  -- the variant
  obtain ⟨w, H7, own7, hw1, hw5, run7⟩ : ∃ (w : Int) (H7 : Heap), Own K3 H7 (BoxA ci T.api_Conf ({ q.cf 2 uv with width := 32, var := w } : Cf).list :: BoxA i2 T.a2_int [.int .i64 v, .int .i64 t] :: BoxA i1 T.sakialaw20_Case q.cells :: []) ∧ 1 ≤ w ∧ w ≤ 5 ∧
      ((1 ≤ v ∧ v ≤ 5 ∧ st1 H6 (ptr ci) (.int .i64 v) = some H7) ∨ (¬ (1 ≤ v ∧ v ≤ 5) ∧ H7 = H6)) := by
    by_cases p : 1 ≤ v ∧ v ≤ 5
    · obtain ⟨H7, e7, own7⟩ := st1_own own6' 0 (.int .i64 v) (by simp [Cf.list]) rfl
      exact ⟨v, H7, own7, p.1, p.2, .inl ⟨p.1, p.2, e7⟩⟩
    · exact ⟨2, H6, own6', by omega, by omega, .inr ⟨p, rfl⟩⟩
  obtain ⟨pr, H8, own8, hp1, hp4, hpo, run8⟩ : ∃ (pr : Int) (H8 : Heap), Own K3 H8 (BoxA ci T.api_Conf ({ q.cf 2 uv with width := 32, var := w, prod := pr } : Cf).list :: BoxA i2 T.a2_int [.int .i64 v, .int .i64 t] :: BoxA i1 T.sakialaw20_Case q.cells :: []) ∧ 1 ≤ pr ∧ pr ≤ 4 ∧ (w = 1 → pr = 1) ∧
      ((w = 1 ∧ st1 H7 (.pointer (some ⟨ci, 3, some 0⟩)) (.int .i64 1) = some H8) ∨ (w ≠ 1 ∧ H8 = H7)) := by
    by_cases p : w = 1
    · obtain ⟨H8, e8, own8⟩ := st1_own own7 3 (.int .i64 1) (by simp [Cf.list]) rfl
      exact ⟨1, H8, own8, by omega, by omega, fun _ => rfl, .inl ⟨p, e8⟩⟩
    · exact ⟨(q.cf 2 uv).prod, H7, own7, hgood.p0, hgood.p1, fun h => absurd h p, .inr ⟨p, rfl⟩⟩
  have g8 : GoodC ({ q.cf 2 uv with width := 32, var := w, prod := pr } : Cf) := ⟨hw1, hw5, .inl rfl, hgood.cap, hp1, hp4, hpo, hgood.start, hgood.up⟩
  obtain ⟨H', tail⟩ := none_tail_seqcas own8 g8 rfl up3 hr.1 (by omega) t n
  refine ⟨H', ?_⟩
  have join : ∀ a : Fr, a 9 = ptr ci → a 8 = .int .i64 t → a 2 = .int .i64 n → R F.sakialaw20_CasNone.f F.sakialaw20_CasNone.b0 a H7 = some (.bool true, H') := by
    intro a h9 h8 h2
    have r7 := own7.rd
    rw [F.sakialaw20_CasNone.e0, h9]
    rcases run8 with ⟨p, e8⟩ | ⟨p, rfl⟩
    · have hb : (w == 1) = true := by simp [p]
      simp -implicitDefEqProofs [ptr, r7, Cf.list, hb, e8]
      refine tail _ ?_ ?_ ?_ <;> simp [put, h9, h8, h2]
    · have hb : (w == 1) = false := by simp [p]
      simp -implicitDefEqProofs [ptr, r7, Cf.list, hb]
      refine tail _ ?_ ?_ ?_ <;> simp [put, h9, h8, h2]
  rw [F.sakialaw20_CasNone.e]
  simp only [ptr] at *
  rcases run7 with ⟨p1, p5, e7⟩ | ⟨p, rfl⟩
  · simp -implicitDefEqProofs [-ldA_ptr, e1, e2, radd, r2, q2, e3, e4, e5, e6, p1, p5, e7]
    refine join _ ?_ ?_ ?_ <;> simp [put, fr0]
  · by_cases p1 : 1 ≤ v
    · have p5 : ¬ v ≤ 5 := fun h => p ⟨p1, h⟩
      simp -implicitDefEqProofs [-ldA_ptr, e1, e2, radd, r2, q2, e3, e4, e5, e6, p1, p5]
      refine join _ ?_ ?_ ?_ <;> simp [put, fr0]
    · simp -implicitDefEqProofs [-ldA_ptr, e1, e2, radd, r2, q2, e3, e4, e5, e6, p1]
      refine join _ ?_ ?_ ?_ <;> simp [put, fr0]
end
end Go.Proofs.YtiehmpoanhacaaaDoor
