/-
  A thread that is alone, with the sequencer of one producer: the law.
-/
import Derived.Test.YtiehmpoanhacaaaDoorA1
import Derived.Test.YtiehmpoanhacaaaDoorLa
set_option maxRecDepth 100000
set_option linter.unusedVariables false
set_option linter.unusedSimpArgs false
set_option maxHeartbeats 1000000
namespace Go.Proofs.YtiehmpoanhacaaaDoor
open Go Go.Proofs.SakAm
attribute [local congr] obind_c condK_c ifD_c

theorem live_one (H : Heap) : C F.sakialaw19_live [] H = some (.bool true, H) := rfl

theorem law_alone1 (q : Cs) (hq : q.Ok) (xs : Value) (zs : List Int) (H : Heap) (rx : RdSl (Kept.of H) xs 1 zs.length (zs.map fun z => Value.int .u8 z)) (hz : ∀ z, z ∈ zs → 0 ≤ z ∧ z < 256) :
    ∃ H', C F.sakialaw19_OneAlone [q.val, xs] H = some (.bool true, H') := by
  have hr := q.r_le
  obtain ⟨i1, H1, e1, own1⟩ := mkbox_own (Own.start H) T.sakialaw19_Case q.val q.cells (by simp [Cs.val]) (by simp [Cs.cells])
  obtain ⟨H2, e2, own2⟩ := st1_own own1 0 (.bool true) (by simp [Cs.cells]) rfl
  let p : Cs := { q with wide := true }
  have hp : p.Ok := ⟨hq.l0, hq.p0, hq.r0, hq.s⟩
  have own2' : Own (Kept.of H) H2 (BoxA i1 T.sakialaw19_Case p.cells :: []) := own2
  have q2 : ldA H2 5 (ptr i1) = some p.val := by simp [ptr, own2'.rd, Cs.cells, Cs.val]
  obtain ⟨uv, H3, K3, le3, e3, own3, up3⟩ := conf_seqone own2' hp
  have hcf : p.cf 1 uv = ⟨1, 64, q.cap, 1, q.start, uv⟩ := rfl
  have hpr : p.r = q.r := rfl
  rw [hpr] at up3
  have hgood : GoodC (p.cf 1 uv) := Cs.good hp (by omega) (by omega) up3.one
  rw [hcf] at hgood e3
  generalize hc : (⟨1, 64, q.cap, 1, q.start, uv⟩ : Cf) = c at *
  have cl : c.list = [.int .i64 1, .int .i64 64, .int .i64 q.cap, .int .i64 1, .int .u64 q.start, uv] := by rw [← hc]; rfl
  have cup : c.up = uv := by rw [← hc]
  have ccap : c.cap = q.cap := by rw [← hc]
  have cst : c.start = q.start := by rw [← hc]
  have cvar : c.var = 1 := by rw [← hc]
  have cwid : c.width = 64 := by rw [← hc]
  have cpr : c.prod = 1 := by rw [← hc]
  obtain ⟨ci, H4, e4, own4⟩ := mkbox_own own3 T.api_Conf (.agg #[.int .i64 0, .int .i64 0, .int .i64 0, .int .i64 0, .int .u64 0, .slice none 0 0]) [.int .i64 0, .int .i64 0, .int .i64 0, .int .i64 0, .int .u64 0, .slice none 0 0] rfl rfl
  obtain ⟨H5, e5, own5⟩ := stA_own own4 0 6 c.val c.list (by simp [Cf.val]) (by simp [Cf.list]) (by simp) (by simp [cl, up3.one])
  rw [show splice [Value.int .i64 0, .int .i64 0, .int .i64 0, .int .i64 0, .int .u64 0, .slice none 0 0] 0 c.list = c.list from by simp [splice, cl]] at own5
  have rx3 := rx.mono le3
  by_cases hlen : 60 < zs.length
  · refine ⟨H5, ?_⟩
    rw [F.sakialaw19_OneAlone.e]
    simp only [ptr] at *
    simp -implicitDefEqProofs [-ldA_ptr, e1, e2, q2, e3, e4, e5, rx3.alen, show (60 : Int) < zs.length from by omega, live_one]
  have b5 := cf_ld own5
  have fl : (flatUp q.r).length = q.r := flatUp_len
  have hg : GOk K3 c.up := by rw [cup]; exact gok_nil up3 flatUp_nil (by omega) (by omega)
  obtain ⟨vv, H6, K6, le6, e6, own6, up6⟩ := of_ok own5 hgood (by rw [cup]; exact up3) hg (by omega) (by omega) (fun l hl => by rw [flatUp_nil l hl]; simp)
  rw [fl] at e6
  have gl : GoodL (mkLy c q.r vv) q.r := mkLy_good hgood (by omega) (by omega) up6.one (by have := up6.alen; rw [fl] at this; exact this)
  have el : mkLy c q.r vv = ⟨1, 64, q.cap, 1, q.start, vv, q.r, -1, -1, -1, -1, -1, q.r + 1, q.r + 1 + q.cap⟩ := by rw [← hc]; rfl
  generalize hl : mkLy c q.r vv = l at *
  have lw : l.width = 64 := by rw [el]
  have lv : l.var = 1 := by rw [el]
  have lc : l.cap = q.cap := by rw [el]
  have lu : l.up = vv := by rw [el]
  have lst : l.start = q.start := by rw [el]
  have lm : l.marks = -1 := by rw [el]
  have lsl : l.slots = q.r + 1 := by rw [el]
  have ltk : l.ticket = -1 := by rw [el]
  have lsv : l.serving = -1 := by rw [el]
  have hg6 : GOk K6 l.up := by rw [lu]; exact gok_nil up6 flatUp_nil (by omega) (by omega)
  have he6 : EOk K6 l.up (rng q.r) := by rw [lu]; have := ends_nil up6 flatUp_nil (by omega) (by omega); rw [fl] at this; exact this
  have hle : leafEq l.up l.up = true := by rw [lu]; obtain ⟨hs, k1, _⟩ := up6; exact k1.valEq
  obtain ⟨i7, H7, e7, own7⟩ := mkbox_own own6 T.layout_Layout (.agg z14.toArray) z14 (by simp) (by simp [z14])
  obtain ⟨H8, e8, own8⟩ := stA_own own7 0 14 l.val l.list (by simp [Ly.val]) (by simp [Ly.list]) (by simp [z14]) (by have := up6.one; simp [Ly.list, lu, this])
  rw [show splice z14 0 l.list = l.list from by simp [splice, z14, Ly.list]] at own8
  have b8 := ly_ld own8
  obtain ⟨b, H9, e9, own9⟩ := new_u64 own8 gl hg6 (by simp [kOf, lw])
  obtain ⟨lg, H10, e10, own10⟩ := newLog own9
  obtain ⟨s, ev, H11, K11, le11, e11, own11, rd11⟩ := new_seqone_u64 (own10.up 1) (lg := lg) gl hle hg6 he6 (fun c hc => by
    obtain ⟨x, hx, rfl⟩ := List.mem_map.1 hc
    have := List.mem_range.1 hx
    omega) (by simp [rng]; omega) (by simp [kOf, lw]) lv
  have hcap := q.capOk.lt
  have cut : cutw l.width l.start = q.start := by rw [lw, lst]; simp [cutw]
  rw [cut] at own11
  have rlen : (rng q.r).length = q.r := by simp [rng]
  have cal : alen c.up = some (.int .i64 q.r) := by rw [cup]; have := up3.alen; rw [fl] at this; exact this
  have E : E1 K11 l.cf ev l q.r (4 * q.cap + q.r + 8) := ⟨gl, by omega, rd11, rfl, by rw [el]; rfl, lv, by rw [← gl.n]; rfl, by omega, by omega⟩
  let S0 : Sq := ⟨Bd.init l, [], q.start, [q.start]⟩
  have hfirst : ∀ d : Int, 0 ≤ d → firstV l d = q.start := by
    intro d hd
    unfold firstV
    rw [ltk, lsv, lm, if_neg (by omega), if_neg (by omega), cut]
  have own12 : Own K11 H11 (OneA .u64 T.seqone_Seq_u64 s b lg l.cf ev l.cursor S0.next (at_ S0.least 0) :: Bo_u64 b l S0.bd :: LogA lg S0.ev :: BoxA ci T.api_Conf c.list :: _) := (own11.up 3).tl
  obtain ⟨H', run⟩ := alone1_all E (c := c) (ci := ci) cpr (by rw [ccap, lc]) cal ((rx3.mono le6).mono le11) hz (by omega) zs.length 0 (by omega) H11 S0 q.start hq.s ⟨fun x hx => by
      obtain ⟨j, hj, rfl⟩ := List.mem_map.1 hx
      rw [hfirst _ (by omega)]; exact hq.s, hq.s, fun x hx => by simp [S0] at hx; rw [hx]; exact hq.s, by simp [S0, Bd.init], by simp [S0]⟩ ⟨by simp [S0, Bd.init, lsl], fun d h0 h1 => by
      have h2 : d.toNat < l.slots.toNat := by omega
      simp [S0, Bd.init, at_, List.getD, h2]
      exact hfirst _ (by omega)⟩ rfl own12
  refine ⟨H', ?_⟩
  have r11 := (own12.up 3).rd
  have m1 : IntKind.wrap .i64 (4 * q.cap) = 4 * q.cap := wi _ (by omega) (by omega)
  have m2 : IntKind.wrap .i64 (4 * q.cap + q.r) = 4 * q.cap + q.r := wi _ (by omega) (by omega)
  have m3 : IntKind.wrap .i64 (4 * q.cap + q.r + 8) = 4 * q.cap + q.r + 8 := wi _ (by omega) (by omega)
  rw [F.sakialaw19_OneAlone.e]
  rw [cup] at cal
  simp only [z14, ptr, cl] at *
  simp -implicitDefEqProofs [-ldA_ptr, e1, e2, q2, e3, e4, e5, rx3.alen, show ¬ (60 : Int) < zs.length from by omega, b5, e6, e7, e8, b8, e9, e10, e11, r11, cal, m1, m2, m3]
  refine run _ ⟨?_, ?_, ?_, ?_, ?_, ?_, ?_⟩ <;> simp [put, fr0, ptr]
end Go.Proofs.YtiehmpoanhacaaaDoor
