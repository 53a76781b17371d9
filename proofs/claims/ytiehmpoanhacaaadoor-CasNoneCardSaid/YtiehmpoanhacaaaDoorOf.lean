/-
  The layout of a configuration that may be.
-/
import Derived.Test.YtiehmpoanhacaaaDoorGr
set_option maxRecDepth 100000
set_option linter.unusedVariables false
set_option linter.unusedSimpArgs false
set_option maxHeartbeats 100000
namespace Go.Proofs.YtiehmpoanhacaaaDoor
open Go Go.Proofs.SakAm
attribute [local congr] obind_c condK_c ifD_c

section
variable {K : Kept} {H : Heap} {L : List Asrt}

def z14 : List Value := [.int .i64 0, .int .i64 0, .int .i64 0, .int .i64 0, .int .u64 0, .slice none 0 0, .int .i64 0, .int .i64 0, .int .i64 0, .int .i64 0, .int .i64 0, .int .i64 0, .int .i64 0, .int .i64 0]

theorem of_join {i1 i2 i3 : Nat} {t1 t2 t3 : TypeId} {c : Cf} {l : Ly} {z : List Value} (own : Own K H (BoxA i3 t3 l.list :: BoxA i2 t2 z :: BoxA i1 t1 c.list :: L)) (hz : z.length = 14) (hu : one l.up = true)
    (at_ : Int) (h0 : 0 ≤ at_) (h1 : at_ < 1000000) (hc : CapOk c.cap) :
    ∃ H', (∀ a : Fr, a 1 = .pointer (some ⟨i1, 0, some 0⟩) → a 2 = .pointer (some ⟨i2, 0, some 0⟩) → a 5 = .int .i64 at_ → a 6 = .pointer (some ⟨i3, 0, some 0⟩) → R F.layout_Of.f F.layout_Of.b0 a H = some (.tuple #[({ l with slots := at_, cells := at_ + c.cap } : Ly).val, .int .i64 0], H')) ∧ Own K H' L := by
  have hcl := hc.lt
  have r1 := (own.up 2).rd
  obtain ⟨H1, e1, own1⟩ := st1_own own 12 (.int .i64 at_) (by simp [Ly.list]) rfl
  have r2 := (own1.up 2).rd
  obtain ⟨H2, e2, own2⟩ := st1_own own1 13 (.int .i64 (at_ + c.cap)) (by simp [Ly.list]) rfl
  have own2' : Own K H2 (BoxA i3 t3 ({ l with slots := at_, cells := at_ + c.cap } : Ly).list :: BoxA i2 t2 z :: BoxA i1 t1 c.list :: L) := own2
  have r3 := ly_ld own2'
  obtain ⟨H3, e3, own3⟩ := stA_own (own2'.up 1) 0 14 ({ l with slots := at_, cells := at_ + c.cap } : Ly).val _ (by simp [Ly.val]; rfl) (by simp [Ly.list]) (by omega) (by simp [Ly.list, hu])
  have hsp : splice z 0 ({ l with slots := at_, cells := at_ + c.cap } : Ly).list = ({ l with slots := at_, cells := at_ + c.cap } : Ly).list := by
    simp [splice, List.drop_eq_nil_of_le (show z.length ≤ 14 from by omega), Ly.list]
  rw [hsp] at own3
  have r4 := ly_ld own3
  refine ⟨H3, fun a a1 a2 a5 a6 => ?_, own3.tl.tl.tl⟩
  have hs : IntKind.wrap .i64 (at_ + c.cap) = at_ + c.cap := wi _ (by omega) (by omega)
  rw [F.layout_Of.e0, a1, a2, a5, a6]
  simp [-ldA_ptr, r1, Cf.list, hs, e1, r2, e2, r3, e3, r4]

theorem fill_ly (c : Cf) : fillL [Value.int IntKind.i64 0, Value.int IntKind.i64 0, Value.int IntKind.i64 0, Value.int IntKind.i64 0, Value.int IntKind.u64 0, Value.slice none 0 0, Value.int IntKind.i64 0, Value.int IntKind.i64 0, Value.int IntKind.i64 0, Value.int IntKind.i64 0, Value.int IntKind.i64 0, Value.int IntKind.i64 0, Value.int IntKind.i64 0, Value.int IntKind.i64 0] [(0, 6, c.val), (6, 1, Value.int IntKind.i64 (-1)), (7, 1, Value.int IntKind.i64 (-1)), (8, 1, Value.int IntKind.i64 (-1)), (9, 1, Value.int IntKind.i64 (-1)), (10, 1, Value.int IntKind.i64 (-1)), (11, 1, Value.int IntKind.i64 (-1))] =
    some (⟨c.var, c.width, c.cap, c.prod, c.start, c.up, -1, -1, -1, -1, -1, -1, 0, 0⟩ : Ly).list := by kernel_rfl

theorem of_ok (own : Own K H L) {c : Cf} (g : GoodC c) {up : List (List Int)} (hu : UpIs K c.up up) (hg : GOk K c.up) (n1 : 1 ≤ up.length) (n2 : up.length ≤ 6) (hl : ∀ l, l ∈ up → l.length ≤ 1000) :
    ∃ uv H' K', K.le K' ∧ C F.layout_Of [c.val] H = some (.tuple #[(mkLy c up.length uv).val, .int .i64 0], H') ∧ Own K' H' L ∧ UpIs K' uv up := by
  have hcl := g.cap.lt
  obtain ⟨i1, H1, e1, own1, b1⟩ := cf_box own c g.up
  obtain ⟨i2, H2, e2, own2⟩ := mkbox_own own1 T.layout_Layout (.agg z14.toArray) z14 (by simp) (by simp [z14])
  have b2 := cf_ld (own2.up 1)
  obtain ⟨H3, e3, own3⟩ := check_ok own2 g hg
  have r3 := (own3.up 1).rd
  obtain ⟨uv, H4, K', le, e4, own4, hu'⟩ := copy_ok own3 hu (by omega) hl
  obtain ⟨H5, e5, own5⟩ := st1_own (own4.up 1) 5 uv (by simp [Cf.list]) hu'.one
  have own5' : Own K' H5 (BoxA i1 T.api_Conf ({ c with up := uv } : Cf).list :: BoxA i2 T.layout_Layout z14 :: L) := own5
  have b5 := cf_ld own5'
  have r5 := own5'.rd
  obtain ⟨i3, H6, e6, own6⟩ := mkbox_own own5' T.layout_Layout (.agg z14.toArray) z14 (by simp) (by simp [z14])
  let l0 : Ly := ⟨c.var, c.width, c.cap, c.prod, c.start, uv, -1, -1, -1, -1, -1, -1, 0, 0⟩
  obtain ⟨H7, e7, own7⟩ := stA_own own6 0 14 l0.val l0.list (by simp [Ly.val]) (by simp [Ly.list]) (by simp [z14]) (by simp [Ly.list, l0, hu'.one])
  have hsp : splice z14 0 l0.list = l0.list := by simp [splice, z14, Ly.list]
  rw [hsp] at own7
  have r7 := (own7.up 1).rd
  have own8 : Own K' H7 (BoxA i3 T.layout_Layout l0.list :: BoxA i2 T.layout_Layout z14 :: BoxA i1 T.api_Conf ({ c with up := uv } : Cf).list :: L) := (own7.up 2).up 1
  have q : ∀ k : Int, 0 ≤ k → k ≤ 3 → IntKind.wrap .i64 ((up.length : Int) + k) = up.length + k := fun k h1 h2 => wi _ (by omega) (by omega)
  have q3 : IntKind.wrap .i64 ((up.length : Int) + 3 + c.cap) = up.length + 3 + c.cap := wi _ (by omega) (by omega)
  have q1 : IntKind.wrap .i64 ((up.length : Int) + 1 + c.cap) = up.length + 1 + c.cap := wi _ (by omega) (by omega)
  have l0eq : ({ var := c.var, width := c.width, cap := c.cap, prod := c.prod, start := c.start, up := uv, cursor := -1, claim := -1, ticket := -1, serving := -1, next := -1, marks := -1, slots := 0, cells := 0 } : Ly).list = [.int .i64 c.var, .int .i64 c.width, .int .i64 c.cap, .int .i64 c.prod, .int .u64 c.start, uv, .int .i64 (-1), .int .i64 (-1), .int .i64 (-1), .int .i64 (-1), .int .i64 (-1), .int .i64 (-1), .int .i64 0, .int .i64 0] := rfl
  have e2' : mkbox H1 none T.layout_Layout (.agg #[.int .i64 0, .int .i64 0, .int .i64 0, .int .i64 0, .int .u64 0, .slice none 0 0, .int .i64 0, .int .i64 0, .int .i64 0, .int .i64 0, .int .i64 0, .int .i64 0, .int .i64 0, .int .i64 0]) = _ := e2
  have e6' : mkbox H5 none T.layout_Layout (.agg #[.int .i64 0, .int .i64 0, .int .i64 0, .int .i64 0, .int .u64 0, .slice none 0 0, .int .i64 0, .int .i64 0, .int .i64 0, .int .i64 0, .int .i64 0, .int .i64 0, .int .i64 0, .int .i64 0]) = _ := e6
  have e7' : stA H6 14 (.pointer (some ⟨i3, 0, some 0⟩)) (.agg #[.int .i64 c.var, .int .i64 c.width, .int .i64 c.cap, .int .i64 c.prod, .int .u64 c.start, uv, .int .i64 (-1), .int .i64 (-1), .int .i64 (-1), .int .i64 (-1), .int .i64 (-1), .int .i64 (-1), .int .i64 0, .int .i64 0]) = _ := e7
  have hcv : cellsOf ({ c with up := uv } : Cf).val = ({ c with up := uv } : Cf).list := by simp [Cf.val]
  have cl : ∀ w, ({ c with up := w } : Cf).list = [.int .i64 c.var, .int .i64 c.width, .int .i64 c.cap, .int .i64 c.prod, .int .u64 c.start, w] := fun _ => rfl
  have cl0 : c.list = [.int .i64 c.var, .int .i64 c.width, .int .i64 c.cap, .int .i64 c.prod, .int .u64 c.start, c.up] := rfl
  have hfill := fill_ly ({ c with up := uv } : Cf)
  refine ⟨uv, ?_⟩
  by_cases v1 : c.var = 1
  · obtain ⟨H8, e8, own9⟩ := st1_own own8 6 (.int .i64 up.length) (by simp [Ly.list]) rfl
    have own9' : Own K' H8 (BoxA i3 T.layout_Layout ({ l0 with cursor := (up.length : Int) } : Ly).list :: BoxA i2 T.layout_Layout z14 :: BoxA i1 T.api_Conf ({ c with up := uv } : Cf).list :: L) := own9
    have hm : mkLy c up.length uv = ({ { l0 with cursor := (up.length : Int) } with slots := up.length + 1, cells := up.length + 1 + c.cap } : Ly) := by simp only [mkLy, if_pos v1, l0]
    rw [hm]
    obtain ⟨H9, join, own10⟩ := of_join own9' (by simp [z14]) hu'.one (up.length + 1) (by omega) (by omega) (c := { c with up := uv }) g.cap
    refine ⟨H9, K', le, ?_, own10, hu'⟩
    have hv : (c.var == 1) = true := by simp [v1]
    rw [F.layout_Of.e]
    simp -implicitDefEqProofs [-ldA_ptr, e1, b1, e2', b2, e3, r3, cl0, e4, e5, r5, cl, b5, hu'.alen, e6', hfill, e7', l0eq, r7, q, hv, e8]
    exact join _ (by simp [put]) (by simp [put]) (by simp [put]) (by simp [put])
  · have hv : (c.var == 1) = false := by simp [v1]
    by_cases v5 : c.var = 5
    · have hv5 : (c.var == 5) = true := by simp [v5]
      obtain ⟨H8, e8, own9⟩ := st1_own own8 8 (.int .i64 up.length) (by simp [Ly.list]) rfl
      obtain ⟨H9, e9, own10⟩ := st1_own own9 9 (.int .i64 (up.length + 1)) (by simp [Ly.list]) rfl
      obtain ⟨H10, e10, own11⟩ := st1_own own10 10 (.int .i64 (up.length + 2)) (by simp [Ly.list]) rfl
      obtain ⟨H11, e11, own12⟩ := st1_own own11 11 (.int .i64 (up.length + 3)) (by simp [Ly.list]) rfl
      have s1 := (own9.up 2).rd
      have s2 := (own10.up 2).rd
      have s3 := (own11.up 2).rd
      have s4 := (own12.up 2).rd
      have own12' : Own K' H11 (BoxA i3 T.layout_Layout ({ l0 with ticket := (up.length : Int), serving := up.length + 1, next := up.length + 2, marks := up.length + 3 } : Ly).list :: BoxA i2 T.layout_Layout z14 :: BoxA i1 T.api_Conf ({ c with up := uv } : Cf).list :: L) := own12
      have hm : mkLy c up.length uv = ({ { l0 with ticket := (up.length : Int), serving := up.length + 1, next := up.length + 2, marks := up.length + 3 } with slots := up.length + 3 + c.cap, cells := up.length + 3 + c.cap + c.cap } : Ly) := by simp only [mkLy, if_neg v1, if_pos v5, l0]
      rw [hm]
      obtain ⟨H12, join, own13⟩ := of_join own12' (by simp [z14]) hu'.one (up.length + 3 + c.cap) (by omega) (by omega) (c := { c with up := uv }) g.cap
      refine ⟨H12, K', le, ?_, own13, hu'⟩
      rw [F.layout_Of.e]
      simp -implicitDefEqProofs [-ldA_ptr, e1, b1, e2', b2, e3, r3, cl0, e4, e5, r5, cl, b5, hu'.alen, e6', hfill, e7', l0eq, r7, q, hv, hv5, e8, e9, e10, e11, s1, s2, s3, s4, q3]
      exact join _ (by simp [put]) (by simp [put]) (by simp [put]) (by simp [put])
    · have hv5 : (c.var == 5) = false := by simp [v5]
      obtain ⟨H8, e8, own9⟩ := st1_own own8 7 (.int .i64 up.length) (by simp [Ly.list]) rfl
      obtain ⟨H9, e9, own10⟩ := st1_own own9 11 (.int .i64 (up.length + 1)) (by simp [Ly.list]) rfl
      have s1 := (own9.up 2).rd
      have s2 := (own10.up 2).rd
      have own12' : Own K' H9 (BoxA i3 T.layout_Layout ({ l0 with claim := (up.length : Int), marks := up.length + 1 } : Ly).list :: BoxA i2 T.layout_Layout z14 :: BoxA i1 T.api_Conf ({ c with up := uv } : Cf).list :: L) := own10
      have hm : mkLy c up.length uv = ({ { l0 with claim := (up.length : Int), marks := up.length + 1 } with slots := up.length + 1 + c.cap, cells := up.length + 1 + c.cap + c.cap } : Ly) := by simp only [mkLy, if_neg v1, if_neg v5, l0]
      rw [hm]
      obtain ⟨H12, join, own13⟩ := of_join own12' (by simp [z14]) hu'.one (up.length + 1 + c.cap) (by omega) (by omega) (c := { c with up := uv }) g.cap
      refine ⟨H12, K', le, ?_, own13, hu'⟩
      rw [F.layout_Of.e]
      simp -implicitDefEqProofs [-ldA_ptr, e1, b1, e2', b2, e3, r3, cl0, e4, e5, r5, cl, b5, hu'.alen, e6', hfill, e7', l0eq, r7, q, hv, hv5, e8, e9, s1, s2, q1]
      exact join _ (by simp [put]) (by simp [put]) (by simp [put]) (by simp [put])
end
end Go.Proofs.YtiehmpoanhacaaaDoor
