/-
  The list of a group's numbers, rising, at this program: a range over a function.
-/
import Derived.Test.YtiehmpoanhacaaaDoorLs
import Derived.Test.YtiehmpoanhacaaaDoorAmC
import Derived.RangeFuncBox
import Derived.RangeFuncNested
import Derived.RangeFuncLeaves
import Derived.Shelf.Abstract
import Derived.OwnWalkIn
import Derived.TacticsInMore
import Derived.LoopNIn
import Derived.LoopIn
import Derived.Maps.AppendAt
set_option linter.unusedSectionVars false
set_option linter.unusedVariables false
set_option linter.unusedSimpArgs false
namespace Go.Proofs.YtiehmpoanhacaaaDoor
open Go Go.RowKit Go.Shelf Go.Proofs.SakAm

attribute [local go_sem] Oper.semAt_some

/-- What is left, read off the two slots. -/
def leftOf (i : Value) : Value → Nat | .bool true => 65 - (intOf i).toNat | _ => 0


/-- What a round keeps: what lay, and the box that the iterator reads. -/
def Keep (n₀ Bn : Nat) (W W' : World) : Prop := Below n₀ W W' ∧ W'.heap[Bn]? = W.heap[Bn]?

/-- The least number, 0 of none. -/
def lst (y : Nat) : Nat := if y = 0 then 0 else Lib.ctz 64 y
/-- What lies above a number. -/
def up (g c : Nat) : Nat := if c < 63 then above g (c + 1) else 0

theorem least_any (x : Nat) (hx : x < 18446744073709551616) (w : World) (hT : TabAt 0 Lib.deBruijn64tab w) :
    Calls Tryd.prog 199 #[.int .u64 x] w fun e w' => e = .returned (.tuple #[.int .i64 (lst x : Nat), .bool (x != 0)]) ∧ w' = w := by
  by_cases h : x = 0
  · subst h; exact least_none w
  · have := least_some x hx h w hT
    rw [show lst x = Lib.ctz 64 x from if_neg h, show (x != 0) = true from by simpa using h]
    exact this

theorem next_any (g c : Nat) (hg : g < 18446744073709551616) (hc : c < 64) (w : World) (hT : TabAt 0 Lib.deBruijn64tab w) :
    Calls Tryd.prog 200 #[.int .u64 g, .int .i64 c] w fun e w' => e = .returned (.tuple #[.int .i64 (lst (up g c) : Nat), .bool (up g c != 0)]) ∧ w' = w := by
  by_cases h : c < 63
  · rw [show up g c = above g (c + 1) from if_pos h]
    have key := above_key g (c + 1) hg (by omega)
    by_cases h0 : above g (c + 1) = 0
    · rw [h0] at key ⊢
      exact next_none g c hg h w key
    · have := next_mid g c _ hg h w (above_lt g _ hg) h0 hT key
      rw [show lst (above g (c + 1)) = Lib.ctz 64 (above g (c + 1)) from if_neg h0, show (above g (c + 1) != 0) = true from by simpa using h0]
      exact this
  · rw [show up g c = 0 from if_neg h]
    exact next_end g c (by omega) hc w

/-- What is still to come, from the least of y on. -/
def Rest (g y : Nat) (rest : List Nat) : Prop := (y = 0 → rest = []) ∧ (y ≠ 0 → lst y < 64 ∧ rest = lst y :: els g (lst y + 1) (64 - (lst y + 1)))

theorem rest_first (g : Nat) (hg : g < 18446744073709551616) : Rest g g (els g 0 64) := by
  refine ⟨fun h => ?_, fun h => ?_⟩
  · subst h; exact els_above_none 0 0 (by omega) (above_zero 0 (by omega))
  · have := els_above_some g 0 hg (by omega) (by rw [above_zero g hg]; exact h)
    rw [above_zero g hg] at this
    rw [show lst g = Lib.ctz 64 g from if_neg h]
    exact ⟨this.1, this.2.2⟩

theorem rest_next (g c : Nat) (hg : g < 18446744073709551616) (hc : c < 64) : Rest g (up g c) (els g (c + 1) (64 - (c + 1))) := by
  by_cases h : c < 63
  · rw [show up g c = above g (c + 1) from if_pos h]
    refine ⟨fun h0 => els_above_none g _ (by omega) h0, fun h0 => ?_⟩
    have := els_above_some g (c + 1) hg (by omega) h0
    rw [show lst (above g (c + 1)) = Lib.ctz 64 (above g (c + 1)) from if_neg h0]
    exact ⟨this.1, this.2.2⟩
  · rw [show up g c = 0 from if_neg h]
    refine ⟨fun _ => ?_, fun h => absurd rfl h⟩
    rw [show 64 - (c + 1) = 0 from by omega]; rfl

theorem up_lst (g c : Nat) (hg : g < 18446744073709551616) (hc : c < 64) (h : up g c ≠ 0) : c < lst (up g c) ∧ lst (up g c) < 64 := by
  by_cases h3 : c < 63
  · rw [show up g c = above g (c + 1) from if_pos h3] at h ⊢
    have := els_above_some g (c + 1) hg (by omega) h
    rw [show lst (above g (c + 1)) = Lib.ctz 64 (above g (c + 1)) from if_neg h]
    omega
  · exact absurd (if_neg h3) h

set_option maxRecDepth 100000 in
set_option maxHeartbeats 1000000 in
theorem all1_in (g : Nat) (hgt : g < 18446744073709551616) (n : Nat) (hn : 1 ≤ n) (l Bn n₀ : Nat) (hn0 : 0 < n₀) (J Jx : List Nat → World → Prop)
    (hY : ∀ pre x W, J pre W → pre.length < (els g 0 64).length → YieldAt Fence.wide (n - 1) Tryd.prog l #[.int .i64 (x : Nat)] W fun e W' =>
      (e = .returned (.bool true) ∧ J (pre ++ [x]) W' ∧ Keep n₀ Bn W W') ∨ (e = .returned (.bool false) ∧ Jx (pre ++ [x]) W'))
    (W : World) (hT : TabAt 0 Lib.deBruijn64tab W) (hBn : W.cell? ⟨Bn, 0, none⟩ = some (.int .u64 (g : Nat))) (h0 : J [] W) :
    CallsIn Fence.wide n Tryd.prog 198 #[.func (.yield l) #[] #[], .pointer (some ⟨Bn, 0, none⟩)] W fun e W' => (∃ v, e = .returned v) ∧
      ((∃ ys, ys = els g 0 64 ∧ J ys W') ∨ (∃ pre, pre <+: els g 0 64 ∧ Jx pre W')) := by
  refine callsIn_of_wp Tryd.func198 rfl trivial ?_ rfl
  simp only [Tryd.ntmps198, List.size_toArray, List.length_cons, List.length_nil, Nat.reduceAdd, Nat.reduceSub, Array.replicate_succ, Array.replicate_zero, List.push_toArray, List.append_toArray, List.nil_append, List.cons_append]
  gi_wp2_with (refine ⟨trivial, ?_⟩; gi_at_call 199; refine (callsIn_wide.2 (least_any g hgt W hT)).mono ?_; rintro e w' ⟨rfl, rfl⟩)
  rename_i W
  gi_loopw [3, 4] (fun i ok wr => ∃ (y : Nat) (pre rest : List Nat), i = .int .i64 (lst y : Nat) ∧ ok = .bool (y != 0) ∧ els g 0 64 = pre ++ rest ∧ Rest g y rest ∧ J pre wr ∧ TabAt 0 Lib.deBruijn64tab wr ∧ wr.cell? ⟨Bn, 0, none⟩ = some (.int .u64 (g : Nat)))
    (fun i ok _ => leftOf i ok)
  case atStart =>
    exact ⟨g, [], els g 0 64, rfl, rfl, rfl, rest_first g hgt, h0, hT, hBn⟩
  case round =>
    obtain ⟨y, pre, rest, rfl, rfl, hx, hr, hJs, hTr, hBr⟩ := hrel
    by_cases hy0 : y = 0
    · subst hy0
      obtain rfl := hr.1 rfl
      rw [show ((0 : Nat) != 0) = false from rfl]
      gi_wp2
      refine ⟨fun _ h => (by cases h), ?_⟩
      gi_wp2
      go_end0
      exact ⟨⟨_, rfl⟩, .inl ⟨pre, by simp [hx], hJs⟩⟩
    · obtain ⟨hc, rfl⟩ := hr.2 hy0
      have hyt : (y != 0) = true := by simpa using hy0
      rw [hyt]
      obtain ⟨fn, tmps, assign, body, hy, hR⟩ := hY pre (lst y) wr hJs (by rw [hx]; simp)
      gi_wp2
      refine hR.mono ?_
      rintro e W3 (⟨rfl, hJ3, hk3⟩ | ⟨rfl, hJx3⟩)
      · have hb3 : W3.cell? ⟨Bn, 0, none⟩ = some (.int .u64 (g : Nat)) := (World.cell?_of_block (w := wr) (a := ⟨Bn, 0, none⟩) hk3.2).trans hBr
        have hT3 := hTr.below hk3.1 hn0
        gi_wp2_with (refine ⟨trivial, ?_⟩; gi_at_call 200; refine (callsIn_wide.2 (next_any g (lst y) hgt hc W3 hT3)).mono ?_; rintro e w' ⟨rfl, rfl⟩)
        go_roundw
        case rel => exact ⟨up g (lst y), pre ++ [lst y], els g (lst y + 1) (64 - (lst y + 1)), rfl, rfl, by simp [hx], rest_next g _ hgt hc, hJ3, hT3, hb3⟩
        case measure =>
          by_cases hu : up g (lst y) = 0
          · simp [hu, leftOf, intOf]; omega
          · have := up_lst g (lst y) hgt hc hu
            have hut : (up g (lst y) != 0) = true := by simpa using hu
            simp [hut, leftOf, intOf]; omega
      · gi_wp2
        go_end0
        exact ⟨⟨_, rfl⟩, .inr ⟨pre ++ [lst y], ⟨els g (lst y + 1) (64 - (lst y + 1)), by simp [hx]⟩, hJx3⟩⟩

set_option maxHeartbeats 1000000 in
theorem all_in (g : Nat) (n : Nat) (w : World) :
    CallsIn Fence.wide n Tryd.prog 184 #[.int .u64 (g : Nat)] w fun e w' => e = .returned (.func (.func 198) #[] #[.pointer (some ⟨w.heap.size, 0, none⟩)]) ∧ w' = w.alloc (.cells #[.int .u64 (g : Nat)] 192) := by
  refine callsIn_of_wp Tryd.func184 rfl trivial ?_ rfl
  simp only [Tryd.ntmps184, List.size_toArray, List.length_cons, List.length_nil, Nat.reduceAdd, Nat.reduceSub, Array.replicate_succ, Array.replicate_zero, List.push_toArray, List.append_toArray, List.nil_append, List.cons_append]
  gi_wp2
  go_ret
  exact ⟨rfl, rfl⟩

theorem all_stops (g : Nat) (hgt : g < 18446744073709551616) (n : Nat) (hn : 1 ≤ n) (Bn n₀ : Nat) (hn0 : 0 < n₀) (w : World) (hBn : Bn < w.heap.size) (hn₀ : n₀ ≤ w.heap.size)
    (hT : TabAt 0 Lib.deBruijn64tab w) (hc : w.cell? ⟨Bn, 0, none⟩ = some (.int .u64 (g : Nat))) :
    SeqStopsK Fence.wide n Tryd.prog 198 #[.pointer (some ⟨Bn, 0, none⟩)] (fun x : Nat => #[Value.int .i64 (x : Nat)]) (Keep n₀ Bn) (fun ys => ys = els g 0 64) (fun pre => pre <+: els g 0 64) (els g 0 64).length w := fun l J Jx W hW _ _ hY h0 =>
  all1_in g hgt n hn l Bn n₀ hn0 J Jx hY W (hT.below hW (by omega)) ((hW.cell (p := ⟨Bn, 0, none⟩) hBn).trans hc) h0

theorem info3 : (Tryd.prog.info? 3).map (fun i => (i.zero, i.size, i.bytes)) = some (some (.int .i64 0), 1, 8) := by kernel_rfl

set_option maxRecDepth 100000 in
set_option maxHeartbeats 2000000 in
theorem list_in (g : Nat) (hgt : g < 18446744073709551616) (w : World) (hw : 0 < w.heap.size) (hT : TabAt 0 Lib.deBruijn64tab w) :
    Calls Tryd.prog 155 #[.int .u64 (g : Nat)] w fun e W' => ∃ v, e = .returned v ∧ W'.ownsRow w.heap.size 3 1 v (els g 0 64).length ((els g 0 64).map (fun x : Nat => Value.int .i64 x)) ∧ (v = .slice none 0 0 ↔ els g 0 64 = []) ∧ Below w.heap.size w W' := by
  refine (callsIn_wide (n := 3)).1 ?_
  have h1 : 1 ≤ 3 := by omega
  have hlen := els_length g 64 0
  obtain ⟨i0, hi, hz0, hz1, hz2⟩ := info_parts info3
  refine callsIn_of_wp_marks Tryd.func155 rfl trivial ?_ rfl
  simp only [Tryd.ntmps155, List.size_toArray, List.length_cons, List.length_nil, Nat.reduceAdd, Nat.reduceSub, Array.replicate_succ, Array.replicate_zero, List.push_toArray, List.append_toArray, List.nil_append, List.cons_append]
  gi_wp2_with (refine ⟨trivial, ?_⟩; gi_at_call 184; refine (all_in g _ _).mono ?_; rintro e w' ⟨rfl, rfl⟩)
  have bO := Boxed.new w 49 (.slice none 0 0)
  have bN := Boxed.new (w.alloc (.cells #[.slice none 0 0] 49)) 192 (.int .u64 (g : Nat))
  rw [World.size_alloc] at bN
  have hB0 : Below w.heap.size w ((w.alloc (.cells #[.slice none 0 0] 49)).alloc (.cells #[.int .u64 (g : Nat)] 192)) := ((Below.refl _ w).alloc (Nat.le_refl _) _).alloc (by simp) _
  refine wpIn_rangeFunc_ownG rfl h1 (gf := 198) (lb := #[.pointer (some ⟨w.heap.size + 1, 0, none⟩)]) rfl trivial (enters_of Tryd.func198 (by kernel_rfl) rfl)
    (all_stops g hgt (3 - 1) (by omega) (w.heap.size + 1) w.heap.size hw _ (by simp) (by simp; omega) (hT.below hB0 hw) bN.cell)
    (fun h k => ⟨h.1.trans k.1, k.2.trans h.2⟩)
    (fun W l o o' hl h ho hwk => ⟨belowK_b (n₀ := w.heap.size) (by simp; omega) W l o o' hl h ho hwk, World.putObj_heap_other (by simp at hl; omega)⟩)
    (Below.refl _ _) (fun _ => rfl)
    (fun pre W => ((∃ v, Boxed W w.heap.size 49 v ∧ W.ownsRow w.heap.size 3 1 v pre.length (pre.map (fun x : Nat => Value.int .i64 x)) ∧ (v = .slice none 0 0 ↔ pre = [])) ∧ Boxed W (w.heap.size + 1) 192 (.int .u64 (g : Nat))) ∧ Below w.heap.size w W)
    (fun _ _ _ => False)
    (OwnFrom.and (OwnFrom.and (Own.from (holdsRow_own w.heap.size w.heap.size 49 3 1 (fun pre : List Nat => pre.length) (fun pre => pre.map (fun x : Nat => Value.int .i64 x)) (fun pre v => v = .slice none 0 0 ↔ pre = [])) _) (Own.from (boxed_own _ _ (fun _ => _)) _)) (ownFrom_below (Nat.le_refl _) (by simp; omega)))
    (fun _ _ _ _ _ hs _ _ => hs)
    ⟨⟨⟨_, bO.alloc _, World.ownsRow_nil _ _ _ _, by simp⟩, bN⟩, hB0⟩
    (fun x => { tmps := #[.int .u64 (g : Nat), undef, .slice none 0 0, .pointer (some ⟨w.heap.size, 0, none⟩), .int .i64 (x : Nat), .int .u64 (g : Nat), .func (.func 198) #[] #[.pointer (some ⟨w.heap.size + 1, 0, none⟩)], .int .i64 (x : Nat), undef, undef, undef, undef, undef], defers := [] }) ?assign ?body ?done ?stop
  case assign =>
    intro l x W K hK
    gi_wp2
    exact hK
  case body =>
    rintro l pre x W ⟨⟨⟨v, hv, hrow, hnil⟩, hN⟩, hB⟩ hlt
    have hc := hv.cell
    gi_wp2_with (gi_at_builtin; refine wpListIn_append_own _ rfl _ _ 49 rfl w.heap.size 3 i0 (.int .i64 0) 1 8 Tryd.underlying49 hi hz0 hz1 hz2 rfl (by decide) _ _ _ rfl (hrow.alloc _) ⟨W.heap.size, 0, none⟩ 1 1 [.int .i64 (x : Nat)] rfl rfl (cell_one_new _ _ _) (by simp [Value.oneCell']) (by unfold maxLen; omega) (by omega) (by have := hB.size; simp; omega) ?_; intro v' w1 hown' hgrow _; obtain ⟨g', cap', rfl⟩ := ownsRow_succ hown'; obtain ⟨hv1, hv2, hr2, hk2, hb2⟩ := hv.appended (by decide) hrow hB.size (Nat.le_refl _) hown' hgrow; have hN1 := (hN.alloc _).kept hgrow (hN.not_row (by decide) hrow); have hN2 := hN1.other (B' := w.heap.size) (by omega) (.slice (some ⟨g', 0, none⟩) (pre.length + 1) cap'); have hc1 := hv1.cell; have hf1 := hv1.frozen)
    exact ⟨hk2.from _, ⟨hb2, (show _ = _ from hN2).trans (show _ = _ from hN).symm⟩, ⟨⟨_, hv2, by simpa using hr2, by simp⟩, hN2⟩, hB.trans hb2⟩
  case done =>
    rintro D ys W hD rfl ⟨⟨⟨v, hv, hrow, hnil⟩, hN⟩, hB⟩ hK
    have hc := hv.cell
    gi_wp2
    refine ⟨by simp, .inl ⟨_, _, rfl, run_takeDeferred hK, ?_⟩⟩
    exact ⟨_, results_tmp rfl _ _ _, v, rfl, ownsRow_putObj hrow _ hK rfl, hnil, hB.trans (belowK_b (w := w) (Nat.le_refl _) W D _ _ (by simp at hD; omega) hK rfl rfl)⟩
  case stop =>
    rintro D c pre W _ _ h _
    exact h.elim
end Go.Proofs.YtiehmpoanhacaaaDoor
