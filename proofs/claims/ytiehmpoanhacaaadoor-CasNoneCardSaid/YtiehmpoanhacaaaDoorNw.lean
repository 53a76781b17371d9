/-
  A board as it is made.
-/
import Derived.Test.YtiehmpoanhacaaaDoorBo
set_option maxRecDepth 100000
set_option linter.unusedVariables false
set_option linter.unusedSimpArgs false
set_option maxHeartbeats 400000
namespace Go.Proofs.YtiehmpoanhacaaaDoor
open Go Go.Proofs.SakAm
attribute [local congr] obind_c condK_c ifD_c

def firsts (l : Ly) (n : Nat) : List Int := (List.range n).map (fun (j : Nat) => firstV l (j : Int))

section
variable {K : Kept} {H : Heap} {L : List Asrt} {l : Ly} {r : Nat}
theorem new_loop_u32 (g : GoodL l r) (hg : GOk K l.up) (hw : kOf l.width = .u32) {i b : Nat} {da : List Int} :
    ∀ (n j : Nat), j + n = l.slots.toNat → ∀ (H : Heap), Own K H (BoxA i T.layout_Layout l.list :: Bo_u32 b l ⟨firsts l j, da, []⟩ :: L) →
      ∀ a : Fr, a 24 = .int .i64 j → a 23 = .int .i64 l.slots → a 3 = .pointer (some ⟨b, 0, some 0⟩) → a 1 = .pointer (some ⟨i, 0, some 0⟩) →
        ∃ H', R F.board_New_u32.f F.board_New_u32.b0 a H = some (.pointer (some ⟨b, 0, some 0⟩), H') ∧ Own K H' (Bo_u32 b l ⟨firsts l l.slots.toNat, da, []⟩ :: L)
  | 0, j, hj, H, own, a, h24, h23, h3, h1 => by
    have hs := g.slots
    rw [F.board_New_u32.e0, h24, h23, h3]
    have : j = l.slots.toNat := by omega
    subst this
    refine ⟨H, ?_, own.tl⟩
    have e : ((l.slots.toNat : Nat) : Int) = l.slots := by omega
    rw [e]
    simp -implicitDefEqProofs
  | n + 1, j, hj, H, own, a, h24, h23, h3, h1 => by
    have hs := g.slots
    have hr := g.r1
    have own1 := own.reserve 14 [9] (by decide) (by decide)
    have own2 : Own K (H.reserve 14) (BoxA i T.layout_Layout l.list :: FreeA (H.next + 9) :: Bo_u32 b l ⟨firsts l j, da, []⟩ :: L) := own1.up 1
    have b2 := ly_ld own2
    obtain ⟨ch, dh, lh, own3⟩ := bo_open (own2.up 2)
    have r3 := own3.rd
    obtain ⟨H1, e1, own4⟩ := first_ok own3 g hg j (by omega) (by omega)
    have r4 := own4.rd
    have hf : InR .u32 (firstV l j) := hw ▸ inR_firstV g j
    have hf64 : InR .u64 (firstV l j) := by have := hf; simp only [inR32, inR64] at this ⊢; omega
    have own5 : Own K H1 (FreeA (H.next + 9) :: BoxA b T.board_Board_u32 (l.list ++ [ch.val, dh.val, lh.val]) :: SlA ch T.uint32 1 ((firsts l j).map fun x => Value.int .u32 x) :: SlA dh T.int 1 (da.map fun x => Value.int .i64 x) :: SlA lh T.api_Access 5 [] :: BoxA i T.layout_Layout l.list :: L) := own4.up 5
    obtain ⟨H2, e2, own6⟩ := mkrow_at own5 T.uint32 1 [.int .u32 (firstV l j)] rfl
    have own7 := own6.up 2
    have hl := own7.slen
    simp only [firsts, List.length_map, List.length_range, Nat.mul_one] at hl
    obtain ⟨ch', H3, e3, hn3, own8⟩ := append_own (m := 1) (bytes := 4) own7 (rowOf_row own6 (n := 1) (z := 1) rfl) rfl rfl (by omega) (by omega) (by omega)
    obtain ⟨H4, e4, own9⟩ := st1_own (own8.up 2) 14 ch'.val (by simp [Ly.list]) (by simp)
    have own10 : Own K H4 (BoxA b T.board_Board_u32 (l.list ++ [ch'.val, dh.val, lh.val]) :: SlA ch' T.uint32 1 ((firsts l j).map (fun x => Value.int .u32 x) ++ [.int .u32 (firstV l j)]) :: SlA dh T.int 1 (da.map fun x => Value.int .i64 x) :: SlA lh T.api_Access 5 [] :: BoxA i T.layout_Layout l.list :: L) := (own9.up 2).tl
    have hmap : (firsts l j).map (fun x => Value.int .u32 x) ++ [.int .u32 (firstV l j)] = (firsts l (j + 1)).map (fun x => Value.int .u32 x) := by
      simp [firsts, List.range_succ]
    rw [hmap] at own10
    have own11 := (bo_close (B := ⟨firsts l (j + 1), da, []⟩) (k := .u32) own10).up 1
    have hs1 : IntKind.wrap .i64 ((j : Int) + 1) = ((j + 1 : Nat) : Int) := by rw [wi _ (by omega) (by omega)]; omega
    have of' := ofr_u32 H1 (firstV l j) hf
    rw [F.board_New_u32.e0, h24, h23, h3, h1]
    simp -implicitDefEqProofs [-ldA_ptr, show ((j : Int) < l.slots) from by omega, r3, Ly.list, b2, e1, r4, of', reps, fillL, splice, e2, e3, e4, hs1]
    refine new_loop_u32 g hg hw n (j + 1) (by omega) H4 own11 _ ?_ ?_ ?_ ?_ <;> simp [put, h23, h3, h1]

theorem new_u32 (own : Own K H L) (g : GoodL l r) (hg : GOk K l.up) (hw : kOf l.width = .u32) :
    ∃ b H', C F.board_New_u32 [l.val] H = some (.pointer (some ⟨b, 0, some 0⟩), H') ∧ Own K H' (Bo_u32 b l (Bd.init l) :: L) := by
  have hs := g.slots
  have hr := g.r1
  have hu : one l.up = true := g.c.up
  obtain ⟨i, H1, e1, own1, b1⟩ := ly_box own l hu
  have own2 : Own K (H1.reserve 8) (FreeA (H1.next + 4) :: FreeA (H1.next + 6) :: BoxA i T.layout_Layout l.list :: L) := own1.reserve 8 [4, 6] (by decide) (by decide)
  have r1 := own1.rd
  have b2 := ly_ld (own2.up 2)
  have r2 := (own2.up 2).rd
  obtain ⟨H2, e2, own3⟩ := mkslice_at own2 T.int 8 (.int .i64 0) l.cap (by omega) (by omega) (by omega) rfl
  obtain ⟨H3, e3, own4⟩ := mkbox_at (own3.up 1) T.board_Board_u32 (.agg (l.list ++ [.slice none 0 0, (Hd.blk (H1.next + 4) 0 l.cap.toNat).val, .slice none 0 0]).toArray) (l.list ++ [.slice none 0 0, (Hd.blk (H1.next + 4) 0 l.cap.toNat).val, .slice none 0 0]) (by simp) (by simp [Ly.list, hu])
  have r4 := (own4.up 2).rd
  have own5 := slnil (slnil own4 T.api_Access 5) T.uint32 1
  -- [ch, lh, Box b, dh, Box i]
  have own6 : Own K H3 (BoxA (H1.next + 6) T.board_Board_u32 (l.list ++ [Hd.nil.val, (Hd.blk (H1.next + 4) 0 l.cap.toNat).val, Hd.nil.val]) :: SlA .nil T.uint32 1 [] :: SlA (.blk (H1.next + 4) 0 l.cap.toNat) T.int 1 (List.replicate l.cap.toNat (.int .i64 0)) :: SlA .nil T.api_Access 5 [] :: BoxA i T.layout_Layout l.list :: L) := ((own5.up 2).dn 0).up 0 |>.perm (by
    refine (List.Perm.refl _).trans ?_
    simp only [SakAm.up, SakAm.dn]
    refine .cons _ ?_
    refine .cons _ ?_
    exact List.Perm.swap _ _ _)
  have hrep : List.replicate l.cap.toNat (Value.int .i64 0) = (List.replicate l.cap.toNat (0 : Int)).map (fun x => Value.int .i64 x) := by simp
  rw [hrep] at own6
  have own7 := (bo_close (B := ⟨firsts l 0, List.replicate l.cap.toNat 0, []⟩) (k := .u32) (ch := .nil) (dh := .blk (H1.next + 4) 0 l.cap.toNat) (lh := .nil) own6).up 1
  have hwid : (l.width != 32) = false := by
    have hf : l.width = 32 ∨ l.width = 64 := g.c.width
    rcases hf with w | w <;> simp [kOf, w] at hw ⊢
  have hz : (l.cells == 0) = false := by simp; omega
  refine ⟨H1.next + 6, ?_⟩
  rw [F.board_New_u32.e]
  have cl : l.list = [.int .i64 l.var, .int .i64 l.width, .int .i64 l.cap, .int .i64 l.prod, .int .u64 l.start, l.up, .int .i64 l.cursor, .int .i64 l.claim, .int .i64 l.ticket, .int .i64 l.serving, .int .i64 l.next, .int .i64 l.marks, .int .i64 l.slots, .int .i64 l.cells] := rfl
  have hcv : cellsOf l.val = l.list := by simp [Ly.val]
  simp only [cl, List.cons_append, List.nil_append] at e3
  simp -implicitDefEqProofs [-ldA_ptr, e1, r1, cl, hz, bits_u32, Read.holds, ldT_int, hwid, b2, r2, e2, fillL, splice, hcv, e3, r4]
  refine new_loop_u32 g hg hw l.slots.toNat 0 (by omega) H3 own7 _ ?_ ?_ ?_ ?_ <;> simp [put]
end
end Go.Proofs.YtiehmpoanhacaaaDoor
