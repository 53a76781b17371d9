/-
  A board: what each of its methods does, as lists and numbers.
-/
import Derived.Test.YtiehmpoanhacaaaDoorKBoard
import Derived.Test.YtiehmpoanhacaaaDoorOf
import Derived.Test.YtiehmpoanhacaaaDoorAmC
set_option maxRecDepth 100000
set_option linter.unusedVariables false
set_option linter.unusedSimpArgs false
set_option maxHeartbeats 1000000
namespace Go.Proofs.YtiehmpoanhacaaaDoor
open Go Go.Proofs.SakAm
attribute [local congr] obind_c condK_c ifD_c

def BoardA (k : IntKind) (tb tw : TypeId) (b : Nat) (l : Ly) (B : Bd) : Asrt := exA fun hs : Hd × Hd × Hd =>
  packA [BoxA b tb (l.list ++ [hs.1.val, hs.2.1.val, hs.2.2.val]), SlA hs.1 tw 1 (B.has.map fun x => Value.int k x), SlA hs.2.1 T.int 1 (B.data.map fun x => Value.int .i64 x), SlA hs.2.2 T.api_Access 5 (B.log.flatMap Acc.cells)]

section
variable {K : Kept} {H : Heap} {L : List Asrt} {k : IntKind} {tb tw : TypeId} {b : Nat} {l : Ly} {B : Bd}

theorem bo_open (own : Own K H (BoardA k tb tw b l B :: L)) : ∃ ch dh lh : Hd,
    Own K H (BoxA b tb (l.list ++ [ch.val, dh.val, lh.val]) :: SlA ch tw 1 (B.has.map fun x => Value.int k x) :: SlA dh T.int 1 (B.data.map fun x => Value.int .i64 x) :: SlA lh T.api_Access 5 (B.log.flatMap Acc.cells) :: L) := by
  obtain ⟨hs, own⟩ := own.ex
  exact ⟨hs.1, hs.2.1, hs.2.2, own.opn⟩

theorem bo_close {ch dh lh : Hd} (own : Own K H (BoxA b tb (l.list ++ [ch.val, dh.val, lh.val]) :: SlA ch tw 1 (B.has.map fun x => Value.int k x) :: SlA dh T.int 1 (B.data.map fun x => Value.int .i64 x) :: SlA lh T.api_Access 5 (B.log.flatMap Acc.cells) :: L)) :
    Own K H (BoardA k tb tw b l B :: L) := Own.toEx (A := fun hs : Hd × Hd × Hd =>
  packA [BoxA b tb (l.list ++ [hs.1.val, hs.2.1.val, hs.2.2.val]), SlA hs.1 tw 1 (B.has.map fun x => Value.int k x), SlA hs.2.1 T.int 1 (B.data.map fun x => Value.int .i64 x), SlA hs.2.2 T.api_Access 5 (B.log.flatMap Acc.cells)]) (ch, dh, lh) own.pack4

theorem acc_len (l : List Acc) : (l.flatMap Acc.cells).length = l.length * 5 := flat_len fun _ => rfl
end

section
variable {K : Kept} {H : Heap} {L : List Asrt} {b : Nat} {l : Ly} {B : Bd}
abbrev Bo_u32 (b : Nat) (l : Ly) (B : Bd) : Asrt := BoardA .u32 T.board_Board_u32 T.uint32 b l B

theorem note_u32 (own : Own K H (Bo_u32 b l B :: L)) (t kd c o n : Int) (hlog : B.log.length ≤ 1000000) :
    ∃ H', C F.board_Board_note_u32 [.pointer (some ⟨b, 0, some 0⟩), .int .i64 t, .int .i64 kd, .int .i64 c, .int .u64 o, .int .u64 n] H = some (.tuple #[], H') ∧ Own K H' (Bo_u32 b l (B.note t kd c o n) :: L) := by
  obtain ⟨ch, dh, lh, own⟩ := bo_open own
  have r := own.rd
  obtain ⟨i, H1, e1, own1⟩ := mkrow_own own T.api_Access 1 (Acc.cells ⟨t, kd, c, o, n⟩) (by simp [Acc.cells])
  have own2 := own1.up 4
  have hl := own2.slen
  rw [acc_len] at hl
  obtain ⟨lh', H2, e2, hn, own3⟩ := append_own (m := 1) (bytes := 40) own2 (rowOf_row own1 (n := 1) (z := 5) rfl) rfl rfl (by omega) (by omega) (by omega)
  have own4 := own3.up 2
  have r4 := own4.rd
  obtain ⟨H3, e3, own5⟩ := st1_own own4 16 lh'.val (by simp [Ly.list]) (by simp)
  refine ⟨H3, ?_, ?_⟩
  · rw [F.board_Board_note_u32.e]
    simp only [Acc.cells] at e1 e2
    simp -implicitDefEqProofs [r, r4, e1, e2, e3, Ly.list, fillL, splice, reps]
  · have own6 := ((own5.up 2).tl.up 1).dn 3
    refine bo_close (lh := lh') (dh := dh) (ch := ch) ?_
    simpa [Bd.note, Ly.list, SakAm.up, SakAm.dn] using own6

theorem bly_u32 (own : Own K H (Bo_u32 b l B :: L)) : ldA H 14 (.pointer (some ⟨b, 0, some 0⟩)) = some l.val := by
  obtain ⟨ch, dh, lh, own⟩ := bo_open own
  simp [own.rd, Ly.list, Ly.val]

theorem bcells_u32 (own : Own K H (Bo_u32 b l B :: L)) {c : Int} (h0 : 0 ≤ c) (h1 : c < B.has.length) :
    ∃ ch : Hd, ld1 H (.pointer (some ⟨b, 14, some 0⟩)) = some ch.val ∧ sadd 1 ch.val (.int .i64 c) = some (ch.pt c.toNat) ∧ ld1 H (ch.pt c.toNat) = some (.int .u32 (at_ B.has c)) ∧ ch.n = B.has.length := by
  obtain ⟨ch, dh, lh, own⟩ := bo_open own
  have hl := (own.up 1).slen
  simp only [List.length_map, Nat.mul_one] at hl
  refine ⟨ch, by simp [own.rd, Ly.list], by rw [hd_sadd h0 (by omega), Nat.mul_one], ?_, hl.symm⟩
  exact ld1_sl (own.up 1) (map_at h0 h1)

theorem is_u32 (own : Own K H (Bo_u32 b l B :: L)) (hu : one l.up = true) (c kd : Int) :
    ∃ H', C F.board_Board_is_u32 [.pointer (some ⟨b, 0, some 0⟩), .int .i64 c, .int .i64 kd] H = some (.bool (l.kind c == kd), H') ∧ Own K H' (Bo_u32 b l B :: L) := by
  have h1 := bly_u32 own
  obtain ⟨H1, e1, own1⟩ := kind own hu c
  refine ⟨H1, ?_, own1⟩
  rw [F.board_Board_is_u32.e]
  simp -implicitDefEqProofs [-ldA_ptr, h1, e1]

theorem look_u32 (own : Own K H (Bo_u32 b l B :: L)) (ok : B.Ok .u32) (t kd c : Int) (h0 : 0 ≤ c) (h1 : c < B.has.length) (hlog : B.log.length ≤ 1000000) :
    ∃ H', C F.board_Board_look_u32 [.pointer (some ⟨b, 0, some 0⟩), .int .i64 t, .int .i64 kd, .int .i64 c] H = some (.int .u32 (at_ B.has c), H') ∧ Own K H' (Bo_u32 b l (B.look t kd c) :: L) := by
  obtain ⟨ch, g1, g2, g3, _⟩ := bcells_u32 own h0 h1
  obtain ⟨H1, e1, own1⟩ := note_u32 own t kd c (at_ B.has c) (at_ B.has c) hlog
  refine ⟨H1, ?_, own1⟩
  rw [F.board_Board_look_u32.e]
  simp -implicitDefEqProofs [-ld1_ptr, g1, g2, g3, up_u32 _ _ (ok.at_ h0 h1), e1]

theorem lay_u32 (own : Own K H (Bo_u32 b l B :: L)) (ok : B.Ok .u32) (t kd c v : Int) (h0 : 0 ≤ c) (h1 : c < B.has.length) (hv : InR .u32 v) (hlog : B.log.length ≤ 1000000) :
    ∃ H', C F.board_Board_lay_u32 [.pointer (some ⟨b, 0, some 0⟩), .int .i64 t, .int .i64 kd, .int .i64 c, .int .u32 v] H = some (.int .u32 (at_ B.has c), H') ∧ Own K H' (Bo_u32 b l (B.lay t kd c v) :: L) := by
  obtain ⟨ch, g1, g2, g3, _⟩ := bcells_u32 own h0 h1
  obtain ⟨H1, e1, own1⟩ := note_u32 own t kd c (at_ B.has c) v hlog
  obtain ⟨ch', f1, f2, f3, f4⟩ := bcells_u32 own1 h0 h1
  obtain ⟨ch2, dh, lh, own2⟩ := bo_open own1
  have hc : ch' = ch2 := by
    have k1 : ld1 H1 (.pointer (some ⟨b, 14, some 0⟩)) = some ch2.val := by simp [own2.rd, Ly.list]
    rw [f1] at k1
    have := Option.some.inj k1
    cases ch' <;> cases ch2 <;> simp_all [Hd.val]
  subst hc
  obtain ⟨H2, e2, own3⟩ := st1_sl (own2.up 1) c.toNat (.int .u32 v) (by have := (own2.up 1).slen; simp [Bd.note]; omega) rfl
  refine ⟨H2, ?_, ?_⟩
  · rw [F.board_Board_lay_u32.e]
    simp -implicitDefEqProofs [-ld1_ptr, g1, g2, g3, up_u32 _ _ (ok.at_ h0 h1), up_u32 _ _ hv, e1, f1, f2, e2]
  · rw [map_put] at own3
    exact bo_close (own3.up 1)

theorem load_u32 (own : Own K H (Bo_u32 b l B :: L)) (hu : one l.up = true) (ok : B.Ok .u32) (t c : Int) (hk : l.kind c = 1) (h0 : 0 ≤ c) (h1 : c < B.has.length) (hlog : B.log.length ≤ 1000000) :
    ∃ H', C F.board_Board_Load_u32 [.pointer (some ⟨b, 0, some 0⟩), .int .i64 t, .int .i64 c] H = some (.int .u32 (at_ B.has c), H') ∧ Own K H' (Bo_u32 b l (B.look t 1 c) :: L) := by
  obtain ⟨H1, e1, own1⟩ := is_u32 own hu c 1
  obtain ⟨H2, e2, own2⟩ := look_u32 own1 ok t 1 c h0 h1 hlog
  refine ⟨H2, ?_, own2⟩
  rw [F.board_Board_Load_u32.e]
  simp -implicitDefEqProofs [e1, hk, e2]

theorem store_u32 (own : Own K H (Bo_u32 b l B :: L)) (hu : one l.up = true) (ok : B.Ok .u32) (t c v : Int) (hk : l.kind c = 1) (h0 : 0 ≤ c) (h1 : c < B.has.length) (hv : InR .u32 v) (hlog : B.log.length ≤ 1000000) :
    ∃ H', C F.board_Board_Store_u32 [.pointer (some ⟨b, 0, some 0⟩), .int .i64 t, .int .i64 c, .int .u32 v] H = some (.tuple #[], H') ∧ Own K H' (Bo_u32 b l (B.lay t 2 c v) :: L) := by
  obtain ⟨H1, e1, own1⟩ := is_u32 own hu c 1
  obtain ⟨H2, e2, own2⟩ := lay_u32 own1 ok t 2 c v h0 h1 hv hlog
  refine ⟨H2, ?_, own2⟩
  rw [F.board_Board_Store_u32.e]
  simp -implicitDefEqProofs [e1, hk, e2]

theorem swap_u32 (own : Own K H (Bo_u32 b l B :: L)) (hu : one l.up = true) (ok : B.Ok .u32) (t c o v : Int) (hk : l.kind c = 1) (h0 : 0 ≤ c) (h1 : c < B.has.length) (hv : InR .u32 v) (hlog : B.log.length ≤ 1000000) :
    ∃ H', C F.board_Board_Swap_u32 [.pointer (some ⟨b, 0, some 0⟩), .int .i64 t, .int .i64 c, .int .u32 o, .int .u32 v] H = some (.bool (decide (at_ B.has c = o)), H') ∧
      Own K H' (Bo_u32 b l (if at_ B.has c = o then B.lay t 4 c v else B.look t 5 c) :: L) := by
  obtain ⟨H1, e1, own1⟩ := is_u32 own hu c 1
  obtain ⟨ch, g1, g2, g3, _⟩ := bcells_u32 own1 h0 h1
  by_cases p : at_ B.has c = o
  · obtain ⟨H2, e2, own2⟩ := lay_u32 own1 ok t 4 c v h0 h1 hv hlog
    rw [if_pos p]
    refine ⟨H2, ?_, own2⟩
    have hb : (at_ B.has c != o) = false := by simp [p]
    rw [F.board_Board_Swap_u32.e]
    simp -implicitDefEqProofs [-ld1_ptr, e1, hk, g1, g2, g3, hb, p, e2]
  · obtain ⟨H2, e2, own2⟩ := look_u32 own1 ok t 5 c h0 h1 hlog
    rw [if_neg p]
    refine ⟨H2, ?_, own2⟩
    have hb : (at_ B.has c != o) = true := by simp [p]
    rw [F.board_Board_Swap_u32.e]
    simp -implicitDefEqProofs [-ld1_ptr, e1, hk, g1, g2, g3, hb, p, e2]

theorem len_u32 (own : Own K H (Bo_u32 b l B :: L)) : C F.board_Board_Len_u32 [.pointer (some ⟨b, 0, some 0⟩)] H = some (.int .i64 B.log.length, H) := by
  obtain ⟨ch, dh, lh, own⟩ := bo_open own
  have hl := (own.up 3).slen
  rw [acc_len] at hl
  rw [F.board_Board_Len_u32.e]
  simp -implicitDefEqProofs [own.rd, Ly.list]
  omega

theorem blayout_u32 (own : Own K H (Bo_u32 b l B :: L)) (hu : one l.up = true) :
    ∃ H', C F.board_Board_Layout_u32 [.pointer (some ⟨b, 0, some 0⟩)] H = some (l.val, H') ∧ Own K H' (Bo_u32 b l B :: L) := by
  obtain ⟨i, H1, e1, own1⟩ := mkbox_own own T.layout_Layout (.agg z14.toArray) z14 (by simp) (by simp [z14])
  have h1 := bly_u32 (own1.up 1)
  obtain ⟨H2, e2, own2⟩ := stA_own own1 0 14 l.val l.list (by simp [Ly.val]) (by simp [Ly.list]) (by simp [z14]) (by simp [Ly.list, hu])
  rw [show splice z14 0 l.list = l.list from by simp [splice, z14, Ly.list]] at own2
  have h2 := ly_ld own2
  refine ⟨H2, ?_, own2.tl⟩
  rw [F.board_Board_Layout_u32.e]
  simp only [z14] at e1
  simp -implicitDefEqProofs [-ldA_ptr, e1, h1, e2, h2]
end
end Go.Proofs.YtiehmpoanhacaaaDoor
