/-
  A layout: what each of its methods tells, as numbers.
-/
import Derived.Test.YtiehmpoanhacaaaDoorKLayout
import Derived.Test.YtiehmpoanhacaaaDoorKWide
set_option maxRecDepth 100000
set_option linter.unusedVariables false
set_option linter.unusedSimpArgs false
set_option maxHeartbeats 1000000
namespace Go.Proofs.YtiehmpoanhacaaaDoor
open Go Go.Proofs.SakAm
attribute [local congr] obind_c condK_c ifD_c

section
variable {K : Kept} {H : Heap} {L : List Asrt} {i : Nat} {t : TypeId} {l : Ly}

theorem ly_ld (own : Own K H (BoxA i t l.list :: L)) : ldA H 14 (.pointer (some ⟨i, 0, some 0⟩)) = some l.val := by
  simp [own.rd, Ly.list, Ly.val]

theorem ly_box (own : Own K H L) (l : Ly) (hu : one l.up = true) : ∃ i H', mkbox H none T.layout_Layout l.val = some (.pointer (some ⟨i, 0, some 0⟩), H') ∧ Own K H' (BoxA i T.layout_Layout l.list :: L) ∧ (ldA H' 14 (.pointer (some ⟨i, 0, some 0⟩)) = some l.val) := by
  obtain ⟨i, H', e, o⟩ := mkbox_own own T.layout_Layout l.val l.list (by simp [Ly.val]) (by simp [Ly.list, hu])
  exact ⟨i, H', e, o, ly_ld o⟩

theorem made (own : Own K H L) (hu : one l.up = true) : ∃ H', C F.layout_Layout_made [l.val] H = some (.bool (decide (0 < l.cells)), H') ∧ Own K H' L := by
  obtain ⟨i, H1, e1, own1, _⟩ := ly_box own l hu
  refine ⟨H1, ?_, own1.tl⟩
  rw [F.layout_Layout_made.e]
  simp [e1, own1.rd, Ly.list]

theorem there (own : Own K H L) (hu : one l.up = true) (c : Int) : ∃ H', C F.layout_Layout_there [l.val, .int .i64 c] H = some (.bool (decide (0 < l.cells ∧ 0 ≤ c ∧ c < l.cells)), H') ∧ Own K H' L := by
  obtain ⟨i, H1, e1, own1, h1⟩ := ly_box own l hu
  obtain ⟨H2, e2, own2⟩ := made own1 hu
  refine ⟨H2, ?_, own2.tl⟩
  rw [F.layout_Layout_there.e]
  by_cases p1 : 0 < l.cells
  · by_cases p2 : 0 ≤ c <;> simp [-ldA_ptr, e1, e2, h1, own2.rd, p1, p2, Ly.list]
  · simp [-ldA_ptr, e1, e2, h1, own2.rd, p1, Ly.list]

theorem kind (own : Own K H L) (hu : one l.up = true) (c : Int) : ∃ H', C F.layout_Layout_Kind [l.val, .int .i64 c] H = some (.int .i64 (l.kind c), H') ∧ Own K H' L := by
  obtain ⟨i, H1, e1, own1, h1⟩ := ly_box own l hu
  obtain ⟨H2, e2, own2⟩ := there own1 hu c
  refine ⟨H2, ?_, own2.tl⟩
  rw [F.layout_Layout_Kind.e]
  by_cases p1 : 0 < l.cells ∧ 0 ≤ c ∧ c < l.cells
  · by_cases p2 : l.slots ≤ c
    · simp [-ldA_ptr, e1, e2, h1, own2.rd, p1, p2, Ly.list, Ly.kind]
    · by_cases p3 : 0 ≤ l.next
      · by_cases p4 : l.next ≤ c <;> simp [-ldA_ptr, e1, e2, h1, own2.rd, p1, p2, p3, p4, Ly.list, Ly.kind]
      · simp [-ldA_ptr, e1, e2, h1, own2.rd, p1, p2, p3, Ly.list, Ly.kind]
  · simp [-ldA_ptr, e1, e2, h1, own2.rd, p1, Ly.list, Ly.kind]

/-- The number of a cell among the slots' cells. -/
def slotOf (l : Ly) (fr s : Int) : Int := if 0 < l.cells ∧ 0 ≤ fr ∧ 0 ≤ s ∧ s < l.cap then fr + s else -1

theorem slot_of (own : Own K H L) (hu : one l.up = true) (fr s : Int) (hs : 0 ≤ fr → 0 ≤ s → s < l.cap → fr + s < 9223372036854775808) :
    ∃ H', C F.layout_Layout_slot [l.val, .int .i64 fr, .int .i64 s] H = some (.int .i64 (slotOf l fr s), H') ∧ Own K H' L := by
  obtain ⟨i, H1, e1, own1, h1⟩ := ly_box own l hu
  obtain ⟨H2, e2, own2⟩ := made own1 hu
  refine ⟨H2, ?_, own2.tl⟩
  rw [F.layout_Layout_slot.e]
  by_cases p1 : 0 < l.cells
  · by_cases p2 : 0 ≤ fr
    · by_cases p3 : 0 ≤ s
      · by_cases p4 : s < l.cap
        · have := wi (fr + s) (by omega) (hs p2 p3 p4)
          simp [-ldA_ptr, e1, e2, h1, own2.rd, p1, p2, p3, p4, Ly.list, slotOf, this, Int.not_lt.2 p2, Int.not_lt.2 p3, Int.not_le.2 p4]
        · simp [-ldA_ptr, e1, e2, h1, own2.rd, p1, p2, p3, p4, Ly.list, slotOf, Int.not_lt.2 p2, Int.not_lt.2 p3, Int.not_lt.1 p4]
      · simp [-ldA_ptr, e1, e2, h1, own2.rd, p1, p2, p3, Ly.list, slotOf, Int.not_lt.2 p2, Int.not_le.1 p3]
    · simp [-ldA_ptr, e1, e2, h1, own2.rd, p1, p2, Ly.list, slotOf, Int.not_le.1 p2]
  · simp [-ldA_ptr, e1, e2, h1, own2.rd, p1, Ly.list, slotOf]

theorem mark_of (own : Own K H L) (hu : one l.up = true) (s : Int) (hs : 0 ≤ l.marks → 0 ≤ s → s < l.cap → l.marks + s < 9223372036854775808) :
    ∃ H', C F.layout_Layout_Mark [l.val, .int .i64 s] H = some (.int .i64 (slotOf l l.marks s), H') ∧ Own K H' L := by
  obtain ⟨i, H1, e1, own1, h1⟩ := ly_box own l hu
  obtain ⟨H2, e2, own2⟩ := slot_of own1 hu l.marks s hs
  refine ⟨H2, ?_, own2.tl⟩
  rw [F.layout_Layout_Mark.e]
  simp [-ldA_ptr, e1, e2, h1, own1.rd, Ly.list]

theorem gate_of (own : Own K H L) (hu : one l.up = true) {n : Nat} (hn : alen l.up = some (.int .i64 n)) (c : Int) :
    ∃ H', C F.layout_Layout_Gate [l.val, .int .i64 c] H = some (.int .i64 (if 0 < l.cells ∧ 0 ≤ c ∧ c < n then c else -1), H') ∧ Own K H' L := by
  obtain ⟨i, H1, e1, own1, h1⟩ := ly_box own l hu
  obtain ⟨H2, e2, own2⟩ := made own1 hu
  refine ⟨H2, ?_, own2.tl⟩
  rw [F.layout_Layout_Gate.e]
  by_cases p1 : 0 < l.cells
  · by_cases p2 : 0 ≤ c
    · by_cases p3 : c < n
      · simp [-ldA_ptr, e1, e2, h1, own2.rd, p1, p2, p3, Ly.list, hn, Int.not_lt.2 p2, Int.not_le.2 p3]
      · simp [-ldA_ptr, e1, e2, h1, own2.rd, p1, p2, p3, Ly.list, hn, Int.not_lt.2 p2, Int.not_lt.1 p3]
    · simp [-ldA_ptr, e1, e2, h1, own2.rd, p1, p2, Ly.list, hn, Int.not_le.1 p2]
  · simp [-ldA_ptr, e1, e2, h1, own2.rd, p1, Ly.list]

theorem marked (own : Own K H L) (hu : one l.up = true) (c : Int) (h0 : 0 ≤ c) (h1 : c < 1000000) (h2 : -1 ≤ l.marks) (h3 : l.marks < 1000000) :
    ∃ H', C F.layout_Layout_marked [l.val, .int .i64 c] H = some (.tuple #[.int .i64 (c - l.marks), .bool (decide (0 ≤ l.marks ∧ l.marks ≤ c ∧ c < l.slots))], H') ∧ Own K H' L := by
  obtain ⟨i, H1, e1, own1, _⟩ := ly_box own l hu
  refine ⟨H1, ?_, own1.tl⟩
  rw [F.layout_Layout_marked.e]
  have := wi (c - l.marks) (by omega) (by omega)
  by_cases p1 : 0 ≤ l.marks
  · by_cases p2 : l.marks ≤ c <;> simp [e1, own1.rd, Ly.list, p1, p2, this]
  · simp [e1, own1.rd, Ly.list, p1, this]
end
end Go.Proofs.YtiehmpoanhacaaaDoor
