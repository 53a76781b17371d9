/-
  Counters and rings: what each function of numbers comes to.
-/
import Derived.Test.YtiehmpoanhacaaaDoorKWide
import Derived.Test.YtiehmpoanhacaaaDoorKLap
import Derived.Test.YtiehmpoanhacaaaDoorKGroup
import Derived.Test.YtiehmpoanhacaaaDoorAmC
set_option maxRecDepth 100000
set_option linter.unusedVariables false
set_option linter.unusedSimpArgs false
set_option maxHeartbeats 1000000
namespace Go.Proofs.YtiehmpoanhacaaaDoor
open Go Go.Proofs.SakAm
attribute [local congr] obind_c condK_c ifD_c

theorem sz_int : szOf P T.int = some (false, 1) := by kernel_rfl
theorem ldT_int (H : Heap) (p : Value) : ldT P T.int H p = ld1 H p := by simp only [ldT, sz_int]

section
variable (H : Heap)

theorem bits_u32 : C F.wide_Bits_u32 [] H = some (.int .i64 32, H) := by
  rw [F.wide_Bits_u32.e]; simp [abin_shl, wrap32, IntKind.bits]
theorem up_u32 (x : Int) (hx : InR .u32 x) : C F.wide_Up_u32 [.int .u32 x] H = some (.int .u64 x, H) := by
  rw [F.wide_Up_u32.e]; simp [show IntKind.wrap .u64 x = x from hx.up]
theorem of_u32 (x : Int) : C F.wide_Of_u32 [.int .u64 x] H = some (.int .u32 (IntKind.wrap .u32 x), H) := by
  rw [F.wide_Of_u32.e]; simp
theorem ofr_u32 (x : Int) (hx : InR .u32 x) : C F.wide_Of_u32 [.int .u64 x] H = some (.int .u32 x, H) := by
  rw [of_u32, show IntKind.wrap .u32 x = x from hx]
theorem add_u32 (x n : Int) : C F.wide_Add_u32 [.int .u32 x, .int .i64 n] H = some (.int .u32 (wadd .u32 x n), H) := by
  rw [F.wide_Add_u32.e]; simp [wadd]
theorem diff_u32 (x y : Int) : C F.wide_Diff_u32 [.int .u32 x, .int .u32 y] H = some (.int .i64 (wdiff .u32 x y), H) := by
  rw [F.wide_Diff_u32.e]; simp [F.wide_signed_u32.e, bits_u32, wdiff, wsg]
theorem less_u32 (x y : Int) : C F.wide_Less_u32 [.int .u32 x, .int .u32 y] H = some (.bool (decide (wdiff .u32 x y < 0)), H) := by
  rw [F.wide_Less_u32.e]; simp [diff_u32]
theorem right_ok {w : Int} (h : w = 32 ∨ w = 64) : C F.wide_Right [.int .i64 w] H = some (.bool true, H) := by
  rcases h with rfl | rfl <;> (rw [F.wide_Right.e]; simp)
theorem cut_ok {w x : Int} (h : w = 32 ∨ w = 64) (hx : InR .u64 x) : C F.wide_Cut [.int .i64 w, .int .u64 x] H = some (.int .u64 (cutw w x), H) := by
  rcases h with rfl | rfl
  · rw [F.wide_Cut.e]; simp [of_u32, up_u32 _ _ (inR_wrap32 _), cutw]; exact wrap32 _
  · rw [F.wide_Cut.e]; simp [cutw]

theorem lapRight {c : Int} (h : CapOk c) : C F.lap_Right [.int .i64 c] H = some (.bool true, H) := by
  rcases h with rfl | rfl | rfl | rfl | rfl | rfl <;> (rw [F.lap_Right.e]; simp [wrapi64, IntKind.bits])
theorem lapOne {c : Int} (h : CapOk c) : C F.lap_one [.int .i64 c] H = some (.int .i64 1, H) := by
  rw [F.lap_one.e]; simp [lapRight H h]
theorem lapThere {c s : Int} (h : CapOk c) (h0 : 0 ≤ s) (h1 : s < c) : C F.lap_there [.int .i64 c, .int .i64 s] H = some (.bool true, H) := by
  rw [F.lap_there.e]; simp [lapRight H h, h0, h1]

theorem lapLog_run (j : Nat) (h1 : 1 ≤ j) (h2 : j ≤ 6) : ∀ (n i : Nat), i + n = j → ∀ a : Fr, a 7 = .int .i64 i → a 0 = .int .i64 ((2 ^ j : Nat) : Int) → R F.lap_Log.f F.lap_Log.b0 a H = some (.int .i64 j, H)
  | 0, i, hi, a, h7, h0 => by
    have e : i = j := by omega
    subst e
    rw [F.lap_Log.e0, h7, h0]
    have : min i 64 = i := by omega
    have hp : (2 : Nat) ^ i ≤ 2 ^ 6 := Nat.pow_le_pow_right (by decide) h2
    have hq := pow_small i (by omega)
    have hw : IntKind.wrap .i64 ((2 : Int) ^ i) = 2 ^ i := wi _ (by omega) (by omega)
    simp [abin_shl, IntKind.bits, this, hw, show (i : Int) < 31 from by omega]
  | n + 1, i, hi, a, h7, h0 => by
    rw [F.lap_Log.e0, h7, h0]
    have : min i 64 = i := by omega
    have hlt : (2 : Nat) ^ i < 2 ^ j := Nat.pow_lt_pow_right (by decide) (by omega)
    have hp : (2 : Nat) ^ j ≤ 2 ^ 6 := Nat.pow_le_pow_right (by decide) h2
    have hq := pow_small i (by omega)
    have hw : IntKind.wrap .i64 ((2 : Int) ^ i) = 2 ^ i := wi _ (by omega) (by omega)
    have hne : ¬ ((2 : Int) ^ i = 2 ^ j) := by
      have : ((2 ^ i : Nat) : Int) < ((2 ^ j : Nat) : Int) := by omega
      simp at this; omega
    have hs : IntKind.wrap .i64 ((i : Int) + 1) = ((i + 1 : Nat) : Int) := by rw [wi _ (by omega) (by omega)]; omega
    simp [abin_shl, IntKind.bits, this, hw, show (i : Int) < 31 from by omega, hne]
    exact lapLog_run j h1 h2 n (i + 1) (by omega) _ (by simp [put, hs]) (by simp [put, h0])

theorem lapLog (j : Nat) (h1 : 1 ≤ j) (h2 : j ≤ 6) (h : CapOk ((2 ^ j : Nat) : Int)) : C F.lap_Log [.int .i64 ((2 ^ j : Nat) : Int)] H = some (.int .i64 j, H) := by
  rw [F.lap_Log.e]
  simp only [lapRight H h]
  simp only [Option.bind_some, aun_not, condK_bool, Bool.not_true, Bool.false_eq_true, if_false]
  exact lapLog_run H j h1 h2 j 0 (by omega) _ (by simp [put]) (by simp [put, fr0])

theorem lapSlot_u32 {c x : Int} (h : CapOk c) (hx : InR .u32 x) : C F.lap_Slot_u32 [.int .i64 c, .int .u32 x] H = some (.int .i64 (x % c), H) := by
  have hl := h.lt
  rw [F.lap_Slot_u32.e]
  have h1 : IntKind.wrap .i64 (c - 1) = c - 1 := wi _ (by omega) (by omega)
  have h2 : IntKind.wrap .u32 (c - 1) = c - 1 := by simp only [wrap32, wrap64]; omega
  have h4 : 0 ≤ x % c := Int.emod_nonneg _ (by omega)
  have h5 : x % c < c := Int.emod_lt_of_pos _ (by omega)
  have h6 : IntKind.wrap .u32 (x % c) = x % c := by simp only [wrap32, wrap64]; omega
  have h7 : IntKind.wrap .i64 (x % c) = x % c := wi _ (by omega) (by omega)
  simp [-abin_and, lapRight H h, h1, h2, abin_masku32 h hx, h6, h7]

theorem lapRound_u32 {c x : Int} (h : CapOk c) (hx : InR .u32 x) : C F.lap_Round_u32 [.int .i64 c, .int .u32 x] H = some (.int .u32 (x / c), H) := by
  obtain ⟨j, h1, h2, rfl⟩ := h.pow
  have e : (2 : Int) ^ j = ((2 ^ j : Nat) : Int) := by simp
  rw [e] at h ⊢
  rw [F.lap_Round_u32.e]
  have hp : 0 < 2 ^ j := Nat.pow_pos (n := j) (show 0 < 2 by decide)
  have hx' := hx
  simp only [inR32, inR64] at hx'
  have hb : min j (IntKind.bits .u32) = j := by simp only [IntKind.bits]; omega
  have h3 : x.fdiv ((2 : Int) ^ j) = x / ((2 ^ j : Nat) : Int) := by rw [e]; exact Int.fdiv_eq_ediv_of_nonneg _ (by omega)
  have h4 : 0 ≤ x / ((2 ^ j : Nat) : Int) := Int.ediv_nonneg hx'.1 (by omega)
  have h5 : x / ((2 ^ j : Nat) : Int) ≤ x := Int.ediv_le_self _ hx'.1
  have h6 : IntKind.wrap .u32 (x / ((2 ^ j : Nat) : Int)) = x / ((2 ^ j : Nat) : Int) := by simp only [wrap32, wrap64]; omega
  have h7 : IntKind.wrap .u32 1 = 1 := by simp only [wrap32, wrap64]; omega
  simp only [lapLog H j h1 h2 h, lapOne H h]
  simp only [ifD_true, Option.bind_some, T.int.to_uint32, h7]
  rw [abin_shr (by omega)]
  simp only [Int.toNat_natCast, hb, h3, h6, Option.bind_some, lapOne H h, ifD_true, T.int.to_uint32, h7, abin_mul, Int.mul_one]

theorem lapFirst_u32 {c s x : Int} (h : CapOk c) (h0 : 0 ≤ s) (h1 : s < c) (hx : InR .u32 x) : C F.lap_First_u32 [.int .i64 c, .int .i64 s, .int .u32 x] H = some (.int .u32 (lapFirst .u32 c s x), H) := by
  have hl := h.lt
  rw [F.lap_First_u32.e]
  have e1 : IntKind.wrap .i64 (c - 1) = c - 1 := wi _ (by omega) (by omega)
  have e2 : IntKind.wrap .u32 (c - 1) = c - 1 := by simp only [wrap32, wrap64]; omega
  have e3 : IntKind.wrap .u32 s = s := by simp only [wrap32, wrap64]; omega
  have h4 : 0 ≤ (s - x) % c := Int.emod_nonneg _ (by omega)
  have h5 : (s - x) % c < c := Int.emod_lt_of_pos _ (by omega)
  have h6 : IntKind.wrap .u32 (s - x) % c = (s - x) % c := by
    rcases h with rfl | rfl | rfl | rfl | rfl | rfl <;> (simp only [wrap32, wrap64]; omega)
  have h7 : IntKind.wrap .u32 ((s - x) % c) = (s - x) % c := by simp only [wrap32, wrap64]; omega
  simp [-abin_and, lapThere H h h0 h1, e1, e2, e3, abin_masku32 h (inRwrapu32 (s - x)), h6, lapFirst]

theorem lapAhead_u32 {c s x : Int} (h : CapOk c) (h0 : 0 ≤ s) (h1 : s < c) (hx : InR .u32 x) : C F.lap_Ahead_u32 [.int .i64 c, .int .i64 s, .int .u32 x] H = some (.int .u32 (lapAhead .u32 c s x), H) := by
  have hl := h.lt
  rw [F.lap_Ahead_u32.e]
  have e2 : IntKind.wrap .u32 c = c := by simp only [wrap32, wrap64]; omega
  simp [lapThere H h h0 h1, lapFirst_u32 H h h0 h1 hx, e2, lapRound_u32 H h (inRwrapu32 _), lapAhead]
theorem lapRound_u64 {c x : Int} (h : CapOk c) (hx : InR .u64 x) : C F.lap_Round_u64 [.int .i64 c, .int .u64 x] H = some (.int .u64 (x / c), H) := by
  obtain ⟨j, h1, h2, rfl⟩ := h.pow
  have e : (2 : Int) ^ j = ((2 ^ j : Nat) : Int) := by simp
  rw [e] at h ⊢
  rw [F.lap_Round_u64.e]
  have hp : 0 < 2 ^ j := Nat.pow_pos (n := j) (show 0 < 2 by decide)
  have hx' := hx
  simp only [inR32, inR64] at hx'
  have hb : min j (IntKind.bits .u64) = j := by simp only [IntKind.bits]; omega
  have h3 : x.fdiv ((2 : Int) ^ j) = x / ((2 ^ j : Nat) : Int) := by rw [e]; exact Int.fdiv_eq_ediv_of_nonneg _ (by omega)
  have h4 : 0 ≤ x / ((2 ^ j : Nat) : Int) := Int.ediv_nonneg hx'.1 (by omega)
  have h5 : x / ((2 ^ j : Nat) : Int) ≤ x := Int.ediv_le_self _ hx'.1
  have h6 : IntKind.wrap .u64 (x / ((2 ^ j : Nat) : Int)) = x / ((2 ^ j : Nat) : Int) := by simp only [wrap32, wrap64]; omega
  have h7 : IntKind.wrap .u64 1 = 1 := by simp only [wrap32, wrap64]; omega
  simp only [lapLog H j h1 h2 h, lapOne H h]
  simp only [ifD_true, Option.bind_some, T.int.to_uint64, h7]
  rw [abin_shr (by omega)]
  simp only [Int.toNat_natCast, hb, h3, h6, Option.bind_some, lapOne H h, ifD_true, T.int.to_uint64, h7, abin_mul, Int.mul_one]

theorem lapFirst_u64 {c s x : Int} (h : CapOk c) (h0 : 0 ≤ s) (h1 : s < c) (hx : InR .u64 x) : C F.lap_First_u64 [.int .i64 c, .int .i64 s, .int .u64 x] H = some (.int .u64 (lapFirst .u64 c s x), H) := by
  have hl := h.lt
  rw [F.lap_First_u64.e]
  have e1 : IntKind.wrap .i64 (c - 1) = c - 1 := wi _ (by omega) (by omega)
  have e2 : IntKind.wrap .u64 (c - 1) = c - 1 := by simp only [wrap32, wrap64]; omega
  have e3 : IntKind.wrap .u64 s = s := by simp only [wrap32, wrap64]; omega
  have h4 : 0 ≤ (s - x) % c := Int.emod_nonneg _ (by omega)
  have h5 : (s - x) % c < c := Int.emod_lt_of_pos _ (by omega)
  have h6 : IntKind.wrap .u64 (s - x) % c = (s - x) % c := by
    rcases h with rfl | rfl | rfl | rfl | rfl | rfl <;> (simp only [wrap32, wrap64]; omega)
  have h7 : IntKind.wrap .u64 ((s - x) % c) = (s - x) % c := by simp only [wrap32, wrap64]; omega
  simp [-abin_and, lapThere H h h0 h1, e1, e2, e3, abin_masku64 h (inRwrapu64 (s - x)), h6, lapFirst]

theorem lapAhead_u64 {c s x : Int} (h : CapOk c) (h0 : 0 ≤ s) (h1 : s < c) (hx : InR .u64 x) : C F.lap_Ahead_u64 [.int .i64 c, .int .i64 s, .int .u64 x] H = some (.int .u64 (lapAhead .u64 c s x), H) := by
  have hl := h.lt
  rw [F.lap_Ahead_u64.e]
  have e2 : IntKind.wrap .u64 c = c := by simp only [wrap32, wrap64]; omega
  simp [lapThere H h h0 h1, lapFirst_u64 H h h0 h1 hx, e2, lapRound_u64 H h (inRwrapu64 _), lapAhead]
end
end Go.Proofs.YtiehmpoanhacaaaDoor
