/-
  The least and the next number of a group, at this program.
-/
import Derived.Test.YtiehmpoanhacaaaDoorTz
set_option linter.unusedSectionVars false
set_option linter.unusedVariables false
set_option linter.unusedSimpArgs false
namespace Go.Proofs.YtiehmpoanhacaaaDoor
open Go Go.RowKit
open Go.Proofs.SakAm (TabAt)

set_option maxHeartbeats 1000000 in
theorem least_some (x : Nat) (hx : x < 18446744073709551616) (hx0 : x ≠ 0) (w : World) (hT : TabAt 0 Lib.deBruijn64tab w) :
    Calls Tryd.prog 199 #[.int .u64 x] w fun e w' => e = .returned (.tuple #[.int .i64 (Lib.ctz 64 x), .bool true]) ∧ w' = w := by
  have hb : ((x : Int) == 0) = false := by simp; omega
  go_enter Tryd.func199, Tryd.ntmps199
  go_wp2_with (go_at_call 202; refine (tz64 x hx w hT).mono ?_; rintro e w' ⟨rfl, rfl⟩)
  go_ret2
  exact ⟨rfl, rfl⟩

set_option maxHeartbeats 1000000 in
theorem least_none (w : World) :
    Calls Tryd.prog 199 #[.int .u64 0] w fun e w' => e = .returned (.tuple #[.int .i64 0, .bool false]) ∧ w' = w := by
  go_enter Tryd.func199, Tryd.ntmps199
  go_wp2
  go_ret2
  exact ⟨rfl, rfl⟩

set_option maxHeartbeats 1000000 in
theorem full_mid (n : Nat) (h1 : 0 < n) (h2 : n < 64) (w : World) :
    Calls Tryd.prog 153 #[.int .i64 n] w fun e w' => e = .returned (.int .u64 (2 ^ n - 1 : Nat)) ∧ w' = w := by
  have hb : (decide ((n : Int) ≤ 0)) = false := by simp; omega
  have hc : (decide ((64 : Int) ≤ n)) = false := by simp; omega
  go_enter Tryd.func153, Tryd.ntmps153
  go_wp2
  go_ret
  refine ⟨?_, rfl⟩
  have hp : (2 : Nat) ^ n < 18446744073709551616 := Nat.pow_lt_pow_right (a := 2) (by decide) h2
  have h0 : 0 < (2 : Nat) ^ n := Nat.pow_pos (by decide)
  have e : ((2 : Int) ^ n) = ((2 ^ n : Nat) : Int) := by simp
  have : IntKind.u64.wrap (IntKind.u64.wrap (2 ^ n) - 1) = ((2 ^ n - 1 : Nat) : Int) := by
    rw [e, IntKind.wrap_u64, IntKind.wrap_u64]; omega
  simp [this]

theorem full_at (n : Nat) (m : Int) (hm : m = n) (h1 : 0 < n) (h2 : n < 64) (w : World) :
    Calls Tryd.prog 153 #[.int .i64 m] w fun e w' => e = .returned (.int .u64 (2 ^ n - 1 : Nat)) ∧ w' = w := by
  subst hm; exact full_mid n h1 h2 w

theorem full_zero (w : World) :
    Calls Tryd.prog 153 #[.int .i64 0] w fun e w' => e = .returned (.int .u64 0) ∧ w' = w := by
  go_enter Tryd.func153, Tryd.ntmps153
  go_wp2
  go_ret
  exact ⟨rfl, rfl⟩

set_option maxHeartbeats 1000000 in
theorem next_end (x i : Nat) (hi : 63 ≤ i) (hi2 : i < 64) (w : World) :
    Calls Tryd.prog 200 #[.int .u64 x, .int .i64 i] w fun e w' => e = .returned (.tuple #[.int .i64 0, .bool false]) ∧ w' = w := by
  have hb : (decide ((63 : Int) ≤ i)) = true := by simp; omega
  go_enter Tryd.func200, Tryd.ntmps200
  go_wp2
  go_ret2
  exact ⟨rfl, rfl⟩

set_option maxHeartbeats 1000000 in
theorem next_mid (x i y : Nat) (hx : x < 18446744073709551616) (hi : i < 63) (w : World) (hy : y < 18446744073709551616) (hy0 : y ≠ 0) (hT : TabAt 0 Lib.deBruijn64tab w)
    (key : bits BinOp.andNot IntKind.u64 (x : Int) ((2 ^ (i + 1) - 1 : Nat) : Int) = (y : Int)) :
    Calls Tryd.prog 200 #[.int .u64 x, .int .i64 i] w fun e w' => e = .returned (.tuple #[.int .i64 (Lib.ctz 64 y), .bool true]) ∧ w' = w := by
  have hb : (decide ((63 : Int) ≤ i)) = false := by simp; omega
  go_enter Tryd.func200, Tryd.ntmps200
  go_wp2_with (first
    | (go_at_call 153; refine (full_at (i + 1) _ (by omega) (by omega) (by omega) w).mono ?_; rintro e w' ⟨rfl, rfl⟩)
    | (go_at_call 199; refine (least_some y hy hy0 _ hT).mono ?_; rintro e w' ⟨rfl, rfl⟩))
  go_ret2
  exact ⟨rfl, rfl⟩

set_option maxHeartbeats 1000000 in
theorem next_none (x i : Nat) (hx : x < 18446744073709551616) (hi : i < 63) (w : World)
    (key : bits BinOp.andNot IntKind.u64 (x : Int) ((2 ^ (i + 1) - 1 : Nat) : Int) = 0) :
    Calls Tryd.prog 200 #[.int .u64 x, .int .i64 i] w fun e w' => e = .returned (.tuple #[.int .i64 0, .bool false]) ∧ w' = w := by
  have hb : (decide ((63 : Int) ≤ i)) = false := by simp; omega
  go_enter Tryd.func200, Tryd.ntmps200
  go_wp2_with (first
    | (go_at_call 153; refine (full_at (i + 1) _ (by omega) (by omega) (by omega) w).mono ?_; rintro e w' ⟨rfl, rfl⟩)
    | (go_at_call 199; refine (least_none _).mono ?_; rintro e w' ⟨rfl, rfl⟩))
  go_ret2
  exact ⟨rfl, rfl⟩
end Go.Proofs.YtiehmpoanhacaaaDoor
