/-
  Of no board there is nothing: what each method of a nil board comes to, and the law over them.
-/
import Derived.Test.YtiehmpoanhacaaaKSakialaw12
import Derived.Test.YtiehmpoanhacaaaKBoard
import Derived.Test.YtiehmpoanhacaaaKWide
set_option maxRecDepth 100000
set_option linter.unusedVariables false
set_option maxHeartbeats 1000000
namespace Go.Proofs.Ytiehmpoanhacaaa
open Go Go.Proofs.SakAm

theorem is32 (x1 x2 : Value) (H : Heap) : C F.board_Board_is_u32 [.pointer none, x1, x2] H = some (.bool false, H) := by
  rw [F.board_Board_is_u32.e]; simp
theorem is64 (x1 x2 : Value) (H : Heap) : C F.board_Board_is_u64 [.pointer none, x1, x2] H = some (.bool false, H) := by
  rw [F.board_Board_is_u64.e]; simp
theorem slot32 (x1 : Value) (H : Heap) : C F.board_Board_slot_u32 [.pointer none, x1] H = some (.bool false, H) := by
  rw [F.board_Board_slot_u32.e]; simp
theorem slot64 (x1 : Value) (H : Heap) : C F.board_Board_slot_u64 [.pointer none, x1] H = some (.bool false, H) := by
  rw [F.board_Board_slot_u64.e]; simp
theorem load32 (x1 x2 : Value) (H : Heap) : C F.board_Board_Load_u32 [.pointer none, x1, x2] H = some (.int .u32 0, H) := by
  rw [F.board_Board_Load_u32.e]; simp [is32]
theorem load64 (x1 x2 : Value) (H : Heap) : C F.board_Board_Load_u64 [.pointer none, x1, x2] H = some (.int .u64 0, H) := by
  rw [F.board_Board_Load_u64.e]; simp [is64]
theorem store32 (x1 x2 x3 : Value) (H : Heap) : C F.board_Board_Store_u32 [.pointer none, x1, x2, x3] H = some (.tuple #[], H) := by
  rw [F.board_Board_Store_u32.e]; simp [is32]
theorem store64 (x1 x2 x3 : Value) (H : Heap) : C F.board_Board_Store_u64 [.pointer none, x1, x2, x3] H = some (.tuple #[], H) := by
  rw [F.board_Board_Store_u64.e]; simp [is64]
theorem add32 (x1 x2 x3 : Value) (H : Heap) : C F.board_Board_Add_u32 [.pointer none, x1, x2, x3] H = some (.int .u32 0, H) := by
  rw [F.board_Board_Add_u32.e]; simp [is32]
theorem add64 (x1 x2 x3 : Value) (H : Heap) : C F.board_Board_Add_u64 [.pointer none, x1, x2, x3] H = some (.int .u64 0, H) := by
  rw [F.board_Board_Add_u64.e]; simp [is64]
theorem swap32 (x1 x2 x3 x4 : Value) (H : Heap) : C F.board_Board_Swap_u32 [.pointer none, x1, x2, x3, x4] H = some (.bool false, H) := by
  rw [F.board_Board_Swap_u32.e]; simp [is32]
theorem swap64 (x1 x2 x3 x4 : Value) (H : Heap) : C F.board_Board_Swap_u64 [.pointer none, x1, x2, x3, x4] H = some (.bool false, H) := by
  rw [F.board_Board_Swap_u64.e]; simp [is64]
theorem read32 (x1 x2 : Value) (H : Heap) : C F.board_Board_Read_u32 [.pointer none, x1, x2] H = some (.int .u32 0, H) := by
  rw [F.board_Board_Read_u32.e]; simp [is32]
theorem read64 (x1 x2 : Value) (H : Heap) : C F.board_Board_Read_u64 [.pointer none, x1, x2] H = some (.int .u64 0, H) := by
  rw [F.board_Board_Read_u64.e]; simp [is64]
theorem write32 (x1 x2 x3 : Value) (H : Heap) : C F.board_Board_Write_u32 [.pointer none, x1, x2, x3] H = some (.tuple #[], H) := by
  rw [F.board_Board_Write_u32.e]; simp [is32]
theorem write64 (x1 x2 x3 : Value) (H : Heap) : C F.board_Board_Write_u64 [.pointer none, x1, x2, x3] H = some (.tuple #[], H) := by
  rw [F.board_Board_Write_u64.e]; simp [is64]
theorem get32 (x1 x2 : Value) (H : Heap) : C F.board_Board_Get_u32 [.pointer none, x1, x2] H = some (.int .i64 0, H) := by
  rw [F.board_Board_Get_u32.e]; simp [slot32]
theorem get64 (x1 x2 : Value) (H : Heap) : C F.board_Board_Get_u64 [.pointer none, x1, x2] H = some (.int .i64 0, H) := by
  rw [F.board_Board_Get_u64.e]; simp [slot64]
theorem set32 (x1 x2 x3 : Value) (H : Heap) : C F.board_Board_Set_u32 [.pointer none, x1, x2, x3] H = some (.tuple #[], H) := by
  rw [F.board_Board_Set_u32.e]; simp [slot32]
theorem set64 (x1 x2 x3 : Value) (H : Heap) : C F.board_Board_Set_u64 [.pointer none, x1, x2, x3] H = some (.tuple #[], H) := by
  rw [F.board_Board_Set_u64.e]; simp [slot64]
theorem len32 (H : Heap) : C F.board_Board_Len_u32 [.pointer none] H = some (.int .i64 0, H) := by
  rw [F.board_Board_Len_u32.e]; simp
theorem log64 (H : Heap) : C F.board_Board_Log_u64 [.pointer none] H = some (.slice none 0 0, H) := by
  rw [F.board_Board_Log_u64.e]; simp
theorem peek32 (x1 : Value) (H : Heap) : C F.board_Board_Peek_u32 [.pointer none, x1] H = some (.int .u64 0, H) := by
  rw [F.board_Board_Peek_u32.e]; simp
theorem data64 (x1 : Value) (H : Heap) : C F.board_Board_Data_u64 [.pointer none, x1] H = some (.int .i64 0, H) := by
  rw [F.board_Board_Data_u64.e]; simp [slot64]
theorem cost32 (x1 : Value) (H : Heap) : C F.board_Board_Cost_u32 [.pointer none, x1] H = some (.complex .f64 0 0, H) := by
  rw [F.board_Board_Cost_u32.e]; simp

def doB (t k c n o w : Int) : Blk := { cells := [.int .i64 t, .int .i64 k, .int .i64 c, .int .i64 n, .int .u64 o, .int .u64 w], elem := T.sakialaw12_Do, ver := 0, ro := false }

theorem small0 (t k c n o w : Int) (H : Heap) : C F.sakialaw12_small [.pointer none, .agg #[.int .i64 t, .int .i64 k, .int .i64 c, .int .i64 n, .int .u64 o, .int .u64 w]] H = some (.tuple #[.int .u64 0, .bool false], H.new (doB t k c n o w)) := by
  rw [F.sakialaw12_small.e]
  rw [mkbox_none (by simp)]
  simp [load32, store32, add32, swap32, read32, write32, get32, set32, F.sakialaw12_small.e0, doB, show IntKind.wrap .u64 0 = 0 from rfl]

theorem great0 (t k c n o w : Int) (H : Heap) : C F.sakialaw12_great [.pointer none, .agg #[.int .i64 t, .int .i64 k, .int .i64 c, .int .i64 n, .int .u64 o, .int .u64 w]] H = some (.tuple #[.int .u64 0, .bool false], H.new (doB t k c n o w)) := by
  rw [F.sakialaw12_great.e]
  rw [mkbox_none (by simp)]
  simp [load64, store64, add64, swap64, read64, write64, get64, set64, F.sakialaw12_great.e0, doB, show IntKind.wrap .u64 0 = 0 from rfl]

def layB : Blk := { cells := [.int .i64 0, .int .i64 0, .int .i64 0, .int .i64 0, .int .u64 0, .slice none 0 0, .int .i64 0, .int .i64 0, .int .i64 0, .int .i64 0, .int .i64 0, .int .i64 0, .int .i64 0, .int .i64 0], elem := T.layout_Layout, ver := 0, ro := false }

theorem new0 (H : Heap) : C F.board_New_u32 [.agg #[.int .i64 0, .int .i64 0, .int .i64 0, .int .i64 0, .int .u64 0, .slice none 0 0, .int .i64 0, .int .i64 0, .int .i64 0, .int .i64 0, .int .i64 0, .int .i64 0, .int .i64 0, .int .i64 0]] H = some (.pointer none, H.new layB) := by
  rw [F.board_New_u32.e]
  rw [mkbox_none (by simp)]
  simp [layB, Read.holds]
  done

theorem layout64 (H : Heap) : C F.board_Board_Layout_u64 [.pointer none] H = some (.agg #[.int .i64 0, .int .i64 0, .int .i64 0, .int .i64 0, .int .u64 0, .slice none 0 0, .int .i64 0, .int .i64 0, .int .i64 0, .int .i64 0, .int .i64 0, .int .i64 0, .int .i64 0, .int .i64 0], (H.new layB).upd H.next layB) := by
  rw [F.board_Board_Layout_u64.e]
  rw [mkbox_none (by simp)]
  simp [fillL, stA, layB, splice, blk_upd_self]

theorem cplx : abin P .eql T.complex128 (.tmp 69) (.const (.complex .f64 0 0)) (.complex .f64 0 0) (.complex .f64 0 0) = some (.bool true) := by kernel_rfl

theorem live (H : Heap) : C F.sakialaw12_live [] H = some (.bool true, H) := rfl

theorem law (t k c n o w : Int) (H : Heap) : ∃ H', C F.sakialaw12_BoardNone [.agg #[.int .i64 t, .int .i64 k, .int .i64 c, .int .i64 n, .int .u64 o, .int .u64 w]] H = some (.bool true, H') := by
  rw [F.sakialaw12_BoardNone.e]
  rw [mkbox_none (by simp)]
  simp [fillL, small0, great0, new0, layout64, len32, log64, peek32, data64, cost32, live, cplx, blk_new_old, doB, layB, apart, Nat.add_assoc]
end Go.Proofs.Ytiehmpoanhacaaa
