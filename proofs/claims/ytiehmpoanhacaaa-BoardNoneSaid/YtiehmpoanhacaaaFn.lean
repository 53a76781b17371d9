/-
  What each function's code comes to in the abstract machine: written by program, each by the kernel's own reckoning; no condition.
-/
import Derived.Test.YtiehmpoanhacaaaProg
import Derived.Test.YtiehmpoanhacaaaAmB
import Derived.KernelRfl
set_option maxRecDepth 100000
set_option linter.unusedVariables false
set_option maxHeartbeats 1000000
namespace Go.Proofs.Ytiehmpoanhacaaa
open Go Go.Proofs.SakAm
/-- sakia/sakialaw12.BoardNone -/
def F.sakialaw12_BoardNone : FuncId := 3
/-- sakia/sakialaw12.small -/
def F.sakialaw12_small : FuncId := 4
/-- sakia/sakialaw12.great -/
def F.sakialaw12_great : FuncId := 5
/-- sakia/board.New[uint32] -/
def F.board_New_u32 : FuncId := 6
/-- (*sakia/board.Board[uint32]).Len -/
def F.board_Board_Len_u32 : FuncId := 7
/-- (*sakia/board.Board[uint64]).Log -/
def F.board_Board_Log_u64 : FuncId := 8
/-- (*sakia/board.Board[uint32]).Peek -/
def F.board_Board_Peek_u32 : FuncId := 9
/-- (*sakia/board.Board[uint64]).Data -/
def F.board_Board_Data_u64 : FuncId := 10
/-- (*sakia/board.Board[uint32]).Cost -/
def F.board_Board_Cost_u32 : FuncId := 11
/-- (*sakia/board.Board[uint64]).Layout -/
def F.board_Board_Layout_u64 : FuncId := 12
/-- (*sakia/board.Board[uint32]).Load -/
def F.board_Board_Load_u32 : FuncId := 14
/-- (*sakia/board.Board[uint32]).Store -/
def F.board_Board_Store_u32 : FuncId := 15
/-- (*sakia/board.Board[uint32]).Add -/
def F.board_Board_Add_u32 : FuncId := 16
/-- (*sakia/board.Board[uint32]).Swap -/
def F.board_Board_Swap_u32 : FuncId := 17
/-- (*sakia/board.Board[uint32]).Read -/
def F.board_Board_Read_u32 : FuncId := 18
/-- (*sakia/board.Board[uint32]).Write -/
def F.board_Board_Write_u32 : FuncId := 19
/-- (*sakia/board.Board[uint32]).Get -/
def F.board_Board_Get_u32 : FuncId := 20
/-- (*sakia/board.Board[uint32]).Set -/
def F.board_Board_Set_u32 : FuncId := 21
/-- (*sakia/board.Board[uint64]).Load -/
def F.board_Board_Load_u64 : FuncId := 22
/-- (*sakia/board.Board[uint64]).Store -/
def F.board_Board_Store_u64 : FuncId := 23
/-- (*sakia/board.Board[uint64]).Add -/
def F.board_Board_Add_u64 : FuncId := 24
/-- (*sakia/board.Board[uint64]).Swap -/
def F.board_Board_Swap_u64 : FuncId := 25
/-- (*sakia/board.Board[uint64]).Read -/
def F.board_Board_Read_u64 : FuncId := 26
/-- (*sakia/board.Board[uint64]).Write -/
def F.board_Board_Write_u64 : FuncId := 27
/-- (*sakia/board.Board[uint64]).Get -/
def F.board_Board_Get_u64 : FuncId := 28
/-- (*sakia/board.Board[uint64]).Set -/
def F.board_Board_Set_u64 : FuncId := 29
/-- sakia/wide.Bits[uint32] -/
def F.wide_Bits_u32 : FuncId := 30
/-- sakia/wide.Of[uint32] -/
def F.wide_Of_u32 : FuncId := 31
/-- (sakia/layout.Layout).First -/
def F.layout_Layout_First : FuncId := 32
/-- (sakia/layout.Layout).Kind -/
def F.layout_Layout_Kind : FuncId := 33
/-- sakia/wide.Up[uint32] -/
def F.wide_Up_u32 : FuncId := 34
/-- (*sakia/board.Board[uint64]).slot -/
def F.board_Board_slot_u64 : FuncId := 35
/-- sakia/pair.Sum -/
def F.pair_Sum : FuncId := 36
/-- sakia/board.weight -/
def F.board_weight : FuncId := 37
/-- sakia/pair.Second -/
def F.pair_Second : FuncId := 40
/-- (*sakia/board.Board[uint32]).is -/
def F.board_Board_is_u32 : FuncId := 41
/-- (*sakia/board.Board[uint32]).look -/
def F.board_Board_look_u32 : FuncId := 42
/-- (*sakia/board.Board[uint32]).lay -/
def F.board_Board_lay_u32 : FuncId := 43
/-- sakia/wide.Add[uint32] -/
def F.wide_Add_u32 : FuncId := 44
/-- (*sakia/board.Board[uint32]).slot -/
def F.board_Board_slot_u32 : FuncId := 45
/-- (*sakia/board.Board[uint32]).note -/
def F.board_Board_note_u32 : FuncId := 46
/-- (sakia/layout.Layout).Slot -/
def F.layout_Layout_Slot : FuncId := 47
/-- (*sakia/board.Board[uint64]).is -/
def F.board_Board_is_u64 : FuncId := 48
/-- (*sakia/board.Board[uint64]).look -/
def F.board_Board_look_u64 : FuncId := 49
/-- (*sakia/board.Board[uint64]).lay -/
def F.board_Board_lay_u64 : FuncId := 50
/-- sakia/wide.Add[uint64] -/
def F.wide_Add_u64 : FuncId := 51
/-- (*sakia/board.Board[uint64]).note -/
def F.board_Board_note_u64 : FuncId := 52
/-- (sakia/layout.Layout).there -/
def F.layout_Layout_there : FuncId := 53
/-- sakia/conf.Start -/
def F.conf_Start : FuncId := 54
/-- (sakia/layout.Layout).marked -/
def F.layout_Layout_marked : FuncId := 55
/-- sakia/lap.First[uint32] -/
def F.lap_First_u32 : FuncId := 56
/-- sakia/lap.Ahead[uint32] -/
def F.lap_Ahead_u32 : FuncId := 57
/-- sakia/lap.First[uint64] -/
def F.lap_First_u64 : FuncId := 58
/-- sakia/lap.Ahead[uint64] -/
def F.lap_Ahead_u64 : FuncId := 59
/-- sakia/pair.Whole -/
def F.pair_Whole : FuncId := 60
/-- sakia/pair.clean -/
def F.pair_clean : FuncId := 61
/-- sakia/pair.Of -/
def F.pair_Of : FuncId := 62
/-- sakia/conf.Check -/
def F.conf_Check : FuncId := 63
/-- (sakia/layout.Layout).slot -/
def F.layout_Layout_slot : FuncId := 65
/-- sakia/wide.Up[uint64] -/
def F.wide_Up_u64 : FuncId := 66
/-- (sakia/layout.Layout).made -/
def F.layout_Layout_made : FuncId := 67
/-- sakia/wide.Cut -/
def F.wide_Cut : FuncId := 68
/-- sakia/lap.there -/
def F.lap_there : FuncId := 69
/-- sakia/lap.Round[uint32] -/
def F.lap_Round_u32 : FuncId := 70
/-- sakia/lap.Round[uint64] -/
def F.lap_Round_u64 : FuncId := 71
/-- sakia/pair.within -/
def F.pair_within : FuncId := 72
/-- sakia/pair.First -/
def F.pair_First : FuncId := 73
/-- sakia/pair.count -/
def F.pair_count : FuncId := 74
/-- sakia/wide.Right -/
def F.wide_Right : FuncId := 75
/-- sakia/lap.Right -/
def F.lap_Right : FuncId := 76
/-- sakia/graph.Check -/
def F.graph_Check : FuncId := 77
/-- sakia/conf.bound -/
def F.conf_bound : FuncId := 78
/-- sakia/lap.Log -/
def F.lap_Log : FuncId := 79
/-- sakia/lap.one -/
def F.lap_one : FuncId := 80
/-- sakia/graph.names -/
def F.graph_names : FuncId := 81
/-- sakia/graph.above -/
def F.graph_above : FuncId := 82
/-- (sakia/group.Group).Has -/
def F.group_Group_Has : FuncId := 83
/-- (sakia/group.Group).With -/
def F.group_Group_With : FuncId := 84
/-- sakia/graph.above$1 -/
def F.graph_above_1 : FuncId := 85
/-- sakia/group.in -/
def F.group_in : FuncId := 86
/-- sakia/sakialaw12.live -/
def F.sakialaw12_live : FuncId := 13
def T.int : TypeId := 3
def T.uint64 : TypeId := 22
def T.sakialaw12_Do : TypeId := 24
def T.p_board_Board_u32 : TypeId := 25
def T.p_board_Board_u64 : TypeId := 26
def T.uint32 : TypeId := 31
def T.sl_sl_int : TypeId := 32
def T.api_Conf : TypeId := 34
def T.layout_Layout : TypeId := 36
def T.complex128 : TypeId := 42
def T.board_Board_u32 : TypeId := 60
def T.api_Access : TypeId := 68
def T.api_Errno : TypeId := 71
def T.float64 : TypeId := 93
def T.group_Group : TypeId := 101
def T.func_int : TypeId := 104
noncomputable def P : Program := Try.prog
noncomputable def ext0 : FuncId → List Value → Heap → Option (Value × Heap) := mute
noncomputable def tab : List (FuncId × Value) := [(F.sakialaw12_live, .bool true)]
noncomputable def ext : FuncId → List Value → Heap → Option (Value × Heap) := told ext0 tab
noncomputable def C : FuncId → List Value → Heap → Option (Value × Heap) := call P ext
noncomputable def R : Func → List Item → Fr → Heap → Option (Value × Heap) := run P ext
noncomputable def F.sakialaw12_BoardNone.f : Func := Try.f3
noncomputable def F.sakialaw12_small.f : Func := Try.f4
noncomputable def F.sakialaw12_great.f : Func := Try.f5
noncomputable def F.board_New_u32.f : Func := Try.f6
noncomputable def F.board_Board_Len_u32.f : Func := Try.f7
noncomputable def F.board_Board_Log_u64.f : Func := Try.f8
noncomputable def F.board_Board_Peek_u32.f : Func := Try.f9
noncomputable def F.board_Board_Data_u64.f : Func := Try.f10
noncomputable def F.board_Board_Cost_u32.f : Func := Try.f11
noncomputable def F.board_Board_Layout_u64.f : Func := Try.f12
noncomputable def F.board_Board_Load_u32.f : Func := Try.f14
noncomputable def F.board_Board_Store_u32.f : Func := Try.f15
noncomputable def F.board_Board_Add_u32.f : Func := Try.f16
noncomputable def F.board_Board_Swap_u32.f : Func := Try.f17
noncomputable def F.board_Board_Read_u32.f : Func := Try.f18
noncomputable def F.board_Board_Write_u32.f : Func := Try.f19
noncomputable def F.board_Board_Get_u32.f : Func := Try.f20
noncomputable def F.board_Board_Set_u32.f : Func := Try.f21
noncomputable def F.board_Board_Load_u64.f : Func := Try.f22
noncomputable def F.board_Board_Store_u64.f : Func := Try.f23
noncomputable def F.board_Board_Add_u64.f : Func := Try.f24
noncomputable def F.board_Board_Swap_u64.f : Func := Try.f25
noncomputable def F.board_Board_Read_u64.f : Func := Try.f26
noncomputable def F.board_Board_Write_u64.f : Func := Try.f27
noncomputable def F.board_Board_Get_u64.f : Func := Try.f28
noncomputable def F.board_Board_Set_u64.f : Func := Try.f29
noncomputable def F.wide_Bits_u32.f : Func := Try.f30
noncomputable def F.wide_Of_u32.f : Func := Try.f31
noncomputable def F.layout_Layout_First.f : Func := Try.f32
noncomputable def F.layout_Layout_Kind.f : Func := Try.f33
noncomputable def F.wide_Up_u32.f : Func := Try.f34
noncomputable def F.board_Board_slot_u64.f : Func := Try.f35
noncomputable def F.pair_Sum.f : Func := Try.f36
noncomputable def F.board_weight.f : Func := Try.f37
noncomputable def F.pair_Second.f : Func := Try.f40
noncomputable def F.board_Board_is_u32.f : Func := Try.f41
noncomputable def F.board_Board_look_u32.f : Func := Try.f42
noncomputable def F.board_Board_lay_u32.f : Func := Try.f43
noncomputable def F.wide_Add_u32.f : Func := Try.f44
noncomputable def F.board_Board_slot_u32.f : Func := Try.f45
noncomputable def F.board_Board_note_u32.f : Func := Try.f46
noncomputable def F.layout_Layout_Slot.f : Func := Try.f47
noncomputable def F.board_Board_is_u64.f : Func := Try.f48
noncomputable def F.board_Board_look_u64.f : Func := Try.f49
noncomputable def F.board_Board_lay_u64.f : Func := Try.f50
noncomputable def F.wide_Add_u64.f : Func := Try.f51
noncomputable def F.board_Board_note_u64.f : Func := Try.f52
noncomputable def F.layout_Layout_there.f : Func := Try.f53
noncomputable def F.conf_Start.f : Func := Try.f54
noncomputable def F.layout_Layout_marked.f : Func := Try.f55
noncomputable def F.lap_First_u32.f : Func := Try.f56
noncomputable def F.lap_Ahead_u32.f : Func := Try.f57
noncomputable def F.lap_First_u64.f : Func := Try.f58
noncomputable def F.lap_Ahead_u64.f : Func := Try.f59
noncomputable def F.pair_Whole.f : Func := Try.f60
noncomputable def F.pair_clean.f : Func := Try.f61
noncomputable def F.pair_Of.f : Func := Try.f62
noncomputable def F.conf_Check.f : Func := Try.f63
noncomputable def F.layout_Layout_slot.f : Func := Try.f65
noncomputable def F.wide_Up_u64.f : Func := Try.f66
noncomputable def F.layout_Layout_made.f : Func := Try.f67
noncomputable def F.wide_Cut.f : Func := Try.f68
noncomputable def F.lap_there.f : Func := Try.f69
noncomputable def F.lap_Round_u32.f : Func := Try.f70
noncomputable def F.lap_Round_u64.f : Func := Try.f71
noncomputable def F.pair_within.f : Func := Try.f72
noncomputable def F.pair_First.f : Func := Try.f73
noncomputable def F.pair_count.f : Func := Try.f74
noncomputable def F.wide_Right.f : Func := Try.f75
noncomputable def F.lap_Right.f : Func := Try.f76
noncomputable def F.graph_Check.f : Func := Try.f77
noncomputable def F.conf_bound.f : Func := Try.f78
noncomputable def F.lap_Log.f : Func := Try.f79
noncomputable def F.lap_one.f : Func := Try.f80
noncomputable def F.graph_names.f : Func := Try.f81
noncomputable def F.graph_above.f : Func := Try.f82
noncomputable def F.group_Group_Has.f : Func := Try.f83
noncomputable def F.group_Group_With.f : Func := Try.f84
noncomputable def F.graph_above_1.f : Func := Try.f85
noncomputable def F.group_in.f : Func := Try.f86
@[simp] theorem T.p_board_Board_u32.eq0 {xo yo : Operand} : abin P .eql T.p_board_Board_u32 xo yo (.pointer none) (.pointer none) = some (.bool true) := abin_nil (by kernel_rfl)
@[simp] theorem T.p_board_Board_u32.eq1 {xo yo : Operand} {p : Addr} : abin P .eql T.p_board_Board_u32 xo yo (.pointer (some p)) (.pointer none) = some (.bool false) := abin_ptr (by kernel_rfl)
@[simp] theorem T.p_board_Board_u32.ne0 {xo yo : Operand} : abin P .neq T.p_board_Board_u32 xo yo (.pointer none) (.pointer none) = some (.bool false) := abin_nnil (by kernel_rfl)
@[simp] theorem T.p_board_Board_u32.ne1 {xo yo : Operand} {p : Addr} : abin P .neq T.p_board_Board_u32 xo yo (.pointer (some p)) (.pointer none) = some (.bool true) := abin_nptr (by kernel_rfl)
@[simp] theorem T.p_board_Board_u64.eq0 {xo yo : Operand} : abin P .eql T.p_board_Board_u64 xo yo (.pointer none) (.pointer none) = some (.bool true) := abin_nil (by kernel_rfl)
@[simp] theorem T.p_board_Board_u64.eq1 {xo yo : Operand} {p : Addr} : abin P .eql T.p_board_Board_u64 xo yo (.pointer (some p)) (.pointer none) = some (.bool false) := abin_ptr (by kernel_rfl)
@[simp] theorem T.p_board_Board_u64.ne0 {xo yo : Operand} : abin P .neq T.p_board_Board_u64 xo yo (.pointer none) (.pointer none) = some (.bool false) := abin_nnil (by kernel_rfl)
@[simp] theorem T.p_board_Board_u64.ne1 {xo yo : Operand} {p : Addr} : abin P .neq T.p_board_Board_u64 xo yo (.pointer (some p)) (.pointer none) = some (.bool true) := abin_nptr (by kernel_rfl)
@[simp] theorem T.int.to_uint32 {n : Int} : aconv P T.int T.uint32 (.int .i64 n) = some (.int .u32 (IntKind.wrap .u32 n)) := aconv_int (by kernel_rfl) (by kernel_rfl)
@[simp] theorem T.int.to_uint64 {n : Int} : aconv P T.int T.uint64 (.int .i64 n) = some (.int .u64 (IntKind.wrap .u64 n)) := aconv_int (by kernel_rfl) (by kernel_rfl)
@[simp] theorem T.uint32.to_uint64 {n : Int} : aconv P T.uint32 T.uint64 (.int .u32 n) = some (.int .u64 (IntKind.wrap .u64 n)) := aconv_int (by kernel_rfl) (by kernel_rfl)
@[simp] theorem T.uint64.to_uint32 {n : Int} : aconv P T.uint64 T.uint32 (.int .u64 n) = some (.int .u32 (IntKind.wrap .u32 n)) := aconv_int (by kernel_rfl) (by kernel_rfl)
end Go.Proofs.Ytiehmpoanhacaaa
