/-
  What each function's code comes to in the abstract machine: written by program, each by the kernel's own reckoning; no condition.
-/
import Derived.Test.YtiehmpoanhacaaaDoorProg
import Derived.Test.YtiehmpoanhacaaaDoorAmC
import Derived.KernelRfl
set_option maxRecDepth 100000
set_option linter.unusedVariables false
set_option maxHeartbeats 1000000
namespace Go.Proofs.YtiehmpoanhacaaaDoor
open Go Go.Proofs.SakAm
/-- sakia/sakialaw20.CasNone -/
def F.sakialaw20_CasNone : FuncId := 12
/-- sakia/layout.Of -/
def F.layout_Of : FuncId := 18
/-- sakia/board.New[uint32] -/
def F.board_New_u32 : FuncId := 19
/-- (*sakia/board.Board[uint32]).Store -/
def F.board_Board_Store_u32 : FuncId := 22
/-- sakia/wide.Of[uint32] -/
def F.wide_Of_u32 : FuncId := 23
/-- sakia/gate.Ends -/
def F.gate_Ends : FuncId := 24
/-- sakia/wide.Add[uint32] -/
def F.wide_Add_u32 : FuncId := 26
/-- sakia/gate.Scan[uint32] -/
def F.gate_Scan_u32 : FuncId := 28
/-- sakia/wide.Less[uint32] -/
def F.wide_Less_u32 : FuncId := 29
/-- (sakia/layout.Layout).Kind -/
def F.layout_Layout_Kind : FuncId := 37
/-- (sakia/layout.Layout).First -/
def F.layout_Layout_First : FuncId := 41
/-- sakia/event.NewLog -/
def F.event_NewLog : FuncId := 44
/-- (sakia/layout.Layout).Gate -/
def F.layout_Layout_Gate : FuncId := 52
/-- (sakia/layout.Layout).Mark -/
def F.layout_Layout_Mark : FuncId := 53
/-- (*sakia/board.Board[uint32]).Len -/
def F.board_Board_Len_u32 : FuncId := 59
/-- (*sakia/event.Log).Len -/
def F.event_Log_Len : FuncId := 60
/-- sakia/wide.Diff[uint32] -/
def F.wide_Diff_u32 : FuncId := 61
/-- sakia/gate.Fits[uint32] -/
def F.gate_Fits_u32 : FuncId := 62
/-- sakia/sakialaw20.conf -/
def F.sakialaw20_conf : FuncId := 77
/-- sakia/seqcas.New[uint32] -/
def F.seqcas_New_u32 : FuncId := 78
/-- (*sakia/seqcas.Seq[uint32]).Claim -/
def F.seqcas_Seq_Claim_u32 : FuncId := 79
/-- (*sakia/seqcas.Seq[uint32]).Publish -/
def F.seqcas_Seq_Publish_u32 : FuncId := 80
/-- (*sakia/seqcas.Seq[uint32]).Tip -/
def F.seqcas_Seq_Tip_u32 : FuncId := 81
/-- sakia/conf.Check -/
def F.conf_Check : FuncId := 86
/-- sakia/graph.Copy -/
def F.graph_Copy : FuncId := 87
/-- sakia/wide.Bits[uint32] -/
def F.wide_Bits_u32 : FuncId := 88
/-- (*sakia/board.Board[uint32]).is -/
def F.board_Board_is_u32 : FuncId := 90
/-- (*sakia/board.Board[uint32]).lay -/
def F.board_Board_lay_u32 : FuncId := 91
/-- sakia/gate.gates -/
def F.gate_gates : FuncId := 92
/-- sakia/graph.Ends -/
def F.graph_Ends : FuncId := 93
/-- sakia/wide.Up[uint32] -/
def F.wide_Up_u32 : FuncId := 95
/-- (*sakia/board.Board[uint32]).Load -/
def F.board_Board_Load_u32 : FuncId := 96
/-- (sakia/layout.Layout).there -/
def F.layout_Layout_there : FuncId := 106
/-- (sakia/layout.Layout).marked -/
def F.layout_Layout_marked : FuncId := 111
/-- sakia/conf.Start -/
def F.conf_Start : FuncId := 113
/-- sakia/lap.First[uint32] -/
def F.lap_First_u32 : FuncId := 114
/-- sakia/lap.Ahead[uint32] -/
def F.lap_Ahead_u32 : FuncId := 115
/-- sakia/lap.First[uint64] -/
def F.lap_First_u64 : FuncId := 116
/-- sakia/lap.Ahead[uint64] -/
def F.lap_Ahead_u64 : FuncId := 117
/-- (*sakia/event.Log).Note -/
def F.event_Log_Note : FuncId := 121
/-- (sakia/layout.Layout).made -/
def F.layout_Layout_made : FuncId := 125
/-- (sakia/layout.Layout).slot -/
def F.layout_Layout_slot : FuncId := 126
/-- (*sakia/board.Board[uint32]).Layout -/
def F.board_Board_Layout_u32 : FuncId := 127
/-- sakia/wide.signed[uint32] -/
def F.wide_signed_u32 : FuncId := 130
/-- (*sakia/board.Board[uint32]).Swap -/
def F.board_Board_Swap_u32 : FuncId := 135
/-- sakia/mark.Publish[uint32] -/
def F.mark_Publish_u32 : FuncId := 142
/-- sakia/mark.Seek[uint32] -/
def F.mark_Seek_u32 : FuncId := 143
/-- (*sakia/seqcas.Seq[uint32]).may -/
def F.seqcas_Seq_may_u32 : FuncId := 144
/-- (*sakia/seqcas.Seq[uint32]).next -/
def F.seqcas_Seq_next_u32 : FuncId := 145
/-- sakia/wide.Right -/
def F.wide_Right : FuncId := 146
/-- sakia/lap.Right -/
def F.lap_Right : FuncId := 147
/-- sakia/graph.Check -/
def F.graph_Check : FuncId := 148
/-- sakia/conf.bound -/
def F.conf_bound : FuncId := 149
/-- (*sakia/board.Board[uint32]).note -/
def F.board_Board_note_u32 : FuncId := 152
/-- sakia/group.Full -/
def F.group_Full : FuncId := 153
/-- (sakia/group.Group).Without -/
def F.group_Group_Without : FuncId := 154
/-- (*sakia/board.Board[uint32]).look -/
def F.board_Board_look_u32 : FuncId := 156
/-- sakia/wide.Cut -/
def F.wide_Cut : FuncId := 167
/-- sakia/lap.there -/
def F.lap_there : FuncId := 168
/-- sakia/lap.Round[uint32] -/
def F.lap_Round_u32 : FuncId := 169
/-- sakia/lap.Round[uint64] -/
def F.lap_Round_u64 : FuncId := 170
/-- sakia/event.copied -/
def F.event_copied : FuncId := 172
/-- sakia/lap.Slot[uint32] -/
def F.lap_Slot_u32 : FuncId := 175
/-- sakia/mark.Has[uint32] -/
def F.mark_Has_u32 : FuncId := 176
/-- sakia/mark.inside[uint32] -/
def F.mark_inside_u32 : FuncId := 177
/-- sakia/mark.lay[uint32] -/
def F.mark_lay_u32 : FuncId := 178
/-- sakia/mark.look[uint32] -/
def F.mark_look_u32 : FuncId := 179
/-- sakia/graph.names -/
def F.graph_names : FuncId := 180
/-- sakia/graph.above -/
def F.graph_above : FuncId := 181
/-- (sakia/group.Group).Has -/
def F.group_Group_Has : FuncId := 182
/-- sakia/group.in -/
def F.group_in : FuncId := 183
/-- sakia/lap.Log -/
def F.lap_Log : FuncId := 190
/-- sakia/lap.one -/
def F.lap_one : FuncId := 191
/-- sakia/mark.kind[uint32] -/
def F.mark_kind_u32 : FuncId := 192
/-- sakia/mark.cell[uint32] -/
def F.mark_cell_u32 : FuncId := 193
/-- (*sakia/board.Board[uint32]).Write -/
def F.board_Board_Write_u32 : FuncId := 194
/-- (*sakia/board.Board[uint32]).Read -/
def F.board_Board_Read_u32 : FuncId := 195
/-- (sakia/group.Group).With -/
def F.group_Group_With : FuncId := 196
/-- sakia/graph.above$1 -/
def F.graph_above_1 : FuncId := 197
/-- sakia/sakialaw20.live -/
def F.sakialaw20_live : FuncId := 82
/-- (sakia/group.Group).List -/
def F.group_Group_List : FuncId := 155
def T.int : TypeId := 3
def T.bool : TypeId := 4
def T.uint8 : TypeId := 5
def T.int32 : TypeId := 21
def T.uint64 : TypeId := 22
def T.sl_sl_int : TypeId := 23
def T.api_Conf : TypeId := 25
def T.layout_Layout : TypeId := 32
def T.api_Errno : TypeId := 33
def T.p_board_Board_u32 : TypeId := 36
def T.uint32 : TypeId := 38
def T.sl_int : TypeId := 49
def T.p_api_Frame_u32 : TypeId := 51
def T.api_Frame_u32 : TypeId := 53
def T.p_event_Log : TypeId := 83
def T.a2_int : TypeId := 94
def T.api_Event : TypeId := 113
def T.sakialaw20_Case : TypeId := 125
def T.p_seqcas_Seq_u32 : TypeId := 127
def T.board_Board_u32 : TypeId := 140
def T.event_Log : TypeId := 165
def T.seqcas_Seq_u32 : TypeId := 189
def T.group_Group : TypeId := 192
def T.api_Access : TypeId := 214
def T.func_int : TypeId := 224
noncomputable def P : Program := Tryd.prog
noncomputable def ext0 : FuncId → List Value → Heap → Option (Value × Heap) := (listX F.group_Group_List T.int)
noncomputable def tab : List (FuncId × Value) := [(F.sakialaw20_live, .bool true)]
noncomputable def ext : FuncId → List Value → Heap → Option (Value × Heap) := told ext0 tab
instance tabs : Tabs := tabsOf 0 Lib.deBruijn64tab
noncomputable def C : FuncId → List Value → Heap → Option (Value × Heap) := call P ext
noncomputable def R : Func → List Item → Fr → Heap → Option (Value × Heap) := run P ext
noncomputable def F.sakialaw20_CasNone.f : Func := Tryd.f12
noncomputable def F.layout_Of.f : Func := Tryd.f18
noncomputable def F.board_New_u32.f : Func := Tryd.f19
noncomputable def F.board_Board_Store_u32.f : Func := Tryd.f22
noncomputable def F.wide_Of_u32.f : Func := Tryd.f23
noncomputable def F.gate_Ends.f : Func := Tryd.f24
noncomputable def F.wide_Add_u32.f : Func := Tryd.f26
noncomputable def F.gate_Scan_u32.f : Func := Tryd.f28
noncomputable def F.wide_Less_u32.f : Func := Tryd.f29
noncomputable def F.layout_Layout_Kind.f : Func := Tryd.f37
noncomputable def F.layout_Layout_First.f : Func := Tryd.f41
noncomputable def F.event_NewLog.f : Func := Tryd.f44
noncomputable def F.layout_Layout_Gate.f : Func := Tryd.f52
noncomputable def F.layout_Layout_Mark.f : Func := Tryd.f53
noncomputable def F.board_Board_Len_u32.f : Func := Tryd.f59
noncomputable def F.event_Log_Len.f : Func := Tryd.f60
noncomputable def F.wide_Diff_u32.f : Func := Tryd.f61
noncomputable def F.gate_Fits_u32.f : Func := Tryd.f62
noncomputable def F.sakialaw20_conf.f : Func := Tryd.f77
noncomputable def F.seqcas_New_u32.f : Func := Tryd.f78
noncomputable def F.seqcas_Seq_Claim_u32.f : Func := Tryd.f79
noncomputable def F.seqcas_Seq_Publish_u32.f : Func := Tryd.f80
noncomputable def F.seqcas_Seq_Tip_u32.f : Func := Tryd.f81
noncomputable def F.conf_Check.f : Func := Tryd.f86
noncomputable def F.graph_Copy.f : Func := Tryd.f87
noncomputable def F.wide_Bits_u32.f : Func := Tryd.f88
noncomputable def F.board_Board_is_u32.f : Func := Tryd.f90
noncomputable def F.board_Board_lay_u32.f : Func := Tryd.f91
noncomputable def F.gate_gates.f : Func := Tryd.f92
noncomputable def F.graph_Ends.f : Func := Tryd.f93
noncomputable def F.wide_Up_u32.f : Func := Tryd.f95
noncomputable def F.board_Board_Load_u32.f : Func := Tryd.f96
noncomputable def F.layout_Layout_there.f : Func := Tryd.f106
noncomputable def F.layout_Layout_marked.f : Func := Tryd.f111
noncomputable def F.conf_Start.f : Func := Tryd.f113
noncomputable def F.lap_First_u32.f : Func := Tryd.f114
noncomputable def F.lap_Ahead_u32.f : Func := Tryd.f115
noncomputable def F.lap_First_u64.f : Func := Tryd.f116
noncomputable def F.lap_Ahead_u64.f : Func := Tryd.f117
noncomputable def F.event_Log_Note.f : Func := Tryd.f121
noncomputable def F.layout_Layout_made.f : Func := Tryd.f125
noncomputable def F.layout_Layout_slot.f : Func := Tryd.f126
noncomputable def F.board_Board_Layout_u32.f : Func := Tryd.f127
noncomputable def F.wide_signed_u32.f : Func := Tryd.f130
noncomputable def F.board_Board_Swap_u32.f : Func := Tryd.f135
noncomputable def F.mark_Publish_u32.f : Func := Tryd.f142
noncomputable def F.mark_Seek_u32.f : Func := Tryd.f143
noncomputable def F.seqcas_Seq_may_u32.f : Func := Tryd.f144
noncomputable def F.seqcas_Seq_next_u32.f : Func := Tryd.f145
noncomputable def F.wide_Right.f : Func := Tryd.f146
noncomputable def F.lap_Right.f : Func := Tryd.f147
noncomputable def F.graph_Check.f : Func := Tryd.f148
noncomputable def F.conf_bound.f : Func := Tryd.f149
noncomputable def F.board_Board_note_u32.f : Func := Tryd.f152
noncomputable def F.group_Full.f : Func := Tryd.f153
noncomputable def F.group_Group_Without.f : Func := Tryd.f154
noncomputable def F.board_Board_look_u32.f : Func := Tryd.f156
noncomputable def F.wide_Cut.f : Func := Tryd.f167
noncomputable def F.lap_there.f : Func := Tryd.f168
noncomputable def F.lap_Round_u32.f : Func := Tryd.f169
noncomputable def F.lap_Round_u64.f : Func := Tryd.f170
noncomputable def F.event_copied.f : Func := Tryd.f172
noncomputable def F.lap_Slot_u32.f : Func := Tryd.f175
noncomputable def F.mark_Has_u32.f : Func := Tryd.f176
noncomputable def F.mark_inside_u32.f : Func := Tryd.f177
noncomputable def F.mark_lay_u32.f : Func := Tryd.f178
noncomputable def F.mark_look_u32.f : Func := Tryd.f179
noncomputable def F.graph_names.f : Func := Tryd.f180
noncomputable def F.graph_above.f : Func := Tryd.f181
noncomputable def F.group_Group_Has.f : Func := Tryd.f182
noncomputable def F.group_in.f : Func := Tryd.f183
noncomputable def F.lap_Log.f : Func := Tryd.f190
noncomputable def F.lap_one.f : Func := Tryd.f191
noncomputable def F.mark_kind_u32.f : Func := Tryd.f192
noncomputable def F.mark_cell_u32.f : Func := Tryd.f193
noncomputable def F.board_Board_Write_u32.f : Func := Tryd.f194
noncomputable def F.board_Board_Read_u32.f : Func := Tryd.f195
noncomputable def F.group_Group_With.f : Func := Tryd.f196
noncomputable def F.graph_above_1.f : Func := Tryd.f197
@[simp] theorem T.bool.eq {xo yo : Operand} {c d : Bool} : abin P .eql T.bool xo yo (.bool c) (.bool d) = some (.bool (c == d)) := abin_beql (by kernel_rfl)
@[simp] theorem T.bool.ne {xo yo : Operand} {c d : Bool} : abin P .neq T.bool xo yo (.bool c) (.bool d) = some (.bool (c != d)) := abin_bneq (by kernel_rfl)
@[simp] theorem T.p_api_Frame_u32.eq0 {xo yo : Operand} : abin P .eql T.p_api_Frame_u32 xo yo (.pointer none) (.pointer none) = some (.bool true) := abin_nil (by kernel_rfl)
@[simp] theorem T.p_api_Frame_u32.eq1 {xo yo : Operand} {p : Addr} : abin P .eql T.p_api_Frame_u32 xo yo (.pointer (some p)) (.pointer none) = some (.bool false) := abin_ptr (by kernel_rfl)
@[simp] theorem T.p_api_Frame_u32.ne0 {xo yo : Operand} : abin P .neq T.p_api_Frame_u32 xo yo (.pointer none) (.pointer none) = some (.bool false) := abin_nnil (by kernel_rfl)
@[simp] theorem T.p_api_Frame_u32.ne1 {xo yo : Operand} {p : Addr} : abin P .neq T.p_api_Frame_u32 xo yo (.pointer (some p)) (.pointer none) = some (.bool true) := abin_nptr (by kernel_rfl)
@[simp] theorem T.p_board_Board_u32.eq0 {xo yo : Operand} : abin P .eql T.p_board_Board_u32 xo yo (.pointer none) (.pointer none) = some (.bool true) := abin_nil (by kernel_rfl)
@[simp] theorem T.p_board_Board_u32.eq1 {xo yo : Operand} {p : Addr} : abin P .eql T.p_board_Board_u32 xo yo (.pointer (some p)) (.pointer none) = some (.bool false) := abin_ptr (by kernel_rfl)
@[simp] theorem T.p_board_Board_u32.ne0 {xo yo : Operand} : abin P .neq T.p_board_Board_u32 xo yo (.pointer none) (.pointer none) = some (.bool false) := abin_nnil (by kernel_rfl)
@[simp] theorem T.p_board_Board_u32.ne1 {xo yo : Operand} {p : Addr} : abin P .neq T.p_board_Board_u32 xo yo (.pointer (some p)) (.pointer none) = some (.bool true) := abin_nptr (by kernel_rfl)
@[simp] theorem T.p_event_Log.eq0 {xo yo : Operand} : abin P .eql T.p_event_Log xo yo (.pointer none) (.pointer none) = some (.bool true) := abin_nil (by kernel_rfl)
@[simp] theorem T.p_event_Log.eq1 {xo yo : Operand} {p : Addr} : abin P .eql T.p_event_Log xo yo (.pointer (some p)) (.pointer none) = some (.bool false) := abin_ptr (by kernel_rfl)
@[simp] theorem T.p_event_Log.ne0 {xo yo : Operand} : abin P .neq T.p_event_Log xo yo (.pointer none) (.pointer none) = some (.bool false) := abin_nnil (by kernel_rfl)
@[simp] theorem T.p_event_Log.ne1 {xo yo : Operand} {p : Addr} : abin P .neq T.p_event_Log xo yo (.pointer (some p)) (.pointer none) = some (.bool true) := abin_nptr (by kernel_rfl)
@[simp] theorem T.p_seqcas_Seq_u32.eq0 {xo yo : Operand} : abin P .eql T.p_seqcas_Seq_u32 xo yo (.pointer none) (.pointer none) = some (.bool true) := abin_nil (by kernel_rfl)
@[simp] theorem T.p_seqcas_Seq_u32.eq1 {xo yo : Operand} {p : Addr} : abin P .eql T.p_seqcas_Seq_u32 xo yo (.pointer (some p)) (.pointer none) = some (.bool false) := abin_ptr (by kernel_rfl)
@[simp] theorem T.p_seqcas_Seq_u32.ne0 {xo yo : Operand} : abin P .neq T.p_seqcas_Seq_u32 xo yo (.pointer none) (.pointer none) = some (.bool false) := abin_nnil (by kernel_rfl)
@[simp] theorem T.p_seqcas_Seq_u32.ne1 {xo yo : Operand} {p : Addr} : abin P .neq T.p_seqcas_Seq_u32 xo yo (.pointer (some p)) (.pointer none) = some (.bool true) := abin_nptr (by kernel_rfl)
@[simp] theorem T.int.to_uint32 {n : Int} : aconv P T.int T.uint32 (.int .i64 n) = some (.int .u32 (IntKind.wrap .u32 n)) := aconv_int (by kernel_rfl) (by kernel_rfl)
@[simp] theorem T.int.to_uint64 {n : Int} : aconv P T.int T.uint64 (.int .i64 n) = some (.int .u64 (IntKind.wrap .u64 n)) := aconv_int (by kernel_rfl) (by kernel_rfl)
@[simp] theorem T.int32.to_int {n : Int} : aconv P T.int32 T.int (.int .i32 n) = some (.int .i64 (IntKind.wrap .i64 n)) := aconv_int (by kernel_rfl) (by kernel_rfl)
@[simp] theorem T.uint32.to_int {n : Int} : aconv P T.uint32 T.int (.int .u32 n) = some (.int .i64 (IntKind.wrap .i64 n)) := aconv_int (by kernel_rfl) (by kernel_rfl)
@[simp] theorem T.uint32.to_int32 {n : Int} : aconv P T.uint32 T.int32 (.int .u32 n) = some (.int .i32 (IntKind.wrap .i32 n)) := aconv_int (by kernel_rfl) (by kernel_rfl)
@[simp] theorem T.uint32.to_uint64 {n : Int} : aconv P T.uint32 T.uint64 (.int .u32 n) = some (.int .u64 (IntKind.wrap .u64 n)) := aconv_int (by kernel_rfl) (by kernel_rfl)
@[simp] theorem T.uint64.to_uint32 {n : Int} : aconv P T.uint64 T.uint32 (.int .u64 n) = some (.int .u32 (IntKind.wrap .u32 n)) := aconv_int (by kernel_rfl) (by kernel_rfl)
@[simp] theorem T.uint8.to_int {n : Int} : aconv P T.uint8 T.int (.int .u8 n) = some (.int .i64 (IntKind.wrap .i64 n)) := aconv_int (by kernel_rfl) (by kernel_rfl)
end Go.Proofs.YtiehmpoanhacaaaDoor
