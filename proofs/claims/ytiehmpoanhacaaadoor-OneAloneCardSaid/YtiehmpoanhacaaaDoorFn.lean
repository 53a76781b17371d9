/-
  What each function's code comes to in the abstract machine: written by program, each by the kernel's own reckoning; no condition.
-/
import Derived.Test.YtiehmpoanhacaaaDoorProg
import Derived.Test.YtiehmpoanhacaaaDoorAmC
import Derived.KernelRfl
set_option maxRecDepth 100000
set_option linter.unusedVariables false
set_option maxHeartbeats 1000000
namespace Go.Proofs.YtiehmpoanhacaaaDoor
open Go Go.Proofs.SakAm
/-- sakia/sakialaw19.OneAlone -/
def F.sakialaw19_OneAlone : FuncId := 6
/-- sakia/layout.Of -/
def F.layout_Of : FuncId := 18
/-- sakia/wide.Of[uint32] -/
def F.wide_Of_u32 : FuncId := 23
/-- sakia/gate.Ends -/
def F.gate_Ends : FuncId := 24
/-- sakia/board.New[uint64] -/
def F.board_New_u64 : FuncId := 30
/-- sakia/gate.Scan[uint64] -/
def F.gate_Scan_u64 : FuncId := 31
/-- (sakia/layout.Layout).Kind -/
def F.layout_Layout_Kind : FuncId := 37
/-- (sakia/layout.Layout).First -/
def F.layout_Layout_First : FuncId := 41
/-- sakia/sakialaw19.conf -/
def F.sakialaw19_conf : FuncId := 42
/-- sakia/event.NewLog -/
def F.event_NewLog : FuncId := 44
/-- sakia/seqone.New[uint64] -/
def F.seqone_New_u64 : FuncId := 45
/-- (*sakia/seqone.Seq[uint64]).Claim -/
def F.seqone_Seq_Claim_u64 : FuncId := 46
/-- (*sakia/seqone.Seq[uint64]).Publish -/
def F.seqone_Seq_Publish_u64 : FuncId := 47
/-- (*sakia/seqone.Seq[uint64]).Tip -/
def F.seqone_Seq_Tip_u64 : FuncId := 48
/-- sakia/wide.Add[uint64] -/
def F.wide_Add_u64 : FuncId := 49
/-- (*sakia/board.Board[uint64]).Store -/
def F.board_Board_Store_u64 : FuncId := 50
/-- (sakia/layout.Layout).Gate -/
def F.layout_Layout_Gate : FuncId := 52
/-- sakia/conf.Check -/
def F.conf_Check : FuncId := 86
/-- sakia/graph.Copy -/
def F.graph_Copy : FuncId := 87
/-- sakia/gate.gates -/
def F.gate_gates : FuncId := 92
/-- sakia/graph.Ends -/
def F.graph_Ends : FuncId := 93
/-- sakia/wide.Up[uint32] -/
def F.wide_Up_u32 : FuncId := 95
/-- sakia/wide.Bits[uint64] -/
def F.wide_Bits_u64 : FuncId := 97
/-- sakia/wide.Of[uint64] -/
def F.wide_Of_u64 : FuncId := 98
/-- (*sakia/board.Board[uint64]).Load -/
def F.board_Board_Load_u64 : FuncId := 99
/-- sakia/wide.Less[uint64] -/
def F.wide_Less_u64 : FuncId := 100
/-- (sakia/layout.Layout).there -/
def F.layout_Layout_there : FuncId := 106
/-- (sakia/layout.Layout).marked -/
def F.layout_Layout_marked : FuncId := 111
/-- sakia/conf.Start -/
def F.conf_Start : FuncId := 113
/-- sakia/lap.First[uint32] -/
def F.lap_First_u32 : FuncId := 114
/-- sakia/lap.Ahead[uint32] -/
def F.lap_Ahead_u32 : FuncId := 115
/-- sakia/lap.First[uint64] -/
def F.lap_First_u64 : FuncId := 116
/-- sakia/lap.Ahead[uint64] -/
def F.lap_Ahead_u64 : FuncId := 117
/-- (*sakia/board.Board[uint64]).Layout -/
def F.board_Board_Layout_u64 : FuncId := 118
/-- (*sakia/seqone.Seq[uint64]).may -/
def F.seqone_Seq_may_u64 : FuncId := 119
/-- (*sakia/seqone.Seq[uint64]).fits -/
def F.seqone_Seq_fits_u64 : FuncId := 120
/-- (*sakia/event.Log).Note -/
def F.event_Log_Note : FuncId := 121
/-- sakia/wide.Up[uint64] -/
def F.wide_Up_u64 : FuncId := 122
/-- (*sakia/board.Board[uint64]).is -/
def F.board_Board_is_u64 : FuncId := 123
/-- (*sakia/board.Board[uint64]).lay -/
def F.board_Board_lay_u64 : FuncId := 124
/-- (sakia/layout.Layout).made -/
def F.layout_Layout_made : FuncId := 125
/-- sakia/wide.Right -/
def F.wide_Right : FuncId := 146
/-- sakia/lap.Right -/
def F.lap_Right : FuncId := 147
/-- sakia/graph.Check -/
def F.graph_Check : FuncId := 148
/-- sakia/conf.bound -/
def F.conf_bound : FuncId := 149
/-- sakia/group.Full -/
def F.group_Full : FuncId := 153
/-- (sakia/group.Group).Without -/
def F.group_Group_Without : FuncId := 154
/-- (*sakia/board.Board[uint64]).look -/
def F.board_Board_look_u64 : FuncId := 157
/-- sakia/wide.Diff[uint64] -/
def F.wide_Diff_u64 : FuncId := 158
/-- sakia/wide.Cut -/
def F.wide_Cut : FuncId := 167
/-- sakia/lap.there -/
def F.lap_there : FuncId := 168
/-- sakia/lap.Round[uint32] -/
def F.lap_Round_u32 : FuncId := 169
/-- sakia/lap.Round[uint64] -/
def F.lap_Round_u64 : FuncId := 170
/-- sakia/gate.Fits[uint64] -/
def F.gate_Fits_u64 : FuncId := 171
/-- sakia/event.copied -/
def F.event_copied : FuncId := 172
/-- (*sakia/board.Board[uint64]).note -/
def F.board_Board_note_u64 : FuncId := 173
/-- sakia/graph.names -/
def F.graph_names : FuncId := 180
/-- sakia/graph.above -/
def F.graph_above : FuncId := 181
/-- (sakia/group.Group).Has -/
def F.group_Group_Has : FuncId := 182
/-- sakia/group.in -/
def F.group_in : FuncId := 183
/-- sakia/wide.signed[uint64] -/
def F.wide_signed_u64 : FuncId := 185
/-- sakia/lap.Log -/
def F.lap_Log : FuncId := 190
/-- sakia/lap.one -/
def F.lap_one : FuncId := 191
/-- (sakia/group.Group).With -/
def F.group_Group_With : FuncId := 196
/-- sakia/graph.above$1 -/
def F.graph_above_1 : FuncId := 197
/-- sakia/sakialaw19.live -/
def F.sakialaw19_live : FuncId := 43
/-- (sakia/group.Group).List -/
def F.group_Group_List : FuncId := 155
def T.int : TypeId := 3
def T.uint8 : TypeId := 5
def T.int32 : TypeId := 21
def T.uint64 : TypeId := 22
def T.sl_sl_int : TypeId := 23
def T.api_Conf : TypeId := 25
def T.layout_Layout : TypeId := 32
def T.api_Errno : TypeId := 33
def T.uint32 : TypeId := 38
def T.sl_int : TypeId := 49
def T.p_board_Board_u64 : TypeId := 62
def T.p_api_Frame_u64 : TypeId := 64
def T.api_Frame_u64 : TypeId := 66
def T.sakialaw19_Case : TypeId := 81
def T.p_event_Log : TypeId := 83
def T.p_seqone_Seq_u64 : TypeId := 85
def T.api_Event : TypeId := 113
def T.board_Board_u64 : TypeId := 149
def T.event_Log : TypeId := 165
def T.seqone_Seq_u64 : TypeId := 168
def T.group_Group : TypeId := 192
def T.api_Access : TypeId := 214
def T.func_int : TypeId := 224
noncomputable def P : Program := Tryd.prog
noncomputable def ext0 : FuncId → List Value → Heap → Option (Value × Heap) := (listX F.group_Group_List T.int)
noncomputable def tab : List (FuncId × Value) := [(F.sakialaw19_live, .bool true)]
noncomputable def ext : FuncId → List Value → Heap → Option (Value × Heap) := told ext0 tab
instance tabs : Tabs := tabsOf 0 Lib.deBruijn64tab
noncomputable def C : FuncId → List Value → Heap → Option (Value × Heap) := call P ext
noncomputable def R : Func → List Item → Fr → Heap → Option (Value × Heap) := run P ext
noncomputable def F.sakialaw19_OneAlone.f : Func := Tryd.f6
noncomputable def F.layout_Of.f : Func := Tryd.f18
noncomputable def F.wide_Of_u32.f : Func := Tryd.f23
noncomputable def F.gate_Ends.f : Func := Tryd.f24
noncomputable def F.board_New_u64.f : Func := Tryd.f30
noncomputable def F.gate_Scan_u64.f : Func := Tryd.f31
noncomputable def F.layout_Layout_Kind.f : Func := Tryd.f37
noncomputable def F.layout_Layout_First.f : Func := Tryd.f41
noncomputable def F.sakialaw19_conf.f : Func := Tryd.f42
noncomputable def F.event_NewLog.f : Func := Tryd.f44
noncomputable def F.seqone_New_u64.f : Func := Tryd.f45
noncomputable def F.seqone_Seq_Claim_u64.f : Func := Tryd.f46
noncomputable def F.seqone_Seq_Publish_u64.f : Func := Tryd.f47
noncomputable def F.seqone_Seq_Tip_u64.f : Func := Tryd.f48
noncomputable def F.wide_Add_u64.f : Func := Tryd.f49
noncomputable def F.board_Board_Store_u64.f : Func := Tryd.f50
noncomputable def F.layout_Layout_Gate.f : Func := Tryd.f52
noncomputable def F.conf_Check.f : Func := Tryd.f86
noncomputable def F.graph_Copy.f : Func := Tryd.f87
noncomputable def F.gate_gates.f : Func := Tryd.f92
noncomputable def F.graph_Ends.f : Func := Tryd.f93
noncomputable def F.wide_Up_u32.f : Func := Tryd.f95
noncomputable def F.wide_Bits_u64.f : Func := Tryd.f97
noncomputable def F.wide_Of_u64.f : Func := Tryd.f98
noncomputable def F.board_Board_Load_u64.f : Func := Tryd.f99
noncomputable def F.wide_Less_u64.f : Func := Tryd.f100
noncomputable def F.layout_Layout_there.f : Func := Tryd.f106
noncomputable def F.layout_Layout_marked.f : Func := Tryd.f111
noncomputable def F.conf_Start.f : Func := Tryd.f113
noncomputable def F.lap_First_u32.f : Func := Tryd.f114
noncomputable def F.lap_Ahead_u32.f : Func := Tryd.f115
noncomputable def F.lap_First_u64.f : Func := Tryd.f116
noncomputable def F.lap_Ahead_u64.f : Func := Tryd.f117
noncomputable def F.board_Board_Layout_u64.f : Func := Tryd.f118
noncomputable def F.seqone_Seq_may_u64.f : Func := Tryd.f119
noncomputable def F.seqone_Seq_fits_u64.f : Func := Tryd.f120
noncomputable def F.event_Log_Note.f : Func := Tryd.f121
noncomputable def F.wide_Up_u64.f : Func := Tryd.f122
noncomputable def F.board_Board_is_u64.f : Func := Tryd.f123
noncomputable def F.board_Board_lay_u64.f : Func := Tryd.f124
noncomputable def F.layout_Layout_made.f : Func := Tryd.f125
noncomputable def F.wide_Right.f : Func := Tryd.f146
noncomputable def F.lap_Right.f : Func := Tryd.f147
noncomputable def F.graph_Check.f : Func := Tryd.f148
noncomputable def F.conf_bound.f : Func := Tryd.f149
noncomputable def F.group_Full.f : Func := Tryd.f153
noncomputable def F.group_Group_Without.f : Func := Tryd.f154
noncomputable def F.board_Board_look_u64.f : Func := Tryd.f157
noncomputable def F.wide_Diff_u64.f : Func := Tryd.f158
noncomputable def F.wide_Cut.f : Func := Tryd.f167
noncomputable def F.lap_there.f : Func := Tryd.f168
noncomputable def F.lap_Round_u32.f : Func := Tryd.f169
noncomputable def F.lap_Round_u64.f : Func := Tryd.f170
noncomputable def F.gate_Fits_u64.f : Func := Tryd.f171
noncomputable def F.event_copied.f : Func := Tryd.f172
noncomputable def F.board_Board_note_u64.f : Func := Tryd.f173
noncomputable def F.graph_names.f : Func := Tryd.f180
noncomputable def F.graph_above.f : Func := Tryd.f181
noncomputable def F.group_Group_Has.f : Func := Tryd.f182
noncomputable def F.group_in.f : Func := Tryd.f183
noncomputable def F.wide_signed_u64.f : Func := Tryd.f185
noncomputable def F.lap_Log.f : Func := Tryd.f190
noncomputable def F.lap_one.f : Func := Tryd.f191
noncomputable def F.group_Group_With.f : Func := Tryd.f196
noncomputable def F.graph_above_1.f : Func := Tryd.f197
@[simp] theorem T.p_api_Frame_u64.eq0 {xo yo : Operand} : abin P .eql T.p_api_Frame_u64 xo yo (.pointer none) (.pointer none) = some (.bool true) := abin_nil (by kernel_rfl)
@[simp] theorem T.p_api_Frame_u64.eq1 {xo yo : Operand} {p : Addr} : abin P .eql T.p_api_Frame_u64 xo yo (.pointer (some p)) (.pointer none) = some (.bool false) := abin_ptr (by kernel_rfl)
@[simp] theorem T.p_api_Frame_u64.ne0 {xo yo : Operand} : abin P .neq T.p_api_Frame_u64 xo yo (.pointer none) (.pointer none) = some (.bool false) := abin_nnil (by kernel_rfl)
@[simp] theorem T.p_api_Frame_u64.ne1 {xo yo : Operand} {p : Addr} : abin P .neq T.p_api_Frame_u64 xo yo (.pointer (some p)) (.pointer none) = some (.bool true) := abin_nptr (by kernel_rfl)
@[simp] theorem T.p_board_Board_u64.eq0 {xo yo : Operand} : abin P .eql T.p_board_Board_u64 xo yo (.pointer none) (.pointer none) = some (.bool true) := abin_nil (by kernel_rfl)
@[simp] theorem T.p_board_Board_u64.eq1 {xo yo : Operand} {p : Addr} : abin P .eql T.p_board_Board_u64 xo yo (.pointer (some p)) (.pointer none) = some (.bool false) := abin_ptr (by kernel_rfl)
@[simp] theorem T.p_board_Board_u64.ne0 {xo yo : Operand} : abin P .neq T.p_board_Board_u64 xo yo (.pointer none) (.pointer none) = some (.bool false) := abin_nnil (by kernel_rfl)
@[simp] theorem T.p_board_Board_u64.ne1 {xo yo : Operand} {p : Addr} : abin P .neq T.p_board_Board_u64 xo yo (.pointer (some p)) (.pointer none) = some (.bool true) := abin_nptr (by kernel_rfl)
@[simp] theorem T.p_event_Log.eq0 {xo yo : Operand} : abin P .eql T.p_event_Log xo yo (.pointer none) (.pointer none) = some (.bool true) := abin_nil (by kernel_rfl)
@[simp] theorem T.p_event_Log.eq1 {xo yo : Operand} {p : Addr} : abin P .eql T.p_event_Log xo yo (.pointer (some p)) (.pointer none) = some (.bool false) := abin_ptr (by kernel_rfl)
@[simp] theorem T.p_event_Log.ne0 {xo yo : Operand} : abin P .neq T.p_event_Log xo yo (.pointer none) (.pointer none) = some (.bool false) := abin_nnil (by kernel_rfl)
@[simp] theorem T.p_event_Log.ne1 {xo yo : Operand} {p : Addr} : abin P .neq T.p_event_Log xo yo (.pointer (some p)) (.pointer none) = some (.bool true) := abin_nptr (by kernel_rfl)
@[simp] theorem T.p_seqone_Seq_u64.eq0 {xo yo : Operand} : abin P .eql T.p_seqone_Seq_u64 xo yo (.pointer none) (.pointer none) = some (.bool true) := abin_nil (by kernel_rfl)
@[simp] theorem T.p_seqone_Seq_u64.eq1 {xo yo : Operand} {p : Addr} : abin P .eql T.p_seqone_Seq_u64 xo yo (.pointer (some p)) (.pointer none) = some (.bool false) := abin_ptr (by kernel_rfl)
@[simp] theorem T.p_seqone_Seq_u64.ne0 {xo yo : Operand} : abin P .neq T.p_seqone_Seq_u64 xo yo (.pointer none) (.pointer none) = some (.bool false) := abin_nnil (by kernel_rfl)
@[simp] theorem T.p_seqone_Seq_u64.ne1 {xo yo : Operand} {p : Addr} : abin P .neq T.p_seqone_Seq_u64 xo yo (.pointer (some p)) (.pointer none) = some (.bool true) := abin_nptr (by kernel_rfl)
@[simp] theorem T.int.to_uint32 {n : Int} : aconv P T.int T.uint32 (.int .i64 n) = some (.int .u32 (IntKind.wrap .u32 n)) := aconv_int (by kernel_rfl) (by kernel_rfl)
@[simp] theorem T.int.to_uint64 {n : Int} : aconv P T.int T.uint64 (.int .i64 n) = some (.int .u64 (IntKind.wrap .u64 n)) := aconv_int (by kernel_rfl) (by kernel_rfl)
@[simp] theorem T.int32.to_int {n : Int} : aconv P T.int32 T.int (.int .i32 n) = some (.int .i64 (IntKind.wrap .i64 n)) := aconv_int (by kernel_rfl) (by kernel_rfl)
@[simp] theorem T.uint32.to_uint64 {n : Int} : aconv P T.uint32 T.uint64 (.int .u32 n) = some (.int .u64 (IntKind.wrap .u64 n)) := aconv_int (by kernel_rfl) (by kernel_rfl)
@[simp] theorem T.uint64.to_int {n : Int} : aconv P T.uint64 T.int (.int .u64 n) = some (.int .i64 (IntKind.wrap .i64 n)) := aconv_int (by kernel_rfl) (by kernel_rfl)
@[simp] theorem T.uint64.to_int32 {n : Int} : aconv P T.uint64 T.int32 (.int .u64 n) = some (.int .i32 (IntKind.wrap .i32 n)) := aconv_int (by kernel_rfl) (by kernel_rfl)
@[simp] theorem T.uint64.to_uint32 {n : Int} : aconv P T.uint64 T.uint32 (.int .u64 n) = some (.int .u32 (IntKind.wrap .u32 n)) := aconv_int (by kernel_rfl) (by kernel_rfl)
@[simp] theorem T.uint8.to_int {n : Int} : aconv P T.uint8 T.int (.int .u8 n) = some (.int .i64 (IntKind.wrap .i64 n)) := aconv_int (by kernel_rfl) (by kernel_rfl)
end Go.Proofs.YtiehmpoanhacaaaDoor
