/-
  What each function's code comes to in the abstract machine: written by program, each by the kernel's own reckoning; no condition.
-/
import Derived.Test.YtiehmpoanhacaaaDoorFn
import Derived.KernelRfl
set_option maxRecDepth 100000
set_option linter.unusedVariables false
set_option maxHeartbeats 1000000
namespace Go.Proofs.YtiehmpoanhacaaaDoor
open Go Go.Proofs.SakAm
theorem F.wide_Of_u32.e (x0 : Value) (H : Heap) : C F.wide_Of_u32 [x0] H =
  (aconv P T.uint64 T.uint32 x0).bind fun v1 =>
  some (v1, H) :=
  by rw [← obd_is]; exact call_den (fn := Tryd.f23) (by kernel_rfl) (fun _ _ => rfl) (by kernel_rfl) [] (by kernel_rfl)

theorem F.wide_Add_u32.e (x0 x1 : Value) (H : Heap) : C F.wide_Add_u32 [x0, x1] H =
  (aconv P T.int T.uint32 x1).bind fun v1 =>
  (abin P BinOp.add T.uint32 (Operand.tmp 5) (Operand.tmp 7) x0 v1).bind fun v2 =>
  some (v2, H) :=
  by rw [← obd_is]; exact call_den (fn := Tryd.f26) (by kernel_rfl) (fun _ _ => rfl) (by kernel_rfl) [] (by kernel_rfl)

theorem F.wide_Less_u32.e (x0 x1 : Value) (H : Heap) : C F.wide_Less_u32 [x0, x1] H =
  (C F.wide_Diff_u32 [x0, x1] H).bind fun r1 =>
  (abin P BinOp.lss T.int (Operand.tmp 7) (Operand.const (Value.int IntKind.i64 0)) r1.1 (Value.int IntKind.i64 0)).bind fun v2 =>
  some (v2, r1.2) :=
  by rw [← obd_is]; exact call_den (fn := Tryd.f29) (by kernel_rfl) (fun _ _ => rfl) (by kernel_rfl) [] (by kernel_rfl)

theorem F.wide_Diff_u32.e (x0 x1 : Value) (H : Heap) : C F.wide_Diff_u32 [x0, x1] H =
  (abin P BinOp.sub T.uint32 (Operand.tmp 5) (Operand.tmp 6) x0 x1).bind fun v1 =>
  (C F.wide_signed_u32 [v1] H).bind fun r2 =>
  some (r2.1, r2.2) :=
  by rw [← obd_is]; exact call_den (fn := Tryd.f61) (by kernel_rfl) (fun _ _ => rfl) (by kernel_rfl) [] (by kernel_rfl)

theorem F.wide_Bits_u32.e (H : Heap) : C F.wide_Bits_u32 [] H =
  (aconv P T.int T.uint32 (Value.int IntKind.i64 1)).bind fun v1 =>
  (abin P BinOp.shl T.uint32 (Operand.tmp 1) (Operand.const (Value.int IntKind.u64 31)) v1 (Value.int IntKind.u64 31)).bind fun v2 =>
  (abin P BinOp.shl T.uint32 (Operand.tmp 2) (Operand.const (Value.int IntKind.u64 1)) v2 (Value.int IntKind.u64 1)).bind fun v3 =>
  (abin P BinOp.eql T.uint32 (Operand.tmp 3) (Operand.const (Value.int IntKind.u32 0)) v3 (Value.int IntKind.u32 0)).bind fun v4 =>
  condK v4
  (some (Value.int IntKind.i64 32, H))
  (some (Value.int IntKind.i64 64, H)) :=
  by rw [← obd_is]; exact call_den (fn := Tryd.f88) (by kernel_rfl) (fun _ _ => rfl) (by kernel_rfl) [] (by kernel_rfl)

theorem F.wide_Up_u32.e (x0 : Value) (H : Heap) : C F.wide_Up_u32 [x0] H =
  (aconv P T.uint32 T.uint64 x0).bind fun v1 =>
  some (v1, H) :=
  by rw [← obd_is]; exact call_den (fn := Tryd.f95) (by kernel_rfl) (fun _ _ => rfl) (by kernel_rfl) [] (by kernel_rfl)

theorem F.wide_signed_u32.e (x0 : Value) (H : Heap) : C F.wide_signed_u32 [x0] H =
  (C F.wide_Bits_u32 [] H).bind fun r1 =>
  (abin P BinOp.eql T.int (Operand.tmp 3) (Operand.const (Value.int IntKind.i64 32)) r1.1 (Value.int IntKind.i64 32)).bind fun v2 =>
  condK v2
  ((aconv P T.uint32 T.int32 x0).bind fun v3 =>
  (aconv P T.int32 T.int v3).bind fun v4 =>
  some (v4, r1.2))
  ((aconv P T.uint32 T.int x0).bind fun v5 =>
  some (v5, r1.2)) :=
  by rw [← obd_is]; exact call_den (fn := Tryd.f130) (by kernel_rfl) (fun _ _ => rfl) (by kernel_rfl) [] (by kernel_rfl)

theorem F.wide_Right.e (x0 : Value) (H : Heap) : C F.wide_Right [x0] H =
  (abin P BinOp.eql T.int (Operand.tmp 3) (Operand.const (Value.int IntKind.i64 32)) x0 (Value.int IntKind.i64 32)).bind fun v1 =>
  (gd v1 false H (some (x0, H))).bind fun r2 =>
  (gd v1 false r2.2 ((abin P BinOp.eql T.int (Operand.tmp 6) (Operand.const (Value.int IntKind.i64 64)) r2.1 (Value.int IntKind.i64 64)).bind fun v3 => some (v3, r2.2))).bind fun r4 =>
  (apick v1 (Value.bool true) r4.1).bind fun v5 =>
  some (v5, r4.2) :=
  by rw [← obd_is]; exact call_den (fn := Tryd.f146) (by kernel_rfl) (fun _ _ => rfl) (by kernel_rfl) [] (by kernel_rfl)

theorem F.wide_Cut.e (x0 x1 : Value) (H : Heap) : C F.wide_Cut [x0, x1] H =
  (abin P BinOp.eql T.int (Operand.tmp 5) (Operand.const (Value.int IntKind.i64 32)) x0 (Value.int IntKind.i64 32)).bind fun v1 =>
  condK v1
  ((C F.wide_Of_u32 [x1] H).bind fun r2 =>
  (C F.wide_Up_u32 [r2.1] r2.2).bind fun r3 =>
  some (r3.1, r3.2))
  ((abin P BinOp.eql T.int (Operand.tmp 5) (Operand.const (Value.int IntKind.i64 64)) x0 (Value.int IntKind.i64 64)).bind fun v4 =>
  condK v4
  (some (x1, H))
  (some (Value.int IntKind.u64 0, H))) :=
  by rw [← obd_is]; exact call_den (fn := Tryd.f167) (by kernel_rfl) (fun _ _ => rfl) (by kernel_rfl) [] (by kernel_rfl)
end Go.Proofs.YtiehmpoanhacaaaDoor
