/-
  What each function's code comes to in the abstract machine: written by program, each by the kernel's own reckoning; no condition.
-/
import Derived.Test.YtiehmpoanhacaaaDoorFn
import Derived.KernelRfl
set_option maxRecDepth 100000
set_option linter.unusedVariables false
set_option maxHeartbeats 1000000
namespace Go.Proofs.YtiehmpoanhacaaaDoor
open Go Go.Proofs.SakAm
theorem F.group_Full.e (x0 : Value) (H : Heap) : C F.group_Full [x0] H =
  (abin P BinOp.leq T.int (Operand.tmp 4) (Operand.const (Value.int IntKind.i64 0)) x0 (Value.int IntKind.i64 0)).bind fun v1 =>
  condK v1
  (some (Value.int IntKind.u64 0, H))
  ((abin P BinOp.geq T.int (Operand.tmp 7) (Operand.const (Value.int IntKind.i64 64)) x0 (Value.int IntKind.i64 64)).bind fun v2 =>
  condK v2
  (some (Value.int IntKind.u64 18446744073709551615, H))
  ((abin P BinOp.shl T.group_Group (Operand.const (Value.int IntKind.u64 1)) (Operand.tmp 9) (Value.int IntKind.u64 1) x0).bind fun v3 =>
  (abin P BinOp.sub T.group_Group (Operand.tmp 10) (Operand.const (Value.int IntKind.u64 1)) v3 (Value.int IntKind.u64 1)).bind fun v4 =>
  some (v4, H))) :=
  by rw [← obd_is]; exact call_den (fn := Tryd.f153) (by kernel_rfl) (fun _ _ => rfl) (by kernel_rfl) [] (by kernel_rfl)

theorem F.group_Group_Without.e (x0 x1 : Value) (H : Heap) : C F.group_Group_Without [x0, x1] H =
  (C F.group_in [x1] H).bind fun r1 =>
  (aun P UnOp.not r1.1).bind fun v2 =>
  condK v2
  (some (x0, r1.2))
  ((abin P BinOp.shl T.group_Group (Operand.const (Value.int IntKind.u64 1)) (Operand.tmp 10) (Value.int IntKind.u64 1) x1).bind fun v3 =>
  (abin P BinOp.andNot T.group_Group (Operand.tmp 9) (Operand.tmp 11) x0 v3).bind fun v4 =>
  some (v4, r1.2)) :=
  by rw [← obd_is]; exact call_den (fn := Tryd.f154) (by kernel_rfl) (fun _ _ => rfl) (by kernel_rfl) [] (by kernel_rfl)

theorem F.group_Group_Has.e (x0 x1 : Value) (H : Heap) : C F.group_Group_Has [x0, x1] H =
  (C F.group_in [x1] H).bind fun r1 =>
  (gd r1.1 true r1.2 (some (x0, r1.2))).bind fun r2 =>
  (gd r1.1 true r2.2 (some (x1, r2.2))).bind fun r3 =>
  (gd r1.1 true r3.2 ((abin P BinOp.shr T.group_Group (Operand.tmp 8) (Operand.tmp 9) r2.1 r3.1).bind fun v4 => some (v4, r3.2))).bind fun r5 =>
  (gd r1.1 true r5.2 ((abin P BinOp.and T.group_Group (Operand.tmp 10) (Operand.const (Value.int IntKind.u64 1)) r5.1 (Value.int IntKind.u64 1)).bind fun v6 => some (v6, r5.2))).bind fun r7 =>
  (gd r1.1 true r7.2 ((abin P BinOp.eql T.group_Group (Operand.tmp 11) (Operand.const (Value.int IntKind.u64 1)) r7.1 (Value.int IntKind.u64 1)).bind fun v8 => some (v8, r7.2))).bind fun r9 =>
  (apick r1.1 r9.1 (Value.bool false)).bind fun v10 =>
  some (v10, r9.2) :=
  by rw [← obd_is]; exact call_den (fn := Tryd.f182) (by kernel_rfl) (fun _ _ => rfl) (by kernel_rfl) [] (by kernel_rfl)

theorem F.group_in.e (x0 : Value) (H : Heap) : C F.group_in [x0] H =
  (abin P BinOp.geq T.int (Operand.tmp 3) (Operand.const (Value.int IntKind.i64 0)) x0 (Value.int IntKind.i64 0)).bind fun v1 =>
  (gd v1 true H (some (x0, H))).bind fun r2 =>
  (gd v1 true r2.2 ((abin P BinOp.lss T.int (Operand.tmp 6) (Operand.const (Value.int IntKind.i64 64)) r2.1 (Value.int IntKind.i64 64)).bind fun v3 => some (v3, r2.2))).bind fun r4 =>
  (apick v1 r4.1 (Value.bool false)).bind fun v5 =>
  some (v5, r4.2) :=
  by rw [← obd_is]; exact call_den (fn := Tryd.f183) (by kernel_rfl) (fun _ _ => rfl) (by kernel_rfl) [] (by kernel_rfl)

theorem F.group_Group_With.e (x0 x1 : Value) (H : Heap) : C F.group_Group_With [x0, x1] H =
  (C F.group_in [x1] H).bind fun r1 =>
  (aun P UnOp.not r1.1).bind fun v2 =>
  condK v2
  (some (x0, r1.2))
  ((abin P BinOp.shl T.group_Group (Operand.const (Value.int IntKind.u64 1)) (Operand.tmp 10) (Value.int IntKind.u64 1) x1).bind fun v3 =>
  (abin P BinOp.or T.group_Group (Operand.tmp 9) (Operand.tmp 11) x0 v3).bind fun v4 =>
  some (v4, r1.2)) :=
  by rw [← obd_is]; exact call_den (fn := Tryd.f196) (by kernel_rfl) (fun _ _ => rfl) (by kernel_rfl) [] (by kernel_rfl)
end Go.Proofs.YtiehmpoanhacaaaDoor
