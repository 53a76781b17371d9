/-
  What each function's code comes to in the abstract machine: written by program, each by the kernel's own reckoning; no condition.
-/
import Derived.Test.YtiehmpoanhacaaaDoorFn
import Derived.KernelRfl
set_option maxRecDepth 100000
set_option linter.unusedVariables false
set_option maxHeartbeats 1000000
namespace Go.Proofs.YtiehmpoanhacaaaDoor
open Go Go.Proofs.SakAm
theorem F.lap_First_u32.e (x0 x1 x2 : Value) (H : Heap) : C F.lap_First_u32 [x0, x1, x2] H =
  (C F.lap_there [x0, x1] H).bind fun r1 =>
  (aun P UnOp.not r1.1).bind fun v2 =>
  condK v2
  (some (Value.int IntKind.u32 0, r1.2))
  ((aconv P T.int T.uint32 x1).bind fun v3 =>
  (abin P BinOp.sub T.uint32 (Operand.tmp 13) (Operand.tmp 14) v3 x2).bind fun v4 =>
  (abin P BinOp.sub T.int (Operand.tmp 16) (Operand.const (Value.int IntKind.i64 1)) x0 (Value.int IntKind.i64 1)).bind fun v5 =>
  (aconv P T.int T.uint32 v5).bind fun v6 =>
  (abin P BinOp.and T.uint32 (Operand.tmp 15) (Operand.tmp 18) v4 v6).bind fun v7 =>
  (abin P BinOp.add T.uint32 (Operand.tmp 11) (Operand.tmp 19) x2 v7).bind fun v8 =>
  some (v8, r1.2)) :=
  by rw [← obd_is]; exact call_den (fn := Tryd.f114) (by kernel_rfl) (fun _ _ => rfl) (by kernel_rfl) [] (by kernel_rfl)

theorem F.lap_Ahead_u32.e (x0 x1 x2 : Value) (H : Heap) : C F.lap_Ahead_u32 [x0, x1, x2] H =
  (C F.lap_there [x0, x1] H).bind fun r1 =>
  (aun P UnOp.not r1.1).bind fun v2 =>
  condK v2
  (some (Value.int IntKind.u32 0, r1.2))
  ((C F.lap_First_u32 [x0, x1, x2] r1.2).bind fun r3 =>
  (aconv P T.int T.uint32 x0).bind fun v4 =>
  (abin P BinOp.sub T.uint32 (Operand.tmp 15) (Operand.tmp 17) r3.1 v4).bind fun v5 =>
  (C F.lap_Round_u32 [x0, v5] r3.2).bind fun r6 =>
  some (r6.1, r6.2)) :=
  by rw [← obd_is]; exact call_den (fn := Tryd.f115) (by kernel_rfl) (fun _ _ => rfl) (by kernel_rfl) [] (by kernel_rfl)

theorem F.lap_First_u64.e (x0 x1 x2 : Value) (H : Heap) : C F.lap_First_u64 [x0, x1, x2] H =
  (C F.lap_there [x0, x1] H).bind fun r1 =>
  (aun P UnOp.not r1.1).bind fun v2 =>
  condK v2
  (some (Value.int IntKind.u64 0, r1.2))
  ((aconv P T.int T.uint64 x1).bind fun v3 =>
  (abin P BinOp.sub T.uint64 (Operand.tmp 13) (Operand.tmp 14) v3 x2).bind fun v4 =>
  (abin P BinOp.sub T.int (Operand.tmp 16) (Operand.const (Value.int IntKind.i64 1)) x0 (Value.int IntKind.i64 1)).bind fun v5 =>
  (aconv P T.int T.uint64 v5).bind fun v6 =>
  (abin P BinOp.and T.uint64 (Operand.tmp 15) (Operand.tmp 18) v4 v6).bind fun v7 =>
  (abin P BinOp.add T.uint64 (Operand.tmp 11) (Operand.tmp 19) x2 v7).bind fun v8 =>
  some (v8, r1.2)) :=
  by rw [← obd_is]; exact call_den (fn := Tryd.f116) (by kernel_rfl) (fun _ _ => rfl) (by kernel_rfl) [] (by kernel_rfl)

theorem F.lap_Ahead_u64.e (x0 x1 x2 : Value) (H : Heap) : C F.lap_Ahead_u64 [x0, x1, x2] H =
  (C F.lap_there [x0, x1] H).bind fun r1 =>
  (aun P UnOp.not r1.1).bind fun v2 =>
  condK v2
  (some (Value.int IntKind.u64 0, r1.2))
  ((C F.lap_First_u64 [x0, x1, x2] r1.2).bind fun r3 =>
  (aconv P T.int T.uint64 x0).bind fun v4 =>
  (abin P BinOp.sub T.uint64 (Operand.tmp 15) (Operand.tmp 17) r3.1 v4).bind fun v5 =>
  (C F.lap_Round_u64 [x0, v5] r3.2).bind fun r6 =>
  some (r6.1, r6.2)) :=
  by rw [← obd_is]; exact call_den (fn := Tryd.f117) (by kernel_rfl) (fun _ _ => rfl) (by kernel_rfl) [] (by kernel_rfl)

theorem F.lap_Right.e (x0 : Value) (H : Heap) : C F.lap_Right [x0] H =
  (abin P BinOp.geq T.int (Operand.tmp 3) (Operand.const (Value.int IntKind.i64 2)) x0 (Value.int IntKind.i64 2)).bind fun v1 =>
  (gd v1 true H (some (x0, H))).bind fun r2 =>
  (gd v1 true r2.2 ((abin P BinOp.leq T.int (Operand.tmp 6) (Operand.const (Value.int IntKind.i64 1073741824)) r2.1 (Value.int IntKind.i64 1073741824)).bind fun v3 => some (v3, r2.2))).bind fun r4 =>
  (apick v1 r4.1 (Value.bool false)).bind fun v5 =>
  (gd v5 true r4.2 (some (x0, r4.2))).bind fun r6 =>
  (gd v5 true r6.2 (some (x0, r6.2))).bind fun r7 =>
  (gd v5 true r7.2 ((abin P BinOp.sub T.int (Operand.tmp 11) (Operand.const (Value.int IntKind.i64 1)) r7.1 (Value.int IntKind.i64 1)).bind fun v8 => some (v8, r7.2))).bind fun r9 =>
  (gd v5 true r9.2 ((abin P BinOp.and T.int (Operand.tmp 10) (Operand.tmp 12) r6.1 r9.1).bind fun v10 => some (v10, r9.2))).bind fun r11 =>
  (gd v5 true r11.2 ((abin P BinOp.eql T.int (Operand.tmp 13) (Operand.const (Value.int IntKind.i64 0)) r11.1 (Value.int IntKind.i64 0)).bind fun v12 => some (v12, r11.2))).bind fun r13 =>
  (apick v5 r13.1 (Value.bool false)).bind fun v14 =>
  some (v14, r13.2) :=
  by rw [← obd_is]; exact call_den (fn := Tryd.f147) (by kernel_rfl) (fun _ _ => rfl) (by kernel_rfl) [] (by kernel_rfl)

theorem F.lap_there.e (x0 x1 : Value) (H : Heap) : C F.lap_there [x0, x1] H =
  (C F.lap_Right [x0] H).bind fun r1 =>
  (gd r1.1 true r1.2 (some (x1, r1.2))).bind fun r2 =>
  (gd r1.1 true r2.2 ((abin P BinOp.geq T.int (Operand.tmp 8) (Operand.const (Value.int IntKind.i64 0)) r2.1 (Value.int IntKind.i64 0)).bind fun v3 => some (v3, r2.2))).bind fun r4 =>
  (apick r1.1 r4.1 (Value.bool false)).bind fun v5 =>
  (gd v5 true r4.2 (some (x1, r4.2))).bind fun r6 =>
  (gd v5 true r6.2 (some (x0, r6.2))).bind fun r7 =>
  (gd v5 true r7.2 ((abin P BinOp.lss T.int (Operand.tmp 12) (Operand.tmp 13) r6.1 r7.1).bind fun v8 => some (v8, r7.2))).bind fun r9 =>
  (apick v5 r9.1 (Value.bool false)).bind fun v10 =>
  some (v10, r9.2) :=
  by rw [← obd_is]; exact call_den (fn := Tryd.f168) (by kernel_rfl) (fun _ _ => rfl) (by kernel_rfl) [] (by kernel_rfl)

theorem F.lap_Round_u32.e (x0 x1 : Value) (H : Heap) : C F.lap_Round_u32 [x0, x1] H =
  (C F.lap_Log [x0] H).bind fun r1 =>
  ifD (true) <|
  (abin P BinOp.shr T.uint32 (Operand.tmp 5) (Operand.tmp 7) x1 r1.1).bind fun v2 =>
  (C F.lap_one [x0] r1.2).bind fun r3 =>
  ifD (true) <|
  (aconv P T.int T.uint32 r3.1).bind fun v4 =>
  (abin P BinOp.mul T.uint32 (Operand.tmp 8) (Operand.tmp 11) v2 v4).bind fun v5 =>
  some (v5, r3.2) :=
  by rw [← obd_is]; exact call_den (fn := Tryd.f169) (by kernel_rfl) (fun _ _ => rfl) (by kernel_rfl) [] (by kernel_rfl)

theorem F.lap_Round_u64.e (x0 x1 : Value) (H : Heap) : C F.lap_Round_u64 [x0, x1] H =
  (C F.lap_Log [x0] H).bind fun r1 =>
  ifD (true) <|
  (abin P BinOp.shr T.uint64 (Operand.tmp 5) (Operand.tmp 7) x1 r1.1).bind fun v2 =>
  (C F.lap_one [x0] r1.2).bind fun r3 =>
  ifD (true) <|
  (aconv P T.int T.uint64 r3.1).bind fun v4 =>
  (abin P BinOp.mul T.uint64 (Operand.tmp 8) (Operand.tmp 11) v2 v4).bind fun v5 =>
  some (v5, r3.2) :=
  by rw [← obd_is]; exact call_den (fn := Tryd.f170) (by kernel_rfl) (fun _ _ => rfl) (by kernel_rfl) [] (by kernel_rfl)

theorem F.lap_Slot_u32.e (x0 x1 : Value) (H : Heap) : C F.lap_Slot_u32 [x0, x1] H =
  (C F.lap_Right [x0] H).bind fun r1 =>
  (aun P UnOp.not r1.1).bind fun v2 =>
  condK v2
  (some (Value.int IntKind.i64 0, r1.2))
  ((abin P BinOp.sub T.int (Operand.tmp 9) (Operand.const (Value.int IntKind.i64 1)) x0 (Value.int IntKind.i64 1)).bind fun v3 =>
  (aconv P T.int T.uint32 v3).bind fun v4 =>
  (abin P BinOp.and T.uint32 (Operand.tmp 8) (Operand.tmp 11) x1 v4).bind fun v5 =>
  (aconv P T.uint32 T.int v5).bind fun v6 =>
  some (v6, r1.2)) :=
  by rw [← obd_is]; exact call_den (fn := Tryd.f175) (by kernel_rfl) (fun _ _ => rfl) (by kernel_rfl) [] (by kernel_rfl)

noncomputable def F.lap_Log.c : Code := (Tryd.f190.body).getD .skip
noncomputable def F.lap_Log.c1 : Code := cr F.lap_Log.c
noncomputable def F.lap_Log.c2 : Code := cr F.lap_Log.c1
noncomputable def F.lap_Log.c3 : Code := cl F.lap_Log.c2
noncomputable def F.lap_Log.c4 : Code := cr F.lap_Log.c3
noncomputable def F.lap_Log.c5 : Code := cl F.lap_Log.c4
noncomputable def F.lap_Log.c6 : Code := cl F.lap_Log.c5
noncomputable def F.lap_Log.c7 : Code := cr F.lap_Log.c2
noncomputable def F.lap_Log.b0 : List Item := [.inLoop F.lap_Log.c6, .inBlock 0, .code F.lap_Log.c7]
theorem F.lap_Log.e (x0 : Value) (H : Heap) : C F.lap_Log [x0] H =
  (C F.lap_Right [x0] H).bind fun r1 =>
  (aun P UnOp.not r1.1).bind fun v2 =>
  condK v2
  (some (Value.int IntKind.i64 0, r1.2))
  (R F.lap_Log.f F.lap_Log.b0 (put (put (put (put (put (fr0 [x0]) 2 (Value.int IntKind.i64 0)) 4 x0) 5 r1.1) 6 v2) 7 (Value.int IntKind.i64 0)) r1.2) :=
  by rw [← obd_is]; exact call_den (fn := Tryd.f190) (by kernel_rfl) (fun _ _ => rfl) (by kernel_rfl) [] (by kernel_rfl)
theorem F.lap_Log.e0 (a : Fr) (H : Heap) : R F.lap_Log.f F.lap_Log.b0 a H =
  (abin P BinOp.lss T.int (Operand.tmp 7) (Operand.const (Value.int IntKind.i64 31)) (a 7) (Value.int IntKind.i64 31)).bind fun v3 =>
  condK v3
  ((abin P BinOp.shl T.int (Operand.const (Value.int IntKind.i64 1)) (Operand.tmp 10) (Value.int IntKind.i64 1) (a 7)).bind fun v4 =>
  (abin P BinOp.eql T.int (Operand.tmp 11) (Operand.tmp 12) v4 (a 0)).bind fun v5 =>
  condK v5
  (some ((a 7), H))
  ((abin P BinOp.add T.int (Operand.tmp 7) (Operand.const (Value.int IntKind.i64 1)) (a 7) (Value.int IntKind.i64 1)).bind fun v6 =>
  R F.lap_Log.f F.lap_Log.b0 (put (put (put (put (put (put (put (put (put a 8 v3) 9 (a 7)) 3 (a 7)) 10 (a 7)) 11 v4) 12 (a 0)) 13 v5) 15 v6) 7 v6) H))
  (some (Value.int IntKind.i64 0, H)) :=
  by rw [← obd_is]; exact run_den [] (by kernel_rfl)

theorem F.lap_one.e (x0 : Value) (H : Heap) : C F.lap_one [x0] H =
  (C F.lap_Right [x0] H).bind fun r1 =>
  condK r1.1
  (some (Value.int IntKind.i64 1, r1.2))
  (some (Value.int IntKind.i64 0, r1.2)) :=
  by rw [← obd_is]; exact call_den (fn := Tryd.f191) (by kernel_rfl) (fun _ _ => rfl) (by kernel_rfl) [] (by kernel_rfl)
end Go.Proofs.YtiehmpoanhacaaaDoor
