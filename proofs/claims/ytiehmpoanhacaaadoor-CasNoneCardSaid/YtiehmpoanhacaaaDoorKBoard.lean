/-
  What each function's code comes to in the abstract machine: written by program, each by the kernel's own reckoning; no condition.
-/
import Derived.Test.YtiehmpoanhacaaaDoorFn
import Derived.KernelRfl
set_option maxRecDepth 100000
set_option linter.unusedVariables false
set_option maxHeartbeats 1000000
namespace Go.Proofs.YtiehmpoanhacaaaDoor
open Go Go.Proofs.SakAm
noncomputable def F.board_New_u32.c : Code := (Tryd.f19.body).getD .skip
noncomputable def F.board_New_u32.c1 : Code := cr F.board_New_u32.c
noncomputable def F.board_New_u32.c2 : Code := cr F.board_New_u32.c1
noncomputable def F.board_New_u32.c3 : Code := cr F.board_New_u32.c2
noncomputable def F.board_New_u32.c4 : Code := cl F.board_New_u32.c3
noncomputable def F.board_New_u32.c5 : Code := cr F.board_New_u32.c4
noncomputable def F.board_New_u32.c6 : Code := cl F.board_New_u32.c5
noncomputable def F.board_New_u32.c7 : Code := cl F.board_New_u32.c6
noncomputable def F.board_New_u32.c8 : Code := cr F.board_New_u32.c3
noncomputable def F.board_New_u32.b0 : List Item := [.inLoop F.board_New_u32.c7, .inBlock 0, .code F.board_New_u32.c8]
theorem F.board_New_u32.e (x0 : Value) (H : Heap) : C F.board_New_u32 [x0] H =
  (mkbox H none T.layout_Layout x0).bind fun r1 =>
  (fadd 13 r1.1).bind fun v2 =>
  (ld1 r1.2 v2).bind fun v3 =>
  ifD (true) <|
  (abin P BinOp.eql T.int (Operand.tmp 6) (Operand.const (Value.int IntKind.i64 0)) v3 (Value.int IntKind.i64 0)).bind fun v4 =>
  (gd v4 false r1.2 ((fadd 0 r1.1).bind fun v5 => some (v5, r1.2))).bind fun r6 =>
  (gd v4 false r6.2 ((fadd 1 r6.1).bind fun v7 => some (v7, r6.2))).bind fun r8 =>
  (gd v4 false r8.2 ((ld1 r8.2 r8.1).bind fun v9 => some (v9, r8.2))).bind fun r10 =>
  ifD (true) <|
  (gd v4 false r10.2 ((C F.wide_Bits_u32 [] r10.2).bind fun r11 => some (r11.1, r11.2))).bind fun r12 =>
  ifD (Read.holds P r12.2 ⟨6, some (v4, false), T.int, r8.1, r10.1⟩ && true) <|
  (gd v4 false r12.2 ((abin P BinOp.neq T.int (Operand.tmp 11) (Operand.tmp 12) r10.1 r12.1).bind fun v13 => some (v13, r12.2))).bind fun r14 =>
  (apick v4 (Value.bool true) r14.1).bind fun v15 =>
  condK v15
  (some (Value.pointer none, r14.2))
  ((ldA (r14.2.reserve 8) 14 r1.1).bind fun v16 =>
  ifD (true) <|
  (fadd 0 r1.1).bind fun v17 =>
  (fadd 2 v17).bind fun v18 =>
  (ld1 (r14.2.reserve 8) v18).bind fun v19 =>
  ifD (true) <|
  (mkslice (r14.2.reserve 8) (some (r14.2.next + 4)) T.int 8 [Value.int IntKind.i64 0] v19 v19).bind fun r20 =>
  (fillL [Value.int IntKind.i64 0, Value.int IntKind.i64 0, Value.int IntKind.i64 0, Value.int IntKind.i64 0, Value.int IntKind.u64 0, Value.slice none 0 0, Value.int IntKind.i64 0, Value.int IntKind.i64 0, Value.int IntKind.i64 0, Value.int IntKind.i64 0, Value.int IntKind.i64 0, Value.int IntKind.i64 0, Value.int IntKind.i64 0, Value.int IntKind.i64 0, Value.slice none 0 0, Value.slice none 0 0, Value.slice none 0 0] [(0, 14, v16), (15, 1, r20.1)]).bind fun v21 =>
  (mkbox r20.2 (some (r14.2.next + 6)) T.board_Board_u32 (Value.agg (List.toArray v21))).bind fun r22 =>
  (fadd 12 r1.1).bind fun v23 =>
  (ld1 r22.2 v23).bind fun v24 =>
  R F.board_New_u32.f F.board_New_u32.b0 (put (put (put (put (put (put (put (put (put (put (put (put (put (put (put (put (put (put (put (put (put (put (put (fr0 [x0]) 1 r1.1) 2 (Value.pointer none)) 5 v2) 6 v3) 7 v4) 8 v4) 9 r6.1) 10 r8.1) 11 r10.1) 12 r12.1) 13 r14.1) 14 v15) 15 v16) 16 v17) 17 v18) 18 v19) 19 r20.1) 20 (Value.agg (List.toArray v21))) 21 r22.1) 3 r22.1) 22 v23) 23 v24) 24 (Value.int IntKind.i64 0)) r22.2) :=
  by rw [← obd_is]; exact call_den (fn := Tryd.f19) (by kernel_rfl) (fun _ _ => rfl) (by kernel_rfl) [] (by kernel_rfl)
theorem F.board_New_u32.e0 (a : Fr) (H : Heap) : R F.board_New_u32.f F.board_New_u32.b0 a H =
  (abin P BinOp.lss T.int (Operand.tmp 24) (Operand.tmp 23) (a 24) (a 23)).bind fun v25 =>
  condK v25
  ((nilc (a 3)).bind fun v26 =>
  (fadd 14 v26).bind fun v27 =>
  (ld1 (H.reserve 14) v27).bind fun v28 =>
  ifD (true) <|
  (ldA (H.reserve 14) 14 (a 1)).bind fun v29 =>
  ifD (true) <|
  (C F.layout_Layout_First [v29, (a 24)] (H.reserve 14)).bind fun r30 =>
  ifD (tells (ld1 r30.2 v27) v28 && true) <|
  (C F.wide_Of_u32 [r30.1] r30.2).bind fun r31 =>
  ifD (tells (ld1 r31.2 v27) v28 && true) <|
  (fillL (reps [Value.int IntKind.u32 0] 1) [(0, 1, r31.1)]).bind fun v32 =>
  (mkrow r31.2 (some (H.next + 9)) T.uint32 1 v32).bind fun r33 =>
  (aappend r33.2 T.uint32 1 4 v28 r33.1).bind fun r34 =>
  ifD (true) <|
  (nilc (a 3)).bind fun v35 =>
  (fadd 14 v35).bind fun v36 =>
  (st1 r34.2 v36 r34.1).bind fun H37 =>
  ifD (true) <|
  (abin P BinOp.add T.int (Operand.tmp 24) (Operand.const (Value.int IntKind.i64 1)) (a 24) (Value.int IntKind.i64 1)).bind fun v38 =>
  R F.board_New_u32.f F.board_New_u32.b0 (put (put (put (put (put (put (put (put (put (put (put (put (put (put (put (put (put (put a 25 v25) 26 (a 24)) 4 (a 24)) 27 (a 3)) 28 (a 3)) 29 v26) 30 v27) 31 v28) 32 v29) 33 (a 24)) 34 r30.1) 35 r31.1) 36 r33.1) 37 r34.1) 38 v35) 39 v36) 40 v38) 24 v38) H37)
  (some ((a 3), H)) :=
  by rw [← obd_is]; exact run_den [] (by kernel_rfl)

theorem F.board_Board_Store_u32.e (x0 x1 x2 x3 : Value) (H : Heap) : C F.board_Board_Store_u32 [x0, x1, x2, x3] H =
  (C F.board_Board_is_u32 [x0, x2, Value.int IntKind.i64 1] H).bind fun r1 =>
  condK r1.1
  ((C F.board_Board_lay_u32 [x0, x1, Value.int IntKind.i64 2, x2, x3] r1.2).bind fun r2 =>
  some (Value.tuple (List.toArray []), r2.2))
  (some (Value.tuple (List.toArray []), r1.2)) :=
  by rw [← obd_is]; exact call_den (fn := Tryd.f22) (by kernel_rfl) (fun _ _ => rfl) (by kernel_rfl) [] (by kernel_rfl)

theorem F.board_Board_Len_u32.e (x0 : Value) (H : Heap) : C F.board_Board_Len_u32 [x0] H =
  (abin P BinOp.eql T.p_board_Board_u32 (Operand.tmp 3) (Operand.const (Value.pointer none)) x0 (Value.pointer none)).bind fun v1 =>
  condK v1
  (some (Value.int IntKind.i64 0, H))
  ((nilc x0).bind fun v2 =>
  (fadd 16 v2).bind fun v3 =>
  (ld1 H v3).bind fun v4 =>
  (alen v4).bind fun v5 =>
  some (v5, H)) :=
  by rw [← obd_is]; exact call_den (fn := Tryd.f59) (by kernel_rfl) (fun _ _ => rfl) (by kernel_rfl) [] (by kernel_rfl)

theorem F.board_Board_is_u32.e (x0 x1 x2 : Value) (H : Heap) : C F.board_Board_is_u32 [x0, x1, x2] H =
  (abin P BinOp.neq T.p_board_Board_u32 (Operand.tmp 7) (Operand.const (Value.pointer none)) x0 (Value.pointer none)).bind fun v1 =>
  (gd v1 true H (some (x0, H))).bind fun r2 =>
  (gd v1 true r2.2 ((nilc r2.1).bind fun v3 => some (v3, r2.2))).bind fun r4 =>
  (gd v1 true r4.2 ((fadd 0 r4.1).bind fun v5 => some (v5, r4.2))).bind fun r6 =>
  (gd v1 true r6.2 ((ldA r6.2 14 r6.1).bind fun v7 => some (v7, r6.2))).bind fun r8 =>
  (gd v1 true r8.2 (some (x1, r8.2))).bind fun r9 =>
  (gd v1 true r9.2 ((C F.layout_Layout_Kind [r8.1, r9.1] r9.2).bind fun r10 => some (r10.1, r10.2))).bind fun r11 =>
  (gd v1 true r11.2 (some (x2, r11.2))).bind fun r12 =>
  (gd v1 true r12.2 ((abin P BinOp.eql T.int (Operand.tmp 15) (Operand.tmp 16) r11.1 r12.1).bind fun v13 => some (v13, r12.2))).bind fun r14 =>
  (apick v1 r14.1 (Value.bool false)).bind fun v15 =>
  some (v15, r14.2) :=
  by rw [← obd_is]; exact call_den (fn := Tryd.f90) (by kernel_rfl) (fun _ _ => rfl) (by kernel_rfl) [] (by kernel_rfl)

theorem F.board_Board_lay_u32.e (x0 x1 x2 x3 x4 : Value) (H : Heap) : C F.board_Board_lay_u32 [x0, x1, x2, x3, x4] H =
  (nilc x0).bind fun v1 =>
  (fadd 14 v1).bind fun v2 =>
  (ld1 H v2).bind fun v3 =>
  (sadd 1 v3 x3).bind fun v4 =>
  (ld1 H v4).bind fun v5 =>
  (C F.wide_Up_u32 [v5] H).bind fun r6 =>
  (C F.wide_Up_u32 [x4] r6.2).bind fun r7 =>
  (C F.board_Board_note_u32 [x0, x1, x2, x3, r6.1, r7.1] r7.2).bind fun r8 =>
  (nilc x0).bind fun v9 =>
  (fadd 14 v9).bind fun v10 =>
  (ld1 r8.2 v10).bind fun v11 =>
  (sadd 1 v11 x3).bind fun v12 =>
  (st1 r8.2 v12 x4).bind fun H13 =>
  some (v5, H13) :=
  by rw [← obd_is]; exact call_den (fn := Tryd.f91) (by kernel_rfl) (fun _ _ => rfl) (by kernel_rfl) [] (by kernel_rfl)

theorem F.board_Board_Load_u32.e (x0 x1 x2 : Value) (H : Heap) : C F.board_Board_Load_u32 [x0, x1, x2] H =
  (C F.board_Board_is_u32 [x0, x2, Value.int IntKind.i64 1] H).bind fun r1 =>
  (aun P UnOp.not r1.1).bind fun v2 =>
  condK v2
  (some (Value.int IntKind.u32 0, r1.2))
  ((C F.board_Board_look_u32 [x0, x1, Value.int IntKind.i64 1, x2] r1.2).bind fun r3 =>
  some (r3.1, r3.2)) :=
  by rw [← obd_is]; exact call_den (fn := Tryd.f96) (by kernel_rfl) (fun _ _ => rfl) (by kernel_rfl) [] (by kernel_rfl)

theorem F.board_Board_Layout_u32.e (x0 : Value) (H : Heap) : C F.board_Board_Layout_u32 [x0] H =
  (mkbox H none T.layout_Layout (Value.agg #[Value.int IntKind.i64 0, Value.int IntKind.i64 0, Value.int IntKind.i64 0, Value.int IntKind.i64 0, Value.int IntKind.u64 0, Value.slice none 0 0, Value.int IntKind.i64 0, Value.int IntKind.i64 0, Value.int IntKind.i64 0, Value.int IntKind.i64 0, Value.int IntKind.i64 0, Value.int IntKind.i64 0, Value.int IntKind.i64 0, Value.int IntKind.i64 0])).bind fun r1 =>
  (abin P BinOp.eql T.p_board_Board_u32 (Operand.tmp 3) (Operand.const (Value.pointer none)) x0 (Value.pointer none)).bind fun v2 =>
  condK v2
  ((fillL [Value.int IntKind.i64 0, Value.int IntKind.i64 0, Value.int IntKind.i64 0, Value.int IntKind.i64 0, Value.int IntKind.u64 0, Value.slice none 0 0, Value.int IntKind.i64 0, Value.int IntKind.i64 0, Value.int IntKind.i64 0, Value.int IntKind.i64 0, Value.int IntKind.i64 0, Value.int IntKind.i64 0, Value.int IntKind.i64 0, Value.int IntKind.i64 0] []).bind fun v3 =>
  (stA r1.2 14 r1.1 (Value.agg (List.toArray v3))).bind fun H4 =>
  (ldA H4 14 r1.1).bind fun v5 =>
  some (v5, H4))
  ((nilc x0).bind fun v6 =>
  (fadd 0 v6).bind fun v7 =>
  (ldA r1.2 14 v7).bind fun v8 =>
  (stA r1.2 14 r1.1 v8).bind fun H9 =>
  (ldA H9 14 r1.1).bind fun v10 =>
  some (v10, H9)) :=
  by rw [← obd_is]; exact call_den (fn := Tryd.f127) (by kernel_rfl) (fun _ _ => rfl) (by kernel_rfl) [] (by kernel_rfl)

theorem F.board_Board_Swap_u32.e (x0 x1 x2 x3 x4 : Value) (H : Heap) : C F.board_Board_Swap_u32 [x0, x1, x2, x3, x4] H =
  (C F.board_Board_is_u32 [x0, x2, Value.int IntKind.i64 1] H).bind fun r1 =>
  (aun P UnOp.not r1.1).bind fun v2 =>
  condK v2
  (some (Value.bool false, r1.2))
  ((nilc x0).bind fun v3 =>
  (fadd 14 v3).bind fun v4 =>
  (ld1 r1.2 v4).bind fun v5 =>
  (sadd 1 v5 x2).bind fun v6 =>
  (ld1 r1.2 v6).bind fun v7 =>
  (abin P BinOp.neq T.uint32 (Operand.tmp 21) (Operand.tmp 22) v7 x3).bind fun v8 =>
  condK v8
  ((C F.board_Board_look_u32 [x0, x1, Value.int IntKind.i64 5, x2] r1.2).bind fun r9 =>
  some (Value.bool false, r9.2))
  ((C F.board_Board_lay_u32 [x0, x1, Value.int IntKind.i64 4, x2, x4] r1.2).bind fun r10 =>
  some (Value.bool true, r10.2))) :=
  by rw [← obd_is]; exact call_den (fn := Tryd.f135) (by kernel_rfl) (fun _ _ => rfl) (by kernel_rfl) [] (by kernel_rfl)

theorem F.board_Board_note_u32.e (x0 x1 x2 x3 x4 x5 : Value) (H : Heap) : C F.board_Board_note_u32 [x0, x1, x2, x3, x4, x5] H =
  (nilc x0).bind fun v1 =>
  (fadd 16 v1).bind fun v2 =>
  (ld1 H v2).bind fun v3 =>
  (fillL [Value.int IntKind.i64 0, Value.int IntKind.i64 0, Value.int IntKind.i64 0, Value.int IntKind.u64 0, Value.int IntKind.u64 0] [(0, 1, x1), (1, 1, x2), (2, 1, x3), (3, 1, x4), (4, 1, x5)]).bind fun v4 =>
  (fillL (reps [Value.int IntKind.i64 0, Value.int IntKind.i64 0, Value.int IntKind.i64 0, Value.int IntKind.u64 0, Value.int IntKind.u64 0] 1) [(0, 5, Value.agg (List.toArray v4))]).bind fun v5 =>
  (mkrow H none T.api_Access 1 v5).bind fun r6 =>
  (aappend r6.2 T.api_Access 5 40 v3 r6.1).bind fun r7 =>
  (nilc x0).bind fun v8 =>
  (fadd 16 v8).bind fun v9 =>
  (st1 r7.2 v9 r7.1).bind fun H10 =>
  some (Value.tuple (List.toArray []), H10) :=
  by rw [← obd_is]; exact call_den (fn := Tryd.f152) (by kernel_rfl) (fun _ _ => rfl) (by kernel_rfl) [] (by kernel_rfl)

theorem F.board_Board_look_u32.e (x0 x1 x2 x3 : Value) (H : Heap) : C F.board_Board_look_u32 [x0, x1, x2, x3] H =
  (nilc x0).bind fun v1 =>
  (fadd 14 v1).bind fun v2 =>
  (ld1 H v2).bind fun v3 =>
  (sadd 1 v3 x3).bind fun v4 =>
  (ld1 H v4).bind fun v5 =>
  (C F.wide_Up_u32 [v5] H).bind fun r6 =>
  (C F.wide_Up_u32 [v5] r6.2).bind fun r7 =>
  (C F.board_Board_note_u32 [x0, x1, x2, x3, r6.1, r7.1] r7.2).bind fun r8 =>
  some (v5, r8.2) :=
  by rw [← obd_is]; exact call_den (fn := Tryd.f156) (by kernel_rfl) (fun _ _ => rfl) (by kernel_rfl) [] (by kernel_rfl)

theorem F.board_Board_Write_u32.e (x0 x1 x2 x3 : Value) (H : Heap) : C F.board_Board_Write_u32 [x0, x1, x2, x3] H =
  (C F.board_Board_is_u32 [x0, x2, Value.int IntKind.i64 2] H).bind fun r1 =>
  condK r1.1
  ((C F.board_Board_lay_u32 [x0, x1, Value.int IntKind.i64 7, x2, x3] r1.2).bind fun r2 =>
  some (Value.tuple (List.toArray []), r2.2))
  (some (Value.tuple (List.toArray []), r1.2)) :=
  by rw [← obd_is]; exact call_den (fn := Tryd.f194) (by kernel_rfl) (fun _ _ => rfl) (by kernel_rfl) [] (by kernel_rfl)

theorem F.board_Board_Read_u32.e (x0 x1 x2 : Value) (H : Heap) : C F.board_Board_Read_u32 [x0, x1, x2] H =
  (C F.board_Board_is_u32 [x0, x2, Value.int IntKind.i64 2] H).bind fun r1 =>
  (aun P UnOp.not r1.1).bind fun v2 =>
  condK v2
  (some (Value.int IntKind.u32 0, r1.2))
  ((C F.board_Board_look_u32 [x0, x1, Value.int IntKind.i64 6, x2] r1.2).bind fun r3 =>
  some (r3.1, r3.2)) :=
  by rw [← obd_is]; exact call_den (fn := Tryd.f195) (by kernel_rfl) (fun _ _ => rfl) (by kernel_rfl) [] (by kernel_rfl)
end Go.Proofs.YtiehmpoanhacaaaDoor
