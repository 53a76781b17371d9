/-
  What each function's code comes to in the abstract machine: written by program, each by the kernel's own reckoning; no condition.
-/
import Derived.Test.YtiehmpoanhacaaaDoorFn
import Derived.KernelRfl
set_option maxRecDepth 100000
set_option linter.unusedVariables false
set_option maxHeartbeats 1000000
namespace Go.Proofs.YtiehmpoanhacaaaDoor
open Go Go.Proofs.SakAm
noncomputable def F.graph_Copy.c : Code := (Tryd.f87.body).getD .skip
noncomputable def F.graph_Copy.c1 : Code := cr F.graph_Copy.c
noncomputable def F.graph_Copy.c2 : Code := cr F.graph_Copy.c1
noncomputable def F.graph_Copy.c3 : Code := cl F.graph_Copy.c2
noncomputable def F.graph_Copy.c4 : Code := cr F.graph_Copy.c3
noncomputable def F.graph_Copy.c5 : Code := cl F.graph_Copy.c4
noncomputable def F.graph_Copy.c6 : Code := cl F.graph_Copy.c5
noncomputable def F.graph_Copy.c7 : Code := cr F.graph_Copy.c2
noncomputable def F.graph_Copy.b0 : List Item := [.inLoop F.graph_Copy.c6, .inBlock 0, .code F.graph_Copy.c7]
theorem F.graph_Copy.e (x0 : Value) (H : Heap) : C F.graph_Copy [x0] H =
  (alen x0).bind fun v1 =>
  R F.graph_Copy.f F.graph_Copy.b0 (put (put (put (put (put (fr0 [x0]) 2 (Value.slice none 0 0)) 3 (Value.slice none 0 0)) 6 x0) 7 v1) 8 (Value.int IntKind.i64 0)) H :=
  by rw [← obd_is]; exact call_den (fn := Tryd.f87) (by kernel_rfl) (fun _ _ => rfl) (by kernel_rfl) [] (by kernel_rfl)
theorem F.graph_Copy.e0 (a : Fr) (H : Heap) : R F.graph_Copy.f F.graph_Copy.b0 a H =
  (abin P BinOp.lss T.int (Operand.tmp 8) (Operand.tmp 7) (a 8) (a 7)).bind fun v2 =>
  condK v2
  ((sadd 1 (a 6) (a 8)).bind fun v3 =>
  (ld1 H v3).bind fun v4 =>
  (fillL (reps [Value.int IntKind.i64 0] 0) []).bind fun v5 =>
  (mkrow H none T.int 0 v5).bind fun r6 =>
  (aappend r6.2 T.int 1 8 r6.1 v4).bind fun r7 =>
  (fillL (reps [Value.slice none 0 0] 1) [(0, 1, r7.1)]).bind fun v8 =>
  (mkrow r7.2 none T.sl_int 1 v8).bind fun r9 =>
  (aappend r9.2 T.sl_int 1 24 (a 3) r9.1).bind fun r10 =>
  (abin P BinOp.add T.int (Operand.tmp 8) (Operand.const (Value.int IntKind.i64 1)) (a 8) (Value.int IntKind.i64 1)).bind fun v11 =>
  R F.graph_Copy.f F.graph_Copy.b0 (put (put (put (put (put (put (put (put (put (put (put (put (put a 9 v2) 10 v3) 11 v4) 5 v4) 12 (a 3)) 13 r6.1) 14 v4) 15 r7.1) 16 r9.1) 17 r10.1) 3 r10.1) 18 v11) 8 v11) r10.2)
  (some ((a 3), H)) :=
  by rw [← obd_is]; exact run_den [] (by kernel_rfl)

noncomputable def F.graph_Ends.c : Code := (Tryd.f93.body).getD .skip
noncomputable def F.graph_Ends.c1 : Code := cr F.graph_Ends.c
noncomputable def F.graph_Ends.c2 : Code := cr F.graph_Ends.c1
noncomputable def F.graph_Ends.c3 : Code := cr F.graph_Ends.c2
noncomputable def F.graph_Ends.c4 : Code := cl F.graph_Ends.c3
noncomputable def F.graph_Ends.c5 : Code := cr F.graph_Ends.c4
noncomputable def F.graph_Ends.c6 : Code := cl F.graph_Ends.c5
noncomputable def F.graph_Ends.c7 : Code := cl F.graph_Ends.c6
noncomputable def F.graph_Ends.c8 : Code := cr F.graph_Ends.c3
noncomputable def F.graph_Ends.c9 : Code := cr F.graph_Ends.c7
noncomputable def F.graph_Ends.c10 : Code := cr F.graph_Ends.c9
noncomputable def F.graph_Ends.c11 : Code := cl F.graph_Ends.c10
noncomputable def F.graph_Ends.c12 : Code := cl F.graph_Ends.c11
noncomputable def F.graph_Ends.c13 : Code := cr F.graph_Ends.c12
noncomputable def F.graph_Ends.c14 : Code := cr F.graph_Ends.c13
noncomputable def F.graph_Ends.c15 : Code := cl F.graph_Ends.c14
noncomputable def F.graph_Ends.c16 : Code := cl F.graph_Ends.c15
noncomputable def F.graph_Ends.c17 : Code := cr F.graph_Ends.c10
noncomputable def F.graph_Ends.b0 : List Item := [.inLoop F.graph_Ends.c7, .inBlock 0, .code F.graph_Ends.c8]
noncomputable def F.graph_Ends.b1 : List Item := [.inLoop F.graph_Ends.c16, .inBlock 2, .inBlock 1, .code F.graph_Ends.c17, .inLoop F.graph_Ends.c7, .inBlock 0, .code F.graph_Ends.c8]
theorem F.graph_Ends.e (x0 : Value) (H : Heap) : C F.graph_Ends [x0] H =
  (C F.graph_Check [x0] H).bind fun r1 =>
  (abin P BinOp.neq T.api_Errno (Operand.tmp 9) (Operand.const (Value.int IntKind.i64 0)) r1.1 (Value.int IntKind.i64 0)).bind fun v2 =>
  condK v2
  (some (Value.slice none 0 0, r1.2))
  ((alen x0).bind fun v3 =>
  (C F.group_Full [v3] r1.2).bind fun r4 =>
  (alen x0).bind fun v5 =>
  R F.graph_Ends.f F.graph_Ends.b0 (put (put (put (put (put (put (put (put (put (put (put (fr0 [x0]) 2 (Value.slice none 0 0)) 8 x0) 9 r1.1) 10 v2) 11 x0) 12 v3) 13 r4.1) 3 r4.1) 14 x0) 15 v5) 16 (Value.int IntKind.i64 0)) r4.2) :=
  by rw [← obd_is]; exact call_den (fn := Tryd.f93) (by kernel_rfl) (fun _ _ => rfl) (by kernel_rfl) [] (by kernel_rfl)
theorem F.graph_Ends.e0 (a : Fr) (H : Heap) : R F.graph_Ends.f F.graph_Ends.b0 a H =
  (abin P BinOp.lss T.int (Operand.tmp 16) (Operand.tmp 15) (a 16) (a 15)).bind fun v6 =>
  condK v6
  ((sadd 1 (a 14) (a 16)).bind fun v7 =>
  (ld1 H v7).bind fun v8 =>
  (alen v8).bind fun v9 =>
  R F.graph_Ends.f F.graph_Ends.b1 (put (put (put (put (put (put (put a 17 v6) 18 v7) 19 v8) 5 v8) 20 v8) 21 v9) 22 (Value.int IntKind.i64 0)) H)
  ((C F.group_Group_List [(a 3)] H).bind fun r10 =>
  some (r10.1, r10.2)) :=
  by rw [← obd_is]; exact run_den [] (by kernel_rfl)
theorem F.graph_Ends.e1 (a : Fr) (H : Heap) : R F.graph_Ends.f F.graph_Ends.b1 a H =
  (abin P BinOp.lss T.int (Operand.tmp 22) (Operand.tmp 21) (a 22) (a 21)).bind fun v11 =>
  condK v11
  ((sadd 1 (a 20) (a 22)).bind fun v12 =>
  (ld1 H v12).bind fun v13 =>
  (C F.group_Group_Without [(a 3), v13] H).bind fun r14 =>
  (abin P BinOp.add T.int (Operand.tmp 22) (Operand.const (Value.int IntKind.i64 1)) (a 22) (Value.int IntKind.i64 1)).bind fun v15 =>
  R F.graph_Ends.f F.graph_Ends.b1 (put (put (put (put (put (put (put (put (put (put a 23 v11) 24 v12) 25 v13) 7 v13) 26 (a 3)) 27 v13) 28 r14.1) 3 r14.1) 29 v15) 22 v15) r14.2)
  ((abin P BinOp.add T.int (Operand.tmp 16) (Operand.const (Value.int IntKind.i64 1)) (a 16) (Value.int IntKind.i64 1)).bind fun v16 =>
  R F.graph_Ends.f F.graph_Ends.b0 (put (put (put a 23 v11) 30 v16) 16 v16) H) :=
  by rw [← obd_is]; exact run_den [] (by kernel_rfl)

noncomputable def F.graph_Check.c : Code := (Tryd.f148.body).getD .skip
noncomputable def F.graph_Check.c1 : Code := cr F.graph_Check.c
noncomputable def F.graph_Check.c2 : Code := cr F.graph_Check.c1
noncomputable def F.graph_Check.c3 : Code := cl F.graph_Check.c2
noncomputable def F.graph_Check.c4 : Code := cr F.graph_Check.c3
noncomputable def F.graph_Check.c5 : Code := cl F.graph_Check.c4
noncomputable def F.graph_Check.c6 : Code := cl F.graph_Check.c5
noncomputable def F.graph_Check.c7 : Code := cr F.graph_Check.c2
noncomputable def F.graph_Check.c8 : Code := cl F.graph_Check.c7
noncomputable def F.graph_Check.c9 : Code := cr F.graph_Check.c8
noncomputable def F.graph_Check.c10 : Code := cl F.graph_Check.c9
noncomputable def F.graph_Check.c11 : Code := cl F.graph_Check.c10
noncomputable def F.graph_Check.c12 : Code := cr F.graph_Check.c7
noncomputable def F.graph_Check.b0 : List Item := [.inLoop F.graph_Check.c6, .inBlock 0, .code F.graph_Check.c7]
noncomputable def F.graph_Check.b1 : List Item := [.inLoop F.graph_Check.c11, .inBlock 2, .code F.graph_Check.c12]
theorem F.graph_Check.e (x0 : Value) (H : Heap) : C F.graph_Check [x0] H =
  (alen x0).bind fun v1 =>
  (abin P BinOp.lss T.int (Operand.tmp 7) (Operand.const (Value.int IntKind.i64 1)) v1 (Value.int IntKind.i64 1)).bind fun v2 =>
  (gd v2 false H (some (x0, H))).bind fun r3 =>
  (gd v2 false r3.2 ((alen r3.1).bind fun v4 => some (v4, r3.2))).bind fun r5 =>
  (gd v2 false r5.2 ((abin P BinOp.gtr T.int (Operand.tmp 11) (Operand.const (Value.int IntKind.i64 6)) r5.1 (Value.int IntKind.i64 6)).bind fun v6 => some (v6, r5.2))).bind fun r7 =>
  (apick v2 (Value.bool true) r7.1).bind fun v8 =>
  condK v8
  (some (Value.int IntKind.i64 6, r7.2))
  ((alen x0).bind fun v9 =>
  R F.graph_Check.f F.graph_Check.b0 (put (put (put (put (put (put (put (put (put (put (put (put (fr0 [x0]) 2 (Value.int IntKind.i64 0)) 6 x0) 7 v1) 8 v2) 9 v2) 10 r3.1) 11 r5.1) 12 r7.1) 13 v8) 14 x0) 15 v9) 16 (Value.int IntKind.i64 0)) r7.2) :=
  by rw [← obd_is]; exact call_den (fn := Tryd.f148) (by kernel_rfl) (fun _ _ => rfl) (by kernel_rfl) [] (by kernel_rfl)
theorem F.graph_Check.e0 (a : Fr) (H : Heap) : R F.graph_Check.f F.graph_Check.b0 a H =
  (abin P BinOp.lss T.int (Operand.tmp 16) (Operand.tmp 15) (a 16) (a 15)).bind fun v10 =>
  condK v10
  ((sadd 1 (a 14) (a 16)).bind fun v11 =>
  (ld1 H v11).bind fun v12 =>
  (alen (a 0)).bind fun v13 =>
  (C F.graph_names [v12, v13] H).bind fun r14 =>
  (aun P UnOp.not r14.1).bind fun v15 =>
  condK v15
  (some (Value.int IntKind.i64 7, r14.2))
  ((abin P BinOp.add T.int (Operand.tmp 16) (Operand.const (Value.int IntKind.i64 1)) (a 16) (Value.int IntKind.i64 1)).bind fun v16 =>
  R F.graph_Check.f F.graph_Check.b0 (put (put (put (put (put (put (put (put (put (put (put a 17 v10) 18 v11) 19 v12) 4 v12) 20 v12) 21 (a 0)) 22 v13) 23 r14.1) 24 v15) 25 v16) 16 v16) r14.2))
  ((alen (a 0)).bind fun v17 =>
  R F.graph_Check.f F.graph_Check.b1 (put (put (put (put a 17 v10) 26 (a 0)) 27 v17) 28 (Value.int IntKind.i64 0)) H) :=
  by rw [← obd_is]; exact run_den [] (by kernel_rfl)
theorem F.graph_Check.e1 (a : Fr) (H : Heap) : R F.graph_Check.f F.graph_Check.b1 a H =
  (abin P BinOp.lss T.int (Operand.tmp 28) (Operand.tmp 27) (a 28) (a 27)).bind fun v18 =>
  condK v18
  ((C F.graph_above [(a 0), (a 28)] H).bind fun r19 =>
  (C F.group_Group_Has [r19.1, (a 28)] r19.2).bind fun r20 =>
  condK r20.1
  (some (Value.int IntKind.i64 8, r20.2))
  ((abin P BinOp.add T.int (Operand.tmp 28) (Operand.const (Value.int IntKind.i64 1)) (a 28) (Value.int IntKind.i64 1)).bind fun v21 =>
  R F.graph_Check.f F.graph_Check.b1 (put (put (put (put (put (put (put (put (put (put a 29 v18) 30 (a 28)) 5 (a 28)) 31 (a 0)) 32 (a 28)) 33 r19.1) 34 (a 28)) 35 r20.1) 36 v21) 28 v21) r20.2))
  (some (Value.int IntKind.i64 0, H)) :=
  by rw [← obd_is]; exact run_den [] (by kernel_rfl)

noncomputable def F.graph_names.c : Code := (Tryd.f180.body).getD .skip
noncomputable def F.graph_names.c1 : Code := cr F.graph_names.c
noncomputable def F.graph_names.c2 : Code := cr F.graph_names.c1
noncomputable def F.graph_names.c3 : Code := cl F.graph_names.c2
noncomputable def F.graph_names.c4 : Code := cr F.graph_names.c3
noncomputable def F.graph_names.c5 : Code := cl F.graph_names.c4
noncomputable def F.graph_names.c6 : Code := cl F.graph_names.c5
noncomputable def F.graph_names.c7 : Code := cr F.graph_names.c2
noncomputable def F.graph_names.b0 : List Item := [.inLoop F.graph_names.c6, .inBlock 0, .code F.graph_names.c7]
theorem F.graph_names.e (x0 x1 : Value) (H : Heap) : C F.graph_names [x0, x1] H =
  (alen x0).bind fun v1 =>
  R F.graph_names.f F.graph_names.b0 (put (put (put (put (put (fr0 [x0, x1]) 4 (Value.bool false)) 5 (Value.int IntKind.u64 0)) 8 x0) 9 v1) 10 (Value.int IntKind.i64 0)) H :=
  by rw [← obd_is]; exact call_den (fn := Tryd.f180) (by kernel_rfl) (fun _ _ => rfl) (by kernel_rfl) [] (by kernel_rfl)
theorem F.graph_names.e0 (a : Fr) (H : Heap) : R F.graph_names.f F.graph_names.b0 a H =
  (abin P BinOp.lss T.int (Operand.tmp 10) (Operand.tmp 9) (a 10) (a 9)).bind fun v2 =>
  condK v2
  ((sadd 1 (a 8) (a 10)).bind fun v3 =>
  (ld1 H v3).bind fun v4 =>
  (abin P BinOp.lss T.int (Operand.tmp 14) (Operand.const (Value.int IntKind.i64 0)) v4 (Value.int IntKind.i64 0)).bind fun v5 =>
  (gd v5 false H (some (v4, H))).bind fun r6 =>
  (gd v5 false r6.2 (some ((a 1), r6.2))).bind fun r7 =>
  (gd v5 false r7.2 ((abin P BinOp.geq T.int (Operand.tmp 17) (Operand.tmp 18) r6.1 r7.1).bind fun v8 => some (v8, r7.2))).bind fun r9 =>
  (apick v5 (Value.bool true) r9.1).bind fun v10 =>
  (gd v10 false r9.2 (some ((a 5), r9.2))).bind fun r11 =>
  (gd v10 false r11.2 (some (v4, r11.2))).bind fun r12 =>
  (gd v10 false r12.2 ((C F.group_Group_Has [r11.1, r12.1] r12.2).bind fun r13 => some (r13.1, r13.2))).bind fun r14 =>
  (apick v10 (Value.bool true) r14.1).bind fun v15 =>
  condK v15
  (some (Value.bool false, r14.2))
  ((C F.group_Group_With [(a 5), v4] r14.2).bind fun r16 =>
  (abin P BinOp.add T.int (Operand.tmp 10) (Operand.const (Value.int IntKind.i64 1)) (a 10) (Value.int IntKind.i64 1)).bind fun v17 =>
  R F.graph_names.f F.graph_names.b0 (put (put (put (put (put (put (put (put (put (put (put (put (put (put (put (put (put (put (put (put (put (put a 11 v2) 12 v3) 13 v4) 7 v4) 14 v4) 15 v5) 16 v5) 17 r6.1) 18 r7.1) 19 r9.1) 20 v10) 21 v10) 22 r11.1) 23 r12.1) 24 r14.1) 25 v15) 26 (a 5)) 27 v4) 28 r16.1) 5 r16.1) 29 v17) 10 v17) r16.2))
  (some (Value.bool true, H)) :=
  by rw [← obd_is]; exact run_den [] (by kernel_rfl)

theorem F.graph_above.e (x0 x1 : Value) (H : Heap) : C F.graph_above [x0, x1] H =
  (mkbox H none T.sl_sl_int x0).bind fun r1 =>
  (mkbox r1.2 none T.group_Group (Value.int IntKind.u64 0)).bind fun r2 =>
  (mkbox r2.2 none T.func_int (Value.nilFunc)).bind fun r3 =>
  (st1 r3.2 r3.1 (Value.func (Fn.func F.graph_above_1) (List.toArray []) (List.toArray [r1.1, r2.1, r3.1]))).bind fun H4 =>
  (ld1 H4 r3.1).bind fun v5 =>
  (target v5).bind fun t6 =>
  (C t6.1 (t6.2.1 ++ [x1] ++ t6.2.2) H4).bind fun r7 =>
  (ld1 r7.2 r2.1).bind fun v8 =>
  some (v8, r7.2) :=
  by rw [← obd_is]; exact call_den (fn := Tryd.f181) (by kernel_rfl) (fun _ _ => rfl) (by kernel_rfl) [] (by kernel_rfl)

noncomputable def F.graph_above_1.c : Code := (Tryd.f197.body).getD .skip
noncomputable def F.graph_above_1.c1 : Code := cr F.graph_above_1.c
noncomputable def F.graph_above_1.c2 : Code := cl F.graph_above_1.c1
noncomputable def F.graph_above_1.c3 : Code := cl F.graph_above_1.c2
noncomputable def F.graph_above_1.c4 : Code := cr F.graph_above_1.c3
noncomputable def F.graph_above_1.c5 : Code := cr F.graph_above_1.c4
noncomputable def F.graph_above_1.c6 : Code := cr F.graph_above_1.c5
noncomputable def F.graph_above_1.b0 : List Item := [.inLoop F.graph_above_1.c3, .inBlock 0]
noncomputable def F.graph_above_1.b1 : List Item := [.code F.graph_above_1.c6, .inLoop F.graph_above_1.c3, .inBlock 0]
theorem F.graph_above_1.e (x0 x1 x2 x3 : Value) (H : Heap) : C F.graph_above_1 [x0, x1, x2, x3] H =
  (ld1 H x1).bind fun v1 =>
  (sadd 1 v1 x0).bind fun v2 =>
  (ld1 H v2).bind fun v3 =>
  (alen v3).bind fun v4 =>
  R F.graph_above_1.f F.graph_above_1.b0 (put (put (put (put (put (put (fr0 [x0, x1, x2, x3]) 7 v1) 8 x0) 9 v2) 10 v3) 11 v4) 12 (Value.int IntKind.i64 0)) H :=
  by rw [← obd_is]; exact call_den (fn := Tryd.f197) (by kernel_rfl) (fun _ _ => rfl) (by kernel_rfl) [6] (by kernel_rfl)
theorem F.graph_above_1.e0 (a : Fr) (H : Heap) : R F.graph_above_1.f F.graph_above_1.b0 a H =
  (abin P BinOp.lss T.int (Operand.tmp 12) (Operand.tmp 11) (a 12) (a 11)).bind fun v5 =>
  condK v5
  ((sadd 1 (a 10) (a 12)).bind fun v6 =>
  (ld1 H v6).bind fun v7 =>
  (ld1 H (a 2)).bind fun v8 =>
  (C F.group_Group_Has [v8, v7] H).bind fun r9 =>
  (aun P UnOp.not r9.1).bind fun v10 =>
  condK v10
  ((ld1 r9.2 (a 2)).bind fun v11 =>
  (C F.group_Group_With [v11, v7] r9.2).bind fun r12 =>
  (st1 r12.2 (a 2) r12.1).bind fun H13 =>
  (ld1 H13 (a 3)).bind fun v14 =>
  (target v14).bind fun t15 =>
  (C t15.1 (t15.2.1 ++ [v7] ++ t15.2.2) H13).bind fun r16 =>
  R F.graph_above_1.f F.graph_above_1.b1 (put (put (put (put (put (put (put (put (put (put (put (put (put (put a 13 v5) 14 v6) 15 v7) 6 v7) 16 v8) 17 v7) 18 r9.1) 19 v10) 20 v11) 21 v7) 22 r12.1) 23 v14) 24 v7) 25 r16.1) r16.2)
  (R F.graph_above_1.f F.graph_above_1.b1 (put (put (put (put (put (put (put (put a 13 v5) 14 v6) 15 v7) 6 v7) 16 v8) 17 v7) 18 r9.1) 19 v10) r9.2))
  (some (Value.tuple (List.toArray []), H)) :=
  by rw [← obd_is]; exact run_den [6] (by kernel_rfl)
theorem F.graph_above_1.e1 (a : Fr) (H : Heap) : R F.graph_above_1.f F.graph_above_1.b1 a H =
  (abin P BinOp.add T.int (Operand.tmp 12) (Operand.const (Value.int IntKind.i64 1)) (a 12) (Value.int IntKind.i64 1)).bind fun v17 =>
  R F.graph_above_1.f F.graph_above_1.b0 (put (put a 26 v17) 12 v17) H :=
  by rw [← obd_is]; exact run_den [6] (by kernel_rfl)
end Go.Proofs.YtiehmpoanhacaaaDoor
