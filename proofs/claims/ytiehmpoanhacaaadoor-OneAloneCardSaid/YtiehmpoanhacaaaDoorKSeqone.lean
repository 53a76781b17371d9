/-
  What each function's code comes to in the abstract machine: written by program, each by the kernel's own reckoning; no condition.
-/
import Derived.Test.YtiehmpoanhacaaaDoorFn
import Derived.KernelRfl
set_option maxRecDepth 100000
set_option linter.unusedVariables false
set_option maxHeartbeats 1000000
namespace Go.Proofs.YtiehmpoanhacaaaDoor
open Go Go.Proofs.SakAm
theorem F.seqone_New_u64.e (x0 x1 : Value) (H : Heap) : C F.seqone_New_u64 [x0, x1] H =
  (C F.board_Board_Layout_u64 [x0] H).bind fun r1 =>
  (mkbox r1.2 none T.layout_Layout (Value.agg #[Value.int IntKind.i64 0, Value.int IntKind.i64 0, Value.int IntKind.i64 0, Value.int IntKind.i64 0, Value.int IntKind.u64 0, Value.slice none 0 0, Value.int IntKind.i64 0, Value.int IntKind.i64 0, Value.int IntKind.i64 0, Value.int IntKind.i64 0, Value.int IntKind.i64 0, Value.int IntKind.i64 0, Value.int IntKind.i64 0, Value.int IntKind.i64 0])).bind fun r2 =>
  (stA r2.2 14 r2.1 r1.1).bind fun H3 =>
  (fadd 0 r2.1).bind fun v4 =>
  (fadd 0 v4).bind fun v5 =>
  (ld1 H3 v5).bind fun v6 =>
  (abin P BinOp.neq T.int (Operand.tmp 11) (Operand.const (Value.int IntKind.i64 1)) v6 (Value.int IntKind.i64 1)).bind fun v7 =>
  condK v7
  (some (Value.pointer none, H3))
  ((fadd 0 r2.1).bind fun v8 =>
  (ldA H3 6 v8).bind fun v9 =>
  (C F.conf_Start [v9] H3).bind fun r10 =>
  (C F.wide_Of_u64 [r10.1] r10.2).bind fun r11 =>
  (fadd 0 r2.1).bind fun v12 =>
  (ldA (r11.2.reserve 13) 6 v12).bind fun v13 =>
  ifD (true) <|
  (ldA (r11.2.reserve 13) 14 r2.1).bind fun v14 =>
  ifD (true) <|
  (C F.gate_Ends [v14] (r11.2.reserve 13)).bind fun r15 =>
  ifD (tells (ldA r15.2 6 v12) v13 && true) <|
  (fadd 6 r2.1).bind fun v16 =>
  (ld1 r15.2 v16).bind fun v17 =>
  ifD (tells (ld1 (r11.2.reserve 13) v16) v17 && true) <|
  (fillL [Value.pointer none, Value.pointer none, Value.int IntKind.i64 0, Value.int IntKind.i64 0, Value.int IntKind.i64 0, Value.int IntKind.i64 0, Value.int IntKind.u64 0, Value.slice none 0 0, Value.slice none 0 0, Value.int IntKind.i64 0, Value.int IntKind.u64 0, Value.int IntKind.u64 0] [(0, 1, x0), (1, 1, x1), (2, 6, v13), (8, 1, r15.1), (9, 1, v17), (10, 1, r11.1), (11, 1, r11.1)]).bind fun v18 =>
  (mkbox r15.2 (some (r11.2.next + 11)) T.seqone_Seq_u64 (Value.agg (List.toArray v18))).bind fun r19 =>
  some (r19.1, r19.2)) :=
  by rw [← obd_is]; exact call_den (fn := Tryd.f45) (by kernel_rfl) (fun _ _ => rfl) (by kernel_rfl) [] (by kernel_rfl)

noncomputable def F.seqone_Seq_Claim_u64.c : Code := (Tryd.f46.body).getD .skip
noncomputable def F.seqone_Seq_Claim_u64.c1 : Code := cr F.seqone_Seq_Claim_u64.c
noncomputable def F.seqone_Seq_Claim_u64.c2 : Code := cl F.seqone_Seq_Claim_u64.c1
noncomputable def F.seqone_Seq_Claim_u64.c3 : Code := cr F.seqone_Seq_Claim_u64.c2
noncomputable def F.seqone_Seq_Claim_u64.c4 : Code := cr F.seqone_Seq_Claim_u64.c3
noncomputable def F.seqone_Seq_Claim_u64.c5 : Code := cr F.seqone_Seq_Claim_u64.c4
noncomputable def F.seqone_Seq_Claim_u64.c6 : Code := cr F.seqone_Seq_Claim_u64.c5
noncomputable def F.seqone_Seq_Claim_u64.c7 : Code := cr F.seqone_Seq_Claim_u64.c6
noncomputable def F.seqone_Seq_Claim_u64.c8 : Code := cr F.seqone_Seq_Claim_u64.c7
noncomputable def F.seqone_Seq_Claim_u64.c9 : Code := cr F.seqone_Seq_Claim_u64.c8
noncomputable def F.seqone_Seq_Claim_u64.c10 : Code := cr F.seqone_Seq_Claim_u64.c9
noncomputable def F.seqone_Seq_Claim_u64.c11 : Code := cr F.seqone_Seq_Claim_u64.c10
noncomputable def F.seqone_Seq_Claim_u64.c12 : Code := cr F.seqone_Seq_Claim_u64.c11
noncomputable def F.seqone_Seq_Claim_u64.b0 : List Item := [.code F.seqone_Seq_Claim_u64.c8, .inScope F.seqone_Seq_Claim_u64.c2]
noncomputable def F.seqone_Seq_Claim_u64.b1 : List Item := [.code F.seqone_Seq_Claim_u64.c12, .inScope F.seqone_Seq_Claim_u64.c2]
theorem F.seqone_Seq_Claim_u64.e (x0 x1 x2 : Value) (H : Heap) : C F.seqone_Seq_Claim_u64 [x0, x1, x2] H =
  (C F.seqone_Seq_may_u64 [x0, x1, x2] H).bind fun r1 =>
  (aun P UnOp.not r1.1).bind fun v2 =>
  condK v2
  (some (Value.bool true, r1.2))
  ((nilc x2).bind fun v3 =>
  (fadd 3 v3).bind fun v4 =>
  (ld1 r1.2 v4).bind fun v5 =>
  (abin P BinOp.eql T.int (Operand.tmp 15) (Operand.const (Value.int IntKind.i64 1)) v5 (Value.int IntKind.i64 1)).bind fun v6 =>
  condK v6
  (R F.seqone_Seq_Claim_u64.f F.seqone_Seq_Claim_u64.b0 (put (put (put (put (put (put (put (put (put (put (put (fr0 [x0, x1, x2]) 6 (Value.bool false)) 7 x0) 8 x1) 9 x2) 10 r1.1) 11 v2) 12 x2) 13 v3) 14 v4) 15 v5) 16 v6) r1.2)
  ((nilc x0).bind fun v7 =>
  (fadd 10 v7).bind fun v8 =>
  (ld1 r1.2 v8).bind fun v9 =>
  (nilc x2).bind fun v10 =>
  (fadd 6 v10).bind fun v11 =>
  (st1 r1.2 v11 v9).bind fun H12 =>
  (C F.seqone_Seq_fits_u64 [x0, x2] H12).bind fun r13 =>
  condK r13.1
  (R F.seqone_Seq_Claim_u64.f F.seqone_Seq_Claim_u64.b1 (put (put (put (put (put (put (put (put (put (put (put (put (put (put (put (put (put (put (put (put (put (fr0 [x0, x1, x2]) 6 (Value.bool false)) 7 x0) 8 x1) 9 x2) 10 r1.1) 11 v2) 12 x2) 13 v3) 14 v4) 15 v5) 16 v6) 17 x2) 18 x0) 19 v7) 20 v8) 21 v9) 22 v10) 23 v11) 24 x0) 25 x2) 26 r13.1) r13.2)
  ((nilc x2).bind fun v14 =>
  (fadd 3 v14).bind fun v15 =>
  (st1 r13.2 v15 (Value.int IntKind.i64 1)).bind fun H16 =>
  (nilc x2).bind fun v17 =>
  (fadd 4 v17).bind fun v18 =>
  (st1 H16 v18 (Value.int IntKind.i64 0)).bind fun H19 =>
  R F.seqone_Seq_Claim_u64.f F.seqone_Seq_Claim_u64.b0 (put (put (put (put (put (put (put (put (put (put (put (put (put (put (put (put (put (put (put (put (put (put (put (put (put (put (put (fr0 [x0, x1, x2]) 6 (Value.bool false)) 7 x0) 8 x1) 9 x2) 10 r1.1) 11 v2) 12 x2) 13 v3) 14 v4) 15 v5) 16 v6) 17 x2) 18 x0) 19 v7) 20 v8) 21 v9) 22 v10) 23 v11) 24 x0) 25 x2) 26 r13.1) 27 x2) 28 x2) 29 v14) 30 v15) 31 v17) 32 v18) H19))) :=
  by rw [← obd_is]; exact call_den (fn := Tryd.f46) (by kernel_rfl) (fun _ _ => rfl) (by kernel_rfl) [7, 12] (by kernel_rfl)
theorem F.seqone_Seq_Claim_u64.e0 (a : Fr) (H : Heap) : R F.seqone_Seq_Claim_u64.f F.seqone_Seq_Claim_u64.b0 a H =
  (nilc (a 0)).bind fun v20 =>
  (fadd 0 v20).bind fun v21 =>
  (ld1 H v21).bind fun v22 =>
  ifD (true) <|
  (nilc (a 0)).bind fun v23 =>
  (fadd 8 v23).bind fun v24 =>
  (ld1 H v24).bind fun v25 =>
  ifD (true) <|
  (C F.gate_Scan_u64 [v22, (a 1), v25, (a 2)] H).bind fun r26 =>
  ifD (true) <|
  (aun P UnOp.not r26.1).bind fun v27 =>
  condK v27
  (some (Value.bool false, r26.2))
  ((nilc (a 2)).bind fun v28 =>
  (fadd 7 v28).bind fun v29 =>
  (ld1 r26.2 v29).bind fun v30 =>
  (nilc (a 0)).bind fun v31 =>
  (fadd 11 v31).bind fun v32 =>
  (st1 r26.2 v32 v30).bind fun H33 =>
  (C F.seqone_Seq_fits_u64 [(a 0), (a 2)] H33).bind fun r34 =>
  (aun P UnOp.not r34.1).bind fun v35 =>
  condK v35
  (some (Value.bool false, r34.2))
  (R F.seqone_Seq_Claim_u64.f F.seqone_Seq_Claim_u64.b1 (put (put (put (put (put (put (put (put (put (put (put (put (put (put (put (put (put (put (put (put (put (put (put a 33 (a 0)) 34 v20) 35 v21) 36 v22) 37 (a 1)) 38 (a 0)) 39 v23) 40 v24) 41 v25) 42 (a 2)) 43 r26.1) 44 v27) 45 (a 0)) 46 (a 2)) 47 v28) 48 v29) 49 v30) 50 v31) 51 v32) 52 (a 0)) 53 (a 2)) 54 r34.1) 55 v35) r34.2)) :=
  by rw [← obd_is]; exact run_den [7, 12] (by kernel_rfl)
theorem F.seqone_Seq_Claim_u64.e1 (a : Fr) (H : Heap) : R F.seqone_Seq_Claim_u64.f F.seqone_Seq_Claim_u64.b1 a H =
  (nilc (a 0)).bind fun v36 =>
  (fadd 10 v36).bind fun v37 =>
  (ld1 H v37).bind fun v38 =>
  ifD (true) <|
  (nilc (a 2)).bind fun v39 =>
  (fadd 1 v39).bind fun v40 =>
  (ld1 H v40).bind fun v41 =>
  ifD (true) <|
  (C F.wide_Add_u64 [v38, v41] H).bind fun r42 =>
  ifD (true) <|
  (nilc (a 0)).bind fun v43 =>
  (fadd 10 v43).bind fun v44 =>
  (st1 r42.2 v44 r42.1).bind fun H45 =>
  ifD (true) <|
  (nilc (a 2)).bind fun v46 =>
  (fadd 3 v46).bind fun v47 =>
  (st1 H45 v47 (Value.int IntKind.i64 0)).bind fun H48 =>
  (nilc (a 0)).bind fun v49 =>
  (fadd 1 v49).bind fun v50 =>
  (ld1 H48 v50).bind fun v51 =>
  ifD (true) <|
  (nilc (a 2)).bind fun v52 =>
  (fadd 1 v52).bind fun v53 =>
  (ld1 H48 v53).bind fun v54 =>
  ifD (true) <|
  (nilc (a 2)).bind fun v55 =>
  (fadd 6 v55).bind fun v56 =>
  (ld1 H48 v56).bind fun v57 =>
  ifD (true) <|
  (C F.wide_Up_u64 [v57] H48).bind fun r58 =>
  ifD (tells (ld1 r58.2 v53) v54 && (tells (ld1 r58.2 v50) v51 && true)) <|
  (fillL [Value.int IntKind.i64 0, Value.int IntKind.i64 0, Value.int IntKind.i64 0, Value.int IntKind.i64 0, Value.int IntKind.u64 0, Value.int IntKind.i64 0, Value.slice none 0 0] [(0, 1, Value.int IntKind.i64 3), (1, 1, (a 1)), (3, 1, v54), (4, 1, r58.1)]).bind fun v59 =>
  (C F.event_Log_Note [v51, Value.agg (List.toArray v59)] r58.2).bind fun r60 =>
  ifD (true) <|
  (nilc (a 0)).bind fun v61 =>
  (fadd 1 v61).bind fun v62 =>
  (ld1 r60.2 v62).bind fun v63 =>
  (fillL [Value.int IntKind.i64 0, Value.int IntKind.i64 0, Value.int IntKind.i64 0, Value.int IntKind.i64 0, Value.int IntKind.u64 0, Value.int IntKind.i64 0, Value.slice none 0 0] [(0, 1, Value.int IntKind.i64 4), (1, 1, (a 1))]).bind fun v64 =>
  (C F.event_Log_Note [v63, Value.agg (List.toArray v64)] r60.2).bind fun r65 =>
  some (Value.bool true, r65.2) :=
  by rw [← obd_is]; exact run_den [7, 12] (by kernel_rfl)

theorem F.seqone_Seq_Publish_u64.e (x0 x1 x2 : Value) (H : Heap) : C F.seqone_Seq_Publish_u64 [x0, x1, x2] H =
  (C F.seqone_Seq_may_u64 [x0, x1, x2] H).bind fun r1 =>
  (aun P UnOp.not r1.1).bind fun v2 =>
  condK v2
  (some (Value.bool true, r1.2))
  ((nilc x0).bind fun v3 =>
  (fadd 0 v3).bind fun v4 =>
  (ld1 r1.2 v4).bind fun v5 =>
  ifD (true) <|
  (nilc x0).bind fun v6 =>
  (fadd 9 v6).bind fun v7 =>
  (ld1 r1.2 v7).bind fun v8 =>
  ifD (true) <|
  (nilc x2).bind fun v9 =>
  (fadd 6 v9).bind fun v10 =>
  (ld1 r1.2 v10).bind fun v11 =>
  ifD (true) <|
  (nilc x2).bind fun v12 =>
  (fadd 1 v12).bind fun v13 =>
  (ld1 r1.2 v13).bind fun v14 =>
  ifD (true) <|
  (C F.wide_Add_u64 [v11, v14] r1.2).bind fun r15 =>
  ifD (tells (ld1 r15.2 v7) v8 && (tells (ld1 r15.2 v4) v5 && true)) <|
  (C F.board_Board_Store_u64 [v5, x1, v8, r15.1] r15.2).bind fun r16 =>
  ifD (true) <|
  (nilc x0).bind fun v17 =>
  (fadd 1 v17).bind fun v18 =>
  (ld1 r16.2 v18).bind fun v19 =>
  ifD (true) <|
  (nilc x2).bind fun v20 =>
  (fadd 1 v20).bind fun v21 =>
  (ld1 r16.2 v21).bind fun v22 =>
  ifD (true) <|
  (nilc x2).bind fun v23 =>
  (fadd 6 v23).bind fun v24 =>
  (ld1 r16.2 v24).bind fun v25 =>
  ifD (true) <|
  (C F.wide_Up_u64 [v25] r16.2).bind fun r26 =>
  ifD (tells (ld1 r26.2 v21) v22 && (tells (ld1 r26.2 v18) v19 && true)) <|
  (fillL [Value.int IntKind.i64 0, Value.int IntKind.i64 0, Value.int IntKind.i64 0, Value.int IntKind.i64 0, Value.int IntKind.u64 0, Value.int IntKind.i64 0, Value.slice none 0 0] [(0, 1, Value.int IntKind.i64 5), (1, 1, x1), (3, 1, v22), (4, 1, r26.1)]).bind fun v27 =>
  (C F.event_Log_Note [v19, Value.agg (List.toArray v27)] r26.2).bind fun r28 =>
  ifD (true) <|
  some (Value.bool true, r28.2)) :=
  by rw [← obd_is]; exact call_den (fn := Tryd.f47) (by kernel_rfl) (fun _ _ => rfl) (by kernel_rfl) [] (by kernel_rfl)

noncomputable def F.seqone_Seq_Tip_u64.c : Code := (Tryd.f48.body).getD .skip
noncomputable def F.seqone_Seq_Tip_u64.c1 : Code := cr F.seqone_Seq_Tip_u64.c
noncomputable def F.seqone_Seq_Tip_u64.c2 : Code := cr F.seqone_Seq_Tip_u64.c1
noncomputable def F.seqone_Seq_Tip_u64.b0 : List Item := [.code F.seqone_Seq_Tip_u64.c2]
theorem F.seqone_Seq_Tip_u64.e (x0 x1 x2 : Value) (H : Heap) : C F.seqone_Seq_Tip_u64 [x0, x1, x2] H =
  (abin P BinOp.neq T.p_seqone_Seq_u64 (Operand.tmp 7) (Operand.const (Value.pointer none)) x0 (Value.pointer none)).bind fun v1 =>
  (gd v1 true H (some (x2, H))).bind fun r2 =>
  (gd v1 true r2.2 ((abin P BinOp.neq T.p_api_Frame_u64 (Operand.tmp 10) (Operand.const (Value.pointer none)) r2.1 (Value.pointer none)).bind fun v3 => some (v3, r2.2))).bind fun r4 =>
  (apick v1 r4.1 (Value.bool false)).bind fun v5 =>
  condK v5
  ((nilc x0).bind fun v6 =>
  (fadd 0 v6).bind fun v7 =>
  (ld1 r4.2 v7).bind fun v8 =>
  ifD (true) <|
  (nilc x0).bind fun v9 =>
  (fadd 9 v9).bind fun v10 =>
  (ld1 r4.2 v10).bind fun v11 =>
  ifD (true) <|
  (C F.board_Board_Load_u64 [v8, x1, v11] r4.2).bind fun r12 =>
  ifD (true) <|
  (nilc x2).bind fun v13 =>
  (fadd 8 v13).bind fun v14 =>
  (st1 r12.2 v14 r12.1).bind fun H15 =>
  ifD (true) <|
  R F.seqone_Seq_Tip_u64.f F.seqone_Seq_Tip_u64.b0 (put (put (put (put (put (put (put (put (put (put (put (put (put (put (put (put (put (put (put (put (fr0 [x0, x1, x2]) 6 (Value.bool false)) 7 x0) 8 v1) 9 v1) 10 r2.1) 11 r4.1) 12 v5) 13 x2) 14 x0) 15 v6) 16 v7) 17 v8) 18 x1) 19 x0) 20 v9) 21 v10) 22 v11) 23 r12.1) 24 v13) 25 v14) H15)
  (R F.seqone_Seq_Tip_u64.f F.seqone_Seq_Tip_u64.b0 (put (put (put (put (put (put (put (fr0 [x0, x1, x2]) 6 (Value.bool false)) 7 x0) 8 v1) 9 v1) 10 r2.1) 11 r4.1) 12 v5) r4.2) :=
  by rw [← obd_is]; exact call_den (fn := Tryd.f48) (by kernel_rfl) (fun _ _ => rfl) (by kernel_rfl) [3] (by kernel_rfl)
theorem F.seqone_Seq_Tip_u64.e0 (a : Fr) (H : Heap) : R F.seqone_Seq_Tip_u64.f F.seqone_Seq_Tip_u64.b0 a H =
  some (Value.bool true, H) :=
  run_den [3] (by kernel_rfl)

theorem F.seqone_Seq_may_u64.e (x0 x1 x2 : Value) (H : Heap) : C F.seqone_Seq_may_u64 [x0, x1, x2] H =
  (abin P BinOp.neq T.p_seqone_Seq_u64 (Operand.tmp 7) (Operand.const (Value.pointer none)) x0 (Value.pointer none)).bind fun v1 =>
  (gd v1 true H (some (x2, H))).bind fun r2 =>
  (gd v1 true r2.2 ((abin P BinOp.neq T.p_api_Frame_u64 (Operand.tmp 10) (Operand.const (Value.pointer none)) r2.1 (Value.pointer none)).bind fun v3 => some (v3, r2.2))).bind fun r4 =>
  (apick v1 r4.1 (Value.bool false)).bind fun v5 =>
  (gd v5 true r4.2 (some (x1, r4.2))).bind fun r6 =>
  (gd v5 true r6.2 ((abin P BinOp.geq T.int (Operand.tmp 14) (Operand.const (Value.int IntKind.i64 0)) r6.1 (Value.int IntKind.i64 0)).bind fun v7 => some (v7, r6.2))).bind fun r8 =>
  (apick v5 r8.1 (Value.bool false)).bind fun v9 =>
  (gd v9 true r8.2 (some (x1, r8.2))).bind fun r10 =>
  (gd v9 true r10.2 (some (x0, r10.2))).bind fun r11 =>
  (gd v9 true r11.2 ((nilc r11.1).bind fun v12 => some (v12, r11.2))).bind fun r13 =>
  (gd v9 true r13.2 ((fadd 2 r13.1).bind fun v14 => some (v14, r13.2))).bind fun r15 =>
  (gd v9 true r15.2 ((fadd 3 r15.1).bind fun v16 => some (v16, r15.2))).bind fun r17 =>
  (gd v9 true r17.2 ((ld1 r17.2 r17.1).bind fun v18 => some (v18, r17.2))).bind fun r19 =>
  ifD (true) <|
  (gd v9 true r19.2 ((abin P BinOp.lss T.int (Operand.tmp 18) (Operand.tmp 23) r10.1 r19.1).bind fun v20 => some (v20, r19.2))).bind fun r21 =>
  (apick v9 r21.1 (Value.bool false)).bind fun v22 =>
  (gd v22 true r21.2 (some (x2, r21.2))).bind fun r23 =>
  (gd v22 true r23.2 ((nilc r23.1).bind fun v24 => some (v24, r23.2))).bind fun r25 =>
  (gd v22 true r25.2 ((fadd 1 r25.1).bind fun v26 => some (v26, r25.2))).bind fun r27 =>
  (gd v22 true r27.2 ((ld1 r27.2 r27.1).bind fun v28 => some (v28, r27.2))).bind fun r29 =>
  ifD (true) <|
  (gd v22 true r29.2 ((abin P BinOp.geq T.int (Operand.tmp 30) (Operand.const (Value.int IntKind.i64 1)) r29.1 (Value.int IntKind.i64 1)).bind fun v30 => some (v30, r29.2))).bind fun r31 =>
  (apick v22 r31.1 (Value.bool false)).bind fun v32 =>
  (gd v32 true r31.2 (some (x2, r31.2))).bind fun r33 =>
  (gd v32 true r33.2 ((nilc r33.1).bind fun v34 => some (v34, r33.2))).bind fun r35 =>
  (gd v32 true r35.2 ((fadd 1 r35.1).bind fun v36 => some (v36, r35.2))).bind fun r37 =>
  (gd v32 true r37.2 ((ld1 r37.2 r37.1).bind fun v38 => some (v38, r37.2))).bind fun r39 =>
  ifD (true) <|
  (gd v32 true r39.2 (some (x0, r39.2))).bind fun r40 =>
  (gd v32 true r40.2 ((nilc r40.1).bind fun v41 => some (v41, r40.2))).bind fun r42 =>
  (gd v32 true r42.2 ((fadd 2 r42.1).bind fun v43 => some (v43, r42.2))).bind fun r44 =>
  (gd v32 true r44.2 ((fadd 2 r44.1).bind fun v45 => some (v45, r44.2))).bind fun r46 =>
  (gd v32 true r46.2 ((ld1 r46.2 r46.1).bind fun v47 => some (v47, r46.2))).bind fun r48 =>
  ifD (true) <|
  (gd v32 true r48.2 ((abin P BinOp.leq T.int (Operand.tmp 37) (Operand.tmp 42) r39.1 r48.1).bind fun v49 => some (v49, r48.2))).bind fun r50 =>
  (apick v32 r50.1 (Value.bool false)).bind fun v51 =>
  some (v51, r50.2) :=
  by rw [← obd_is]; exact call_den (fn := Tryd.f119) (by kernel_rfl) (fun _ _ => rfl) (by kernel_rfl) [] (by kernel_rfl)

theorem F.seqone_Seq_fits_u64.e (x0 x1 : Value) (H : Heap) : C F.seqone_Seq_fits_u64 [x0, x1] H =
  (nilc x0).bind fun v1 =>
  (fadd 2 v1).bind fun v2 =>
  (fadd 2 v2).bind fun v3 =>
  (ld1 H v3).bind fun v4 =>
  ifD (true) <|
  (nilc x1).bind fun v5 =>
  (fadd 6 v5).bind fun v6 =>
  (ld1 H v6).bind fun v7 =>
  ifD (true) <|
  (nilc x1).bind fun v8 =>
  (fadd 1 v8).bind fun v9 =>
  (ld1 H v9).bind fun v10 =>
  ifD (true) <|
  (nilc x0).bind fun v11 =>
  (fadd 11 v11).bind fun v12 =>
  (ld1 H v12).bind fun v13 =>
  ifD (true) <|
  (C F.gate_Fits_u64 [v4, v7, v10, v13] H).bind fun r14 =>
  ifD (true) <|
  some (r14.1, r14.2) :=
  by rw [← obd_is]; exact call_den (fn := Tryd.f120) (by kernel_rfl) (fun _ _ => rfl) (by kernel_rfl) [] (by kernel_rfl)
end Go.Proofs.YtiehmpoanhacaaaDoor
