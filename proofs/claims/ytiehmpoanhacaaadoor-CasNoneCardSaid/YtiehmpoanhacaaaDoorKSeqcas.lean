/-
  What each function's code comes to in the abstract machine: written by program, each by the kernel's own reckoning; no condition.
-/
import Derived.Test.YtiehmpoanhacaaaDoorFn
import Derived.KernelRfl
set_option maxRecDepth 100000
set_option linter.unusedVariables false
set_option maxHeartbeats 1000000
namespace Go.Proofs.YtiehmpoanhacaaaDoor
open Go Go.Proofs.SakAm
noncomputable def F.seqcas_New_u32.c : Code := (Tryd.f78.body).getD .skip
noncomputable def F.seqcas_New_u32.c1 : Code := cr F.seqcas_New_u32.c
noncomputable def F.seqcas_New_u32.c2 : Code := cr F.seqcas_New_u32.c1
noncomputable def F.seqcas_New_u32.c3 : Code := cr F.seqcas_New_u32.c2
noncomputable def F.seqcas_New_u32.c4 : Code := cr F.seqcas_New_u32.c3
noncomputable def F.seqcas_New_u32.c5 : Code := cl F.seqcas_New_u32.c4
noncomputable def F.seqcas_New_u32.c6 : Code := cr F.seqcas_New_u32.c5
noncomputable def F.seqcas_New_u32.c7 : Code := cl F.seqcas_New_u32.c6
noncomputable def F.seqcas_New_u32.c8 : Code := cl F.seqcas_New_u32.c7
noncomputable def F.seqcas_New_u32.c9 : Code := cr F.seqcas_New_u32.c4
noncomputable def F.seqcas_New_u32.b0 : List Item := [.inLoop F.seqcas_New_u32.c8, .inBlock 0, .code F.seqcas_New_u32.c9]
theorem F.seqcas_New_u32.e (x0 x1 : Value) (H : Heap) : C F.seqcas_New_u32 [x0, x1] H =
  (C F.board_Board_Layout_u32 [x0] H).bind fun r1 =>
  (mkbox r1.2 none T.layout_Layout (Value.agg #[Value.int IntKind.i64 0, Value.int IntKind.i64 0, Value.int IntKind.i64 0, Value.int IntKind.i64 0, Value.int IntKind.u64 0, Value.slice none 0 0, Value.int IntKind.i64 0, Value.int IntKind.i64 0, Value.int IntKind.i64 0, Value.int IntKind.i64 0, Value.int IntKind.i64 0, Value.int IntKind.i64 0, Value.int IntKind.i64 0, Value.int IntKind.i64 0])).bind fun r2 =>
  (stA r2.2 14 r2.1 r1.1).bind fun H3 =>
  (fadd 0 r2.1).bind fun v4 =>
  (fadd 0 v4).bind fun v5 =>
  (ld1 H3 v5).bind fun v6 =>
  (abin P BinOp.neq T.int (Operand.tmp 11) (Operand.const (Value.int IntKind.i64 2)) v6 (Value.int IntKind.i64 2)).bind fun v7 =>
  condK v7
  (some (Value.pointer none, H3))
  ((fadd 0 r2.1).bind fun v8 =>
  (ldA (H3.reserve 11) 6 v8).bind fun v9 =>
  ifD (true) <|
  (ldA (H3.reserve 11) 14 r2.1).bind fun v10 =>
  ifD (true) <|
  (C F.gate_Ends [v10] (H3.reserve 11)).bind fun r11 =>
  ifD (tells (ldA r11.2 6 v8) v9 && true) <|
  (fadd 7 r2.1).bind fun v12 =>
  (ld1 r11.2 v12).bind fun v13 =>
  ifD (tells (ld1 (H3.reserve 11) v12) v13 && true) <|
  (fillL [Value.pointer none, Value.pointer none, Value.int IntKind.i64 0, Value.int IntKind.i64 0, Value.int IntKind.i64 0, Value.int IntKind.i64 0, Value.int IntKind.u64 0, Value.slice none 0 0, Value.slice none 0 0, Value.int IntKind.i64 0, Value.slice none 0 0] [(0, 1, x0), (1, 1, x1), (2, 6, v9), (8, 1, r11.1), (9, 1, v13)]).bind fun v14 =>
  (mkbox r11.2 (some (H3.next + 9)) T.seqcas_Seq_u32 (Value.agg (List.toArray v14))).bind fun r15 =>
  (fadd 0 r2.1).bind fun v16 =>
  (fadd 3 v16).bind fun v17 =>
  (ld1 r15.2 v17).bind fun v18 =>
  R F.seqcas_New_u32.f F.seqcas_New_u32.b0 (put (put (put (put (put (put (put (put (put (put (put (put (put (put (put (put (put (put (put (put (put (put (put (fr0 [x0, x1]) 4 (Value.pointer none)) 7 x0) 8 r1.1) 5 r2.1) 9 v4) 10 v5) 11 v6) 12 v7) 13 x0) 14 x1) 15 v8) 16 v9) 17 v10) 18 r11.1) 19 v12) 20 v13) 21 (Value.agg (List.toArray v14))) 22 r15.1) 6 r15.1) 23 v16) 24 v17) 25 v18) 26 (Value.int IntKind.i64 0)) r15.2) :=
  by rw [← obd_is]; exact call_den (fn := Tryd.f78) (by kernel_rfl) (fun _ _ => rfl) (by kernel_rfl) [] (by kernel_rfl)
theorem F.seqcas_New_u32.e0 (a : Fr) (H : Heap) : R F.seqcas_New_u32.f F.seqcas_New_u32.b0 a H =
  (abin P BinOp.lss T.int (Operand.tmp 26) (Operand.tmp 25) (a 26) (a 25)).bind fun v19 =>
  condK v19
  ((nilc (a 6)).bind fun v20 =>
  (fadd 10 v20).bind fun v21 =>
  (ld1 (H.reserve 14) v21).bind fun v22 =>
  ifD (true) <|
  (fadd 0 (a 5)).bind fun v23 =>
  (ldA (H.reserve 14) 6 v23).bind fun v24 =>
  ifD (true) <|
  (C F.conf_Start [v24] (H.reserve 14)).bind fun r25 =>
  ifD (tells (ld1 r25.2 v21) v22 && true) <|
  (C F.wide_Of_u32 [r25.1] r25.2).bind fun r26 =>
  ifD (tells (ld1 r26.2 v21) v22 && true) <|
  (fillL (reps [Value.int IntKind.u32 0] 1) [(0, 1, r26.1)]).bind fun v27 =>
  (mkrow r26.2 (some (H.next + 9)) T.uint32 1 v27).bind fun r28 =>
  (aappend r28.2 T.uint32 1 4 v22 r28.1).bind fun r29 =>
  ifD (true) <|
  (nilc (a 6)).bind fun v30 =>
  (fadd 10 v30).bind fun v31 =>
  (st1 r29.2 v31 r29.1).bind fun H32 =>
  ifD (true) <|
  (abin P BinOp.add T.int (Operand.tmp 26) (Operand.const (Value.int IntKind.i64 1)) (a 26) (Value.int IntKind.i64 1)).bind fun v33 =>
  R F.seqcas_New_u32.f F.seqcas_New_u32.b0 (put (put (put (put (put (put (put (put (put (put (put (put (put (put (put (put a 27 v19) 28 (a 6)) 29 (a 6)) 30 v20) 31 v21) 32 v22) 33 v23) 34 v24) 35 r25.1) 36 r26.1) 37 r28.1) 38 r29.1) 39 v30) 40 v31) 41 v33) 26 v33) H32)
  (some ((a 6), H)) :=
  by rw [← obd_is]; exact run_den [] (by kernel_rfl)

noncomputable def F.seqcas_Seq_Claim_u32.c : Code := (Tryd.f79.body).getD .skip
noncomputable def F.seqcas_Seq_Claim_u32.c1 : Code := cr F.seqcas_Seq_Claim_u32.c
noncomputable def F.seqcas_Seq_Claim_u32.c2 : Code := cl F.seqcas_Seq_Claim_u32.c1
noncomputable def F.seqcas_Seq_Claim_u32.c3 : Code := cr F.seqcas_Seq_Claim_u32.c2
noncomputable def F.seqcas_Seq_Claim_u32.c4 : Code := cr F.seqcas_Seq_Claim_u32.c3
noncomputable def F.seqcas_Seq_Claim_u32.c5 : Code := cr F.seqcas_Seq_Claim_u32.c4
noncomputable def F.seqcas_Seq_Claim_u32.c6 : Code := cr F.seqcas_Seq_Claim_u32.c5
noncomputable def F.seqcas_Seq_Claim_u32.c7 : Code := cr F.seqcas_Seq_Claim_u32.c6
noncomputable def F.seqcas_Seq_Claim_u32.c8 : Code := cr F.seqcas_Seq_Claim_u32.c7
noncomputable def F.seqcas_Seq_Claim_u32.c9 : Code := cr F.seqcas_Seq_Claim_u32.c8
noncomputable def F.seqcas_Seq_Claim_u32.b0 : List Item := [.code F.seqcas_Seq_Claim_u32.c9, .inScope F.seqcas_Seq_Claim_u32.c2]
theorem F.seqcas_Seq_Claim_u32.e (x0 x1 x2 : Value) (H : Heap) : C F.seqcas_Seq_Claim_u32 [x0, x1, x2] H =
  (C F.seqcas_Seq_may_u32 [x0, x1, x2] H).bind fun r1 =>
  (aun P UnOp.not r1.1).bind fun v2 =>
  condK v2
  (some (Value.bool true, r1.2))
  ((nilc x2).bind fun v3 =>
  (fadd 3 v3).bind fun v4 =>
  (ld1 r1.2 v4).bind fun v5 =>
  (abin P BinOp.eql T.int (Operand.tmp 15) (Operand.const (Value.int IntKind.i64 1)) v5 (Value.int IntKind.i64 1)).bind fun v6 =>
  condK v6
  ((nilc x0).bind fun v7 =>
  (fadd 0 v7).bind fun v8 =>
  (ld1 r1.2 v8).bind fun v9 =>
  ifD (true) <|
  (nilc x0).bind fun v10 =>
  (fadd 8 v10).bind fun v11 =>
  (ld1 r1.2 v11).bind fun v12 =>
  ifD (true) <|
  (C F.gate_Scan_u32 [v9, x1, v12, x2] r1.2).bind fun r13 =>
  ifD (true) <|
  condK r13.1
  ((nilc x0).bind fun v14 =>
  (fadd 10 v14).bind fun v15 =>
  (ld1 r13.2 v15).bind fun v16 =>
  ifD (true) <|
  (nilc x2).bind fun v17 =>
  (fadd 7 v17).bind fun v18 =>
  (ld1 r13.2 v18).bind fun v19 =>
  ifD (true) <|
  (sadd 1 v16 x1).bind fun v20 =>
  (st1 r13.2 v20 v19).bind fun H21 =>
  ifD (true) <|
  (C F.seqcas_Seq_next_u32 [x0, x1, x2, Value.int IntKind.i64 0] H21).bind fun r22 =>
  (nilc x2).bind fun v23 =>
  (fadd 3 v23).bind fun v24 =>
  (st1 r22.2 v24 r22.1).bind fun H25 =>
  R F.seqcas_Seq_Claim_u32.f F.seqcas_Seq_Claim_u32.b0 (put (put (put (put (put (put (put (put (put (put (put (put (put (put (put (put (put (put (put (put (put (put (put (put (put (put (put (put (put (put (put (put (put (put (put (put (put (put (put (put (fr0 [x0, x1, x2]) 6 (Value.bool false)) 7 x0) 8 x1) 9 x2) 10 r1.1) 11 v2) 12 x2) 13 v3) 14 v4) 15 v5) 17 v6) 16 v6) 43 x0) 44 v7) 45 v8) 46 v9) 47 x1) 48 x0) 49 v10) 50 v11) 51 v12) 52 x2) 53 r13.1) 54 x0) 55 v14) 56 v15) 57 v16) 58 x1) 59 x2) 60 v17) 61 v18) 62 v19) 63 v20) 64 x2) 65 x0) 66 x1) 67 x2) 68 r22.1) 69 v23) 70 v24) H25)
  (R F.seqcas_Seq_Claim_u32.f F.seqcas_Seq_Claim_u32.b0 (put (put (put (put (put (put (put (put (put (put (put (put (put (put (put (put (put (put (put (put (put (put (put (fr0 [x0, x1, x2]) 6 (Value.bool false)) 7 x0) 8 x1) 9 x2) 10 r1.1) 11 v2) 12 x2) 13 v3) 14 v4) 15 v5) 17 v6) 16 v6) 43 x0) 44 v7) 45 v8) 46 v9) 47 x1) 48 x0) 49 v10) 50 v11) 51 v12) 52 x2) 53 r13.1) r13.2))
  ((abin P BinOp.eql T.int (Operand.tmp 15) (Operand.const (Value.int IntKind.i64 2)) v5 (Value.int IntKind.i64 2)).bind fun v26 =>
  condK v26
  ((nilc x2).bind fun v27 =>
  (fadd 3 v27).bind fun v28 =>
  (st1 r1.2 v28 (Value.int IntKind.i64 0)).bind fun H29 =>
  (nilc x0).bind fun v30 =>
  (fadd 0 v30).bind fun v31 =>
  (ld1 H29 v31).bind fun v32 =>
  ifD (true) <|
  (nilc x0).bind fun v33 =>
  (fadd 9 v33).bind fun v34 =>
  (ld1 H29 v34).bind fun v35 =>
  ifD (true) <|
  (nilc x2).bind fun v36 =>
  (fadd 6 v36).bind fun v37 =>
  (ld1 H29 v37).bind fun v38 =>
  ifD (true) <|
  (nilc x2).bind fun v39 =>
  (fadd 6 v39).bind fun v40 =>
  (ld1 H29 v40).bind fun v41 =>
  ifD (true) <|
  (nilc x2).bind fun v42 =>
  (fadd 1 v42).bind fun v43 =>
  (ld1 H29 v43).bind fun v44 =>
  ifD (true) <|
  (C F.wide_Add_u32 [v41, v44] H29).bind fun r45 =>
  ifD (tells (ld1 r45.2 v37) v38 && (tells (ld1 r45.2 v34) v35 && (tells (ld1 r45.2 v31) v32 && true))) <|
  (C F.board_Board_Swap_u32 [v32, x1, v35, v38, r45.1] r45.2).bind fun r46 =>
  ifD (true) <|
  (aun P UnOp.not r46.1).bind fun v47 =>
  condK v47
  (some (Value.bool false, r46.2))
  ((nilc x0).bind fun v48 =>
  (fadd 1 v48).bind fun v49 =>
  (ld1 r46.2 v49).bind fun v50 =>
  ifD (true) <|
  (nilc x2).bind fun v51 =>
  (fadd 1 v51).bind fun v52 =>
  (ld1 r46.2 v52).bind fun v53 =>
  ifD (true) <|
  (nilc x2).bind fun v54 =>
  (fadd 6 v54).bind fun v55 =>
  (ld1 r46.2 v55).bind fun v56 =>
  ifD (true) <|
  (C F.wide_Up_u32 [v56] r46.2).bind fun r57 =>
  ifD (tells (ld1 r57.2 v52) v53 && (tells (ld1 r57.2 v49) v50 && true)) <|
  (fillL [Value.int IntKind.i64 0, Value.int IntKind.i64 0, Value.int IntKind.i64 0, Value.int IntKind.i64 0, Value.int IntKind.u64 0, Value.int IntKind.i64 0, Value.slice none 0 0] [(0, 1, Value.int IntKind.i64 3), (1, 1, x1), (3, 1, v53), (4, 1, r57.1)]).bind fun v58 =>
  (C F.event_Log_Note [v50, Value.agg (List.toArray v58)] r57.2).bind fun r59 =>
  ifD (true) <|
  (nilc x0).bind fun v60 =>
  (fadd 1 v60).bind fun v61 =>
  (ld1 r59.2 v61).bind fun v62 =>
  (fillL [Value.int IntKind.i64 0, Value.int IntKind.i64 0, Value.int IntKind.i64 0, Value.int IntKind.i64 0, Value.int IntKind.u64 0, Value.int IntKind.i64 0, Value.slice none 0 0] [(0, 1, Value.int IntKind.i64 4), (1, 1, x1)]).bind fun v63 =>
  (C F.event_Log_Note [v62, Value.agg (List.toArray v63)] r59.2).bind fun r64 =>
  some (Value.bool true, r64.2)))
  ((nilc x0).bind fun v65 =>
  (fadd 0 v65).bind fun v66 =>
  (ld1 r1.2 v66).bind fun v67 =>
  ifD (true) <|
  (nilc x0).bind fun v68 =>
  (fadd 9 v68).bind fun v69 =>
  (ld1 r1.2 v69).bind fun v70 =>
  ifD (true) <|
  (C F.board_Board_Load_u32 [v67, x1, v70] r1.2).bind fun r71 =>
  ifD (true) <|
  (nilc x2).bind fun v72 =>
  (fadd 6 v72).bind fun v73 =>
  (st1 r71.2 v73 r71.1).bind fun H74 =>
  ifD (true) <|
  (nilc x2).bind fun v75 =>
  (fadd 4 v75).bind fun v76 =>
  (st1 H74 v76 (Value.int IntKind.i64 0)).bind fun H77 =>
  ifD (true) <|
  (C F.seqcas_Seq_next_u32 [x0, x1, x2, Value.int IntKind.i64 1] H77).bind fun r78 =>
  (nilc x2).bind fun v79 =>
  (fadd 3 v79).bind fun v80 =>
  (st1 r78.2 v80 r78.1).bind fun H81 =>
  some (Value.bool false, H81)))) :=
  by rw [← obd_is]; exact call_den (fn := Tryd.f79) (by kernel_rfl) (fun _ _ => rfl) (by kernel_rfl) [12] (by kernel_rfl)
theorem F.seqcas_Seq_Claim_u32.e0 (a : Fr) (H : Heap) : R F.seqcas_Seq_Claim_u32.f F.seqcas_Seq_Claim_u32.b0 a H =
  some (Value.bool false, H) :=
  run_den [12] (by kernel_rfl)

theorem F.seqcas_Seq_Publish_u32.e (x0 x1 x2 : Value) (H : Heap) : C F.seqcas_Seq_Publish_u32 [x0, x1, x2] H =
  (C F.seqcas_Seq_may_u32 [x0, x1, x2] H).bind fun r1 =>
  (aun P UnOp.not r1.1).bind fun v2 =>
  condK v2
  (some (Value.bool true, r1.2))
  ((nilc x2).bind fun v3 =>
  (fadd 6 v3).bind fun v4 =>
  (ld1 r1.2 v4).bind fun v5 =>
  ifD (true) <|
  (nilc x2).bind fun v6 =>
  (fadd 4 v6).bind fun v7 =>
  (ld1 r1.2 v7).bind fun v8 =>
  ifD (true) <|
  (C F.wide_Add_u32 [v5, v8] r1.2).bind fun r9 =>
  ifD (true) <|
  (nilc x0).bind fun v10 =>
  (fadd 0 v10).bind fun v11 =>
  (ld1 r9.2 v11).bind fun v12 =>
  (C F.mark_Publish_u32 [v12, x1, x2] r9.2).bind fun r13 =>
  (nilc x0).bind fun v14 =>
  (fadd 1 v14).bind fun v15 =>
  (ld1 r13.2 v15).bind fun v16 =>
  ifD (true) <|
  (C F.wide_Up_u32 [r9.1] r13.2).bind fun r17 =>
  ifD (tells (ld1 r17.2 v15) v16 && true) <|
  (fillL [Value.int IntKind.i64 0, Value.int IntKind.i64 0, Value.int IntKind.i64 0, Value.int IntKind.i64 0, Value.int IntKind.u64 0, Value.int IntKind.i64 0, Value.slice none 0 0] [(0, 1, Value.int IntKind.i64 5), (1, 1, x1), (3, 1, Value.int IntKind.i64 1), (4, 1, r17.1)]).bind fun v18 =>
  (C F.event_Log_Note [v16, Value.agg (List.toArray v18)] r17.2).bind fun r19 =>
  ifD (true) <|
  some (r13.1, r19.2)) :=
  by rw [← obd_is]; exact call_den (fn := Tryd.f80) (by kernel_rfl) (fun _ _ => rfl) (by kernel_rfl) [] (by kernel_rfl)

theorem F.seqcas_Seq_Tip_u32.e (x0 x1 x2 : Value) (H : Heap) : C F.seqcas_Seq_Tip_u32 [x0, x1, x2] H =
  (abin P BinOp.eql T.p_seqcas_Seq_u32 (Operand.tmp 7) (Operand.const (Value.pointer none)) x0 (Value.pointer none)).bind fun v1 =>
  (gd v1 false H (some (x2, H))).bind fun r2 =>
  (gd v1 false r2.2 ((abin P BinOp.eql T.p_api_Frame_u32 (Operand.tmp 10) (Operand.const (Value.pointer none)) r2.1 (Value.pointer none)).bind fun v3 => some (v3, r2.2))).bind fun r4 =>
  (apick v1 (Value.bool true) r4.1).bind fun v5 =>
  (gd v5 false r4.2 (some (x0, r4.2))).bind fun r6 =>
  (gd v5 false r6.2 ((nilc r6.1).bind fun v7 => some (v7, r6.2))).bind fun r8 =>
  (gd v5 false r8.2 ((fadd 0 r8.1).bind fun v9 => some (v9, r8.2))).bind fun r10 =>
  (gd v5 false r10.2 ((ld1 r10.2 r10.1).bind fun v11 => some (v11, r10.2))).bind fun r12 =>
  (gd v5 false r12.2 (some (x1, r12.2))).bind fun r13 =>
  (gd v5 false r13.2 (some (x2, r13.2))).bind fun r14 =>
  (gd v5 false r14.2 ((C F.mark_Seek_u32 [r12.1, r13.1, r14.1] r14.2).bind fun r15 => some (r15.1, r15.2))).bind fun r16 =>
  (apick v5 (Value.bool true) r16.1).bind fun v17 =>
  some (v17, r16.2) :=
  by rw [← obd_is]; exact call_den (fn := Tryd.f81) (by kernel_rfl) (fun _ _ => rfl) (by kernel_rfl) [] (by kernel_rfl)

theorem F.seqcas_Seq_may_u32.e (x0 x1 x2 : Value) (H : Heap) : C F.seqcas_Seq_may_u32 [x0, x1, x2] H =
  (abin P BinOp.neq T.p_seqcas_Seq_u32 (Operand.tmp 7) (Operand.const (Value.pointer none)) x0 (Value.pointer none)).bind fun v1 =>
  (gd v1 true H (some (x2, H))).bind fun r2 =>
  (gd v1 true r2.2 ((abin P BinOp.neq T.p_api_Frame_u32 (Operand.tmp 10) (Operand.const (Value.pointer none)) r2.1 (Value.pointer none)).bind fun v3 => some (v3, r2.2))).bind fun r4 =>
  (apick v1 r4.1 (Value.bool false)).bind fun v5 =>
  (gd v5 true r4.2 (some (x1, r4.2))).bind fun r6 =>
  (gd v5 true r6.2 ((abin P BinOp.geq T.int (Operand.tmp 14) (Operand.const (Value.int IntKind.i64 0)) r6.1 (Value.int IntKind.i64 0)).bind fun v7 => some (v7, r6.2))).bind fun r8 =>
  (apick v5 r8.1 (Value.bool false)).bind fun v9 =>
  (gd v9 true r8.2 (some (x1, r8.2))).bind fun r10 =>
  (gd v9 true r10.2 (some (x0, r10.2))).bind fun r11 =>
  (gd v9 true r11.2 ((nilc r11.1).bind fun v12 => some (v12, r11.2))).bind fun r13 =>
  (gd v9 true r13.2 ((fadd 2 r13.1).bind fun v14 => some (v14, r13.2))).bind fun r15 =>
  (gd v9 true r15.2 ((fadd 3 r15.1).bind fun v16 => some (v16, r15.2))).bind fun r17 =>
  (gd v9 true r17.2 ((ld1 r17.2 r17.1).bind fun v18 => some (v18, r17.2))).bind fun r19 =>
  ifD (true) <|
  (gd v9 true r19.2 ((abin P BinOp.lss T.int (Operand.tmp 18) (Operand.tmp 23) r10.1 r19.1).bind fun v20 => some (v20, r19.2))).bind fun r21 =>
  (apick v9 r21.1 (Value.bool false)).bind fun v22 =>
  (gd v22 true r21.2 (some (x2, r21.2))).bind fun r23 =>
  (gd v22 true r23.2 ((nilc r23.1).bind fun v24 => some (v24, r23.2))).bind fun r25 =>
  (gd v22 true r25.2 ((fadd 1 r25.1).bind fun v26 => some (v26, r25.2))).bind fun r27 =>
  (gd v22 true r27.2 ((ld1 r27.2 r27.1).bind fun v28 => some (v28, r27.2))).bind fun r29 =>
  ifD (true) <|
  (gd v22 true r29.2 ((abin P BinOp.geq T.int (Operand.tmp 30) (Operand.const (Value.int IntKind.i64 1)) r29.1 (Value.int IntKind.i64 1)).bind fun v30 => some (v30, r29.2))).bind fun r31 =>
  (apick v22 r31.1 (Value.bool false)).bind fun v32 =>
  (gd v32 true r31.2 (some (x2, r31.2))).bind fun r33 =>
  (gd v32 true r33.2 ((nilc r33.1).bind fun v34 => some (v34, r33.2))).bind fun r35 =>
  (gd v32 true r35.2 ((fadd 1 r35.1).bind fun v36 => some (v36, r35.2))).bind fun r37 =>
  (gd v32 true r37.2 ((ld1 r37.2 r37.1).bind fun v38 => some (v38, r37.2))).bind fun r39 =>
  ifD (true) <|
  (gd v32 true r39.2 (some (x0, r39.2))).bind fun r40 =>
  (gd v32 true r40.2 ((nilc r40.1).bind fun v41 => some (v41, r40.2))).bind fun r42 =>
  (gd v32 true r42.2 ((fadd 2 r42.1).bind fun v43 => some (v43, r42.2))).bind fun r44 =>
  (gd v32 true r44.2 ((fadd 2 r44.1).bind fun v45 => some (v45, r44.2))).bind fun r46 =>
  (gd v32 true r46.2 ((ld1 r46.2 r46.1).bind fun v47 => some (v47, r46.2))).bind fun r48 =>
  ifD (true) <|
  (gd v32 true r48.2 ((abin P BinOp.leq T.int (Operand.tmp 37) (Operand.tmp 42) r39.1 r48.1).bind fun v49 => some (v49, r48.2))).bind fun r50 =>
  (apick v32 r50.1 (Value.bool false)).bind fun v51 =>
  some (v51, r50.2) :=
  by rw [← obd_is]; exact call_den (fn := Tryd.f144) (by kernel_rfl) (fun _ _ => rfl) (by kernel_rfl) [] (by kernel_rfl)

theorem F.seqcas_Seq_next_u32.e (x0 x1 x2 x3 : Value) (H : Heap) : C F.seqcas_Seq_next_u32 [x0, x1, x2, x3] H =
  (nilc x0).bind fun v1 =>
  (fadd 2 v1).bind fun v2 =>
  (fadd 2 v2).bind fun v3 =>
  (ld1 H v3).bind fun v4 =>
  ifD (true) <|
  (nilc x2).bind fun v5 =>
  (fadd 6 v5).bind fun v6 =>
  (ld1 H v6).bind fun v7 =>
  ifD (true) <|
  (nilc x2).bind fun v8 =>
  (fadd 1 v8).bind fun v9 =>
  (ld1 H v9).bind fun v10 =>
  ifD (true) <|
  (nilc x0).bind fun v11 =>
  (fadd 10 v11).bind fun v12 =>
  (ld1 H v12).bind fun v13 =>
  ifD (true) <|
  (sadd 1 v13 x1).bind fun v14 =>
  (ld1 H v14).bind fun v15 =>
  ifD (true) <|
  (C F.gate_Fits_u32 [v4, v7, v10, v15] H).bind fun r16 =>
  ifD (true) <|
  condK r16.1
  (some (Value.int IntKind.i64 2, r16.2))
  (some (x3, r16.2)) :=
  by rw [← obd_is]; exact call_den (fn := Tryd.f145) (by kernel_rfl) (fun _ _ => rfl) (by kernel_rfl) [] (by kernel_rfl)
end Go.Proofs.YtiehmpoanhacaaaDoor
