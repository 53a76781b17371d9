/-
  What each function's code comes to in the abstract machine: written by program, each by the kernel's own reckoning; no condition.
-/
import Derived.Test.YtiehmpoanhacaaaFn
import Derived.KernelRfl
set_option maxRecDepth 100000
set_option linter.unusedVariables false
set_option maxHeartbeats 1000000
namespace Go.Proofs.Ytiehmpoanhacaaa
open Go Go.Proofs.SakAm
theorem F.sakialaw12_BoardNone.e (x0 : Value) (H : Heap) : C F.sakialaw12_BoardNone [x0] H =
  (mkbox H none T.sakialaw12_Do x0).bind fun r1 =>
  (ldA r1.2 6 r1.1).bind fun v2 =>
  (C F.sakialaw12_small [Value.pointer none, v2] r1.2).bind fun r3 =>
  (aext 0 r3.1).bind fun v4 =>
  (aext 1 r3.1).bind fun v5 =>
  (ldA r3.2 6 r1.1).bind fun v6 =>
  (C F.sakialaw12_great [Value.pointer none, v6] r3.2).bind fun r7 =>
  (aext 0 r7.1).bind fun v8 =>
  (aext 1 r7.1).bind fun v9 =>
  (fillL [Value.int IntKind.i64 0, Value.int IntKind.i64 0, Value.int IntKind.i64 0, Value.int IntKind.i64 0, Value.int IntKind.u64 0, Value.slice none 0 0, Value.int IntKind.i64 0, Value.int IntKind.i64 0, Value.int IntKind.i64 0, Value.int IntKind.i64 0, Value.int IntKind.i64 0, Value.int IntKind.i64 0, Value.int IntKind.i64 0, Value.int IntKind.i64 0] []).bind fun v10 =>
  (C F.board_New_u32 [Value.agg (List.toArray v10)] r7.2).bind fun r11 =>
  (abin P BinOp.eql T.p_board_Board_u32 (Operand.tmp 24) (Operand.const (Value.pointer none)) r11.1 (Value.pointer none)).bind fun v12 =>
  (gd v12 true r11.2 (some (v4, r11.2))).bind fun r13 =>
  (gd v12 true r13.2 ((abin P BinOp.eql T.uint64 (Operand.tmp 27) (Operand.const (Value.int IntKind.u64 0)) r13.1 (Value.int IntKind.u64 0)).bind fun v14 => some (v14, r13.2))).bind fun r15 =>
  (apick v12 r15.1 (Value.bool false)).bind fun v16 =>
  (gd v16 true r15.2 (some (v5, r15.2))).bind fun r17 =>
  (gd v16 true r17.2 ((aun P UnOp.not r17.1).bind fun v18 => some (v18, r17.2))).bind fun r19 =>
  (apick v16 r19.1 (Value.bool false)).bind fun v20 =>
  (gd v20 true r19.2 (some (v8, r19.2))).bind fun r21 =>
  (gd v20 true r21.2 ((abin P BinOp.eql T.uint64 (Operand.tmp 35) (Operand.const (Value.int IntKind.u64 0)) r21.1 (Value.int IntKind.u64 0)).bind fun v22 => some (v22, r21.2))).bind fun r23 =>
  (apick v20 r23.1 (Value.bool false)).bind fun v24 =>
  (gd v24 true r23.2 (some (v9, r23.2))).bind fun r25 =>
  (gd v24 true r25.2 ((aun P UnOp.not r25.1).bind fun v26 => some (v26, r25.2))).bind fun r27 =>
  (apick v24 r27.1 (Value.bool false)).bind fun v28 =>
  (gd v28 true r27.2 (some (Value.pointer none, r27.2))).bind fun r29 =>
  (gd v28 true r29.2 ((C F.board_Board_Len_u32 [r29.1] r29.2).bind fun r30 => some (r30.1, r30.2))).bind fun r31 =>
  (gd v28 true r31.2 ((abin P BinOp.eql T.int (Operand.tmp 44) (Operand.const (Value.int IntKind.i64 0)) r31.1 (Value.int IntKind.i64 0)).bind fun v32 => some (v32, r31.2))).bind fun r33 =>
  (apick v28 r33.1 (Value.bool false)).bind fun v34 =>
  (gd v34 true r33.2 (some (Value.pointer none, r33.2))).bind fun r35 =>
  (gd v34 true r35.2 ((C F.board_Board_Log_u64 [r35.1] r35.2).bind fun r36 => some (r36.1, r36.2))).bind fun r37 =>
  (gd v34 true r37.2 ((alen r37.1).bind fun v38 => some (v38, r37.2))).bind fun r39 =>
  (gd v34 true r39.2 ((abin P BinOp.eql T.int (Operand.tmp 50) (Operand.const (Value.int IntKind.i64 0)) r39.1 (Value.int IntKind.i64 0)).bind fun v40 => some (v40, r39.2))).bind fun r41 =>
  (apick v34 r41.1 (Value.bool false)).bind fun v42 =>
  (gd v42 true r41.2 (some (Value.pointer none, r41.2))).bind fun r43 =>
  (gd v42 true r43.2 ((fadd 2 r1.1).bind fun v44 => some (v44, r43.2))).bind fun r45 =>
  (gd v42 true r45.2 ((ld1 r45.2 r45.1).bind fun v46 => some (v46, r45.2))).bind fun r47 =>
  (gd v42 true r47.2 ((C F.board_Board_Peek_u32 [r43.1, r47.1] r47.2).bind fun r48 => some (r48.1, r48.2))).bind fun r49 =>
  (gd v42 true r49.2 ((abin P BinOp.eql T.uint64 (Operand.tmp 57) (Operand.const (Value.int IntKind.u64 0)) r49.1 (Value.int IntKind.u64 0)).bind fun v50 => some (v50, r49.2))).bind fun r51 =>
  (apick v42 r51.1 (Value.bool false)).bind fun v52 =>
  (gd v52 true r51.2 (some (Value.pointer none, r51.2))).bind fun r53 =>
  (gd v52 true r53.2 ((fadd 2 r1.1).bind fun v54 => some (v54, r53.2))).bind fun r55 =>
  (gd v52 true r55.2 ((ld1 r55.2 r55.1).bind fun v56 => some (v56, r55.2))).bind fun r57 =>
  (gd v52 true r57.2 ((C F.board_Board_Data_u64 [r53.1, r57.1] r57.2).bind fun r58 => some (r58.1, r58.2))).bind fun r59 =>
  (gd v52 true r59.2 ((abin P BinOp.eql T.int (Operand.tmp 64) (Operand.const (Value.int IntKind.i64 0)) r59.1 (Value.int IntKind.i64 0)).bind fun v60 => some (v60, r59.2))).bind fun r61 =>
  (apick v52 r61.1 (Value.bool false)).bind fun v62 =>
  (gd v62 true r61.2 (some (Value.pointer none, r61.2))).bind fun r63 =>
  (gd v62 true r63.2 ((C F.board_Board_Cost_u32 [r63.1, Value.int IntKind.i64 0] r63.2).bind fun r64 => some (r64.1, r64.2))).bind fun r65 =>
  (gd v62 true r65.2 ((abin P BinOp.eql T.complex128 (Operand.tmp 69) (Operand.const (Value.complex FloatKind.f64 0 0)) r65.1 (Value.complex FloatKind.f64 0 0)).bind fun v66 => some (v66, r65.2))).bind fun r67 =>
  (apick v62 r67.1 (Value.bool false)).bind fun v68 =>
  (gd v68 true r67.2 (some (Value.pointer none, r67.2))).bind fun r69 =>
  (gd v68 true r69.2 ((C F.board_Board_Layout_u64 [r69.1] r69.2).bind fun r70 => some (r70.1, r70.2))).bind fun r71 =>
  (gd v68 true r71.2 ((apart false 13 1 r71.1).bind fun v72 => some (v72, r71.2))).bind fun r73 =>
  (gd v68 true r73.2 ((abin P BinOp.eql T.int (Operand.tmp 75) (Operand.const (Value.int IntKind.i64 0)) r73.1 (Value.int IntKind.i64 0)).bind fun v74 => some (v74, r73.2))).bind fun r75 =>
  (apick v68 r75.1 (Value.bool false)).bind fun v76 =>
  (gd v76 true r75.2 ((C F.sakialaw12_live [] r75.2).bind fun r77 => some (r77.1, r77.2))).bind fun r78 =>
  (apick v76 r78.1 (Value.bool false)).bind fun v79 =>
  some (v79, r78.2) :=
  call_den (fn := Try.f3) (by kernel_rfl) (fun _ _ => rfl) (by kernel_rfl) [] (by kernel_rfl)

noncomputable def F.sakialaw12_small.c : Code := (Try.f4.body).getD .skip
noncomputable def F.sakialaw12_small.c1 : Code := cr F.sakialaw12_small.c
noncomputable def F.sakialaw12_small.c2 : Code := cr F.sakialaw12_small.c1
noncomputable def F.sakialaw12_small.b0 : List Item := [.code F.sakialaw12_small.c2]
theorem F.sakialaw12_small.e (x0 x1 : Value) (H : Heap) : C F.sakialaw12_small [x0, x1] H =
  (mkbox H none T.sakialaw12_Do x1).bind fun r1 =>
  (fadd 1 r1.1).bind fun v2 =>
  (ld1 r1.2 v2).bind fun v3 =>
  (abin P BinOp.eql T.int (Operand.tmp 7) (Operand.const (Value.int IntKind.i64 1)) v3 (Value.int IntKind.i64 1)).bind fun v4 =>
  condK v4
  ((fadd 0 r1.1).bind fun v5 =>
  (ld1 r1.2 v5).bind fun v6 =>
  (fadd 2 r1.1).bind fun v7 =>
  (ld1 r1.2 v7).bind fun v8 =>
  (C F.board_Board_Load_u32 [x0, v6, v8] r1.2).bind fun r9 =>
  (aconv P T.uint32 T.uint64 r9.1).bind fun v10 =>
  some (Value.tuple (List.toArray [v10, Value.bool false]), r9.2))
  ((abin P BinOp.eql T.int (Operand.tmp 7) (Operand.const (Value.int IntKind.i64 2)) v3 (Value.int IntKind.i64 2)).bind fun v11 =>
  condK v11
  ((fadd 0 r1.1).bind fun v12 =>
  (ld1 r1.2 v12).bind fun v13 =>
  (fadd 2 r1.1).bind fun v14 =>
  (ld1 r1.2 v14).bind fun v15 =>
  (fadd 5 r1.1).bind fun v16 =>
  (ld1 r1.2 v16).bind fun v17 =>
  (aconv P T.uint64 T.uint32 v17).bind fun v18 =>
  (C F.board_Board_Store_u32 [x0, v13, v15, v18] r1.2).bind fun r19 =>
  R F.sakialaw12_small.f F.sakialaw12_small.b0 (put (put (put (put (put (put (put (put (put (put (put (put (put (put (put (put (put (put (fr0 [x0, x1]) 3 r1.1) 4 (Value.int IntKind.u64 0)) 5 (Value.bool false)) 6 v2) 7 v3) 9 v4) 8 v4) 18 v11) 17 v11) 19 x0) 20 v12) 21 v13) 22 v14) 23 v15) 24 v16) 25 v17) 26 v18) 27 r19.1) r19.2)
  ((abin P BinOp.eql T.int (Operand.tmp 7) (Operand.const (Value.int IntKind.i64 3)) v3 (Value.int IntKind.i64 3)).bind fun v20 =>
  condK v20
  ((fadd 0 r1.1).bind fun v21 =>
  (ld1 r1.2 v21).bind fun v22 =>
  (fadd 2 r1.1).bind fun v23 =>
  (ld1 r1.2 v23).bind fun v24 =>
  (fadd 3 r1.1).bind fun v25 =>
  (ld1 r1.2 v25).bind fun v26 =>
  (C F.board_Board_Add_u32 [x0, v22, v24, v26] r1.2).bind fun r27 =>
  (aconv P T.uint32 T.uint64 r27.1).bind fun v28 =>
  some (Value.tuple (List.toArray [v28, Value.bool false]), r27.2))
  ((abin P BinOp.eql T.int (Operand.tmp 7) (Operand.const (Value.int IntKind.i64 4)) v3 (Value.int IntKind.i64 4)).bind fun v29 =>
  condK v29
  ((fadd 0 r1.1).bind fun v30 =>
  (ld1 r1.2 v30).bind fun v31 =>
  (fadd 2 r1.1).bind fun v32 =>
  (ld1 r1.2 v32).bind fun v33 =>
  (fadd 4 r1.1).bind fun v34 =>
  (ld1 r1.2 v34).bind fun v35 =>
  (aconv P T.uint64 T.uint32 v35).bind fun v36 =>
  (fadd 5 r1.1).bind fun v37 =>
  (ld1 r1.2 v37).bind fun v38 =>
  (aconv P T.uint64 T.uint32 v38).bind fun v39 =>
  (C F.board_Board_Swap_u32 [x0, v31, v33, v36, v39] r1.2).bind fun r40 =>
  some (Value.tuple (List.toArray [Value.int IntKind.u64 0, r40.1]), r40.2))
  ((abin P BinOp.eql T.int (Operand.tmp 7) (Operand.const (Value.int IntKind.i64 6)) v3 (Value.int IntKind.i64 6)).bind fun v41 =>
  condK v41
  ((fadd 0 r1.1).bind fun v42 =>
  (ld1 r1.2 v42).bind fun v43 =>
  (fadd 2 r1.1).bind fun v44 =>
  (ld1 r1.2 v44).bind fun v45 =>
  (C F.board_Board_Read_u32 [x0, v43, v45] r1.2).bind fun r46 =>
  (aconv P T.uint32 T.uint64 r46.1).bind fun v47 =>
  some (Value.tuple (List.toArray [v47, Value.bool false]), r46.2))
  ((abin P BinOp.eql T.int (Operand.tmp 7) (Operand.const (Value.int IntKind.i64 7)) v3 (Value.int IntKind.i64 7)).bind fun v48 =>
  condK v48
  ((fadd 0 r1.1).bind fun v49 =>
  (ld1 r1.2 v49).bind fun v50 =>
  (fadd 2 r1.1).bind fun v51 =>
  (ld1 r1.2 v51).bind fun v52 =>
  (fadd 5 r1.1).bind fun v53 =>
  (ld1 r1.2 v53).bind fun v54 =>
  (aconv P T.uint64 T.uint32 v54).bind fun v55 =>
  (C F.board_Board_Write_u32 [x0, v50, v52, v55] r1.2).bind fun r56 =>
  R F.sakialaw12_small.f F.sakialaw12_small.b0 (put (put (put (put (put (put (put (put (put (put (put (put (put (put (put (put (put (put (put (put (put (put (put (put (put (put (fr0 [x0, x1]) 3 r1.1) 4 (Value.int IntKind.u64 0)) 5 (Value.bool false)) 6 v2) 7 v3) 9 v4) 8 v4) 18 v11) 17 v11) 29 v20) 28 v20) 40 v29) 39 v29) 54 v41) 53 v41) 63 v48) 62 v48) 64 x0) 65 v49) 66 v50) 67 v51) 68 v52) 69 v53) 70 v54) 71 v55) 72 r56.1) r56.2)
  ((abin P BinOp.eql T.int (Operand.tmp 7) (Operand.const (Value.int IntKind.i64 8)) v3 (Value.int IntKind.i64 8)).bind fun v57 =>
  condK v57
  ((fadd 0 r1.1).bind fun v58 =>
  (ld1 r1.2 v58).bind fun v59 =>
  (fadd 2 r1.1).bind fun v60 =>
  (ld1 r1.2 v60).bind fun v61 =>
  (C F.board_Board_Get_u32 [x0, v59, v61] r1.2).bind fun r62 =>
  (aconv P T.int T.uint64 r62.1).bind fun v63 =>
  some (Value.tuple (List.toArray [v63, Value.bool false]), r62.2))
  ((abin P BinOp.eql T.int (Operand.tmp 7) (Operand.const (Value.int IntKind.i64 9)) v3 (Value.int IntKind.i64 9)).bind fun v64 =>
  condK v64
  ((fadd 0 r1.1).bind fun v65 =>
  (ld1 r1.2 v65).bind fun v66 =>
  (fadd 2 r1.1).bind fun v67 =>
  (ld1 r1.2 v67).bind fun v68 =>
  (fadd 3 r1.1).bind fun v69 =>
  (ld1 r1.2 v69).bind fun v70 =>
  (C F.board_Board_Set_u32 [x0, v66, v68, v70] r1.2).bind fun r71 =>
  R F.sakialaw12_small.f F.sakialaw12_small.b0 (put (put (put (put (put (put (put (put (put (put (put (put (put (put (put (put (put (put (put (put (put (put (put (put (put (put (put (put (put (fr0 [x0, x1]) 3 r1.1) 4 (Value.int IntKind.u64 0)) 5 (Value.bool false)) 6 v2) 7 v3) 9 v4) 8 v4) 18 v11) 17 v11) 29 v20) 28 v20) 40 v29) 39 v29) 54 v41) 53 v41) 63 v48) 62 v48) 74 v57) 73 v57) 83 v64) 82 v64) 84 x0) 85 v65) 86 v66) 87 v67) 88 v68) 89 v69) 90 v70) 91 r71.1) r71.2)
  (R F.sakialaw12_small.f F.sakialaw12_small.b0 (put (put (put (put (put (put (put (put (put (put (put (put (put (put (put (put (put (put (put (put (put (fr0 [x0, x1]) 3 r1.1) 4 (Value.int IntKind.u64 0)) 5 (Value.bool false)) 6 v2) 7 v3) 9 v4) 8 v4) 18 v11) 17 v11) 29 v20) 28 v20) 40 v29) 39 v29) 54 v41) 53 v41) 63 v48) 62 v48) 74 v57) 73 v57) 83 v64) 82 v64) r1.2)))))))) :=
  call_den (fn := Try.f4) (by kernel_rfl) (fun _ _ => rfl) (by kernel_rfl) [18] (by kernel_rfl)
theorem F.sakialaw12_small.e0 (a : Fr) (H : Heap) : R F.sakialaw12_small.f F.sakialaw12_small.b0 a H =
  some (Value.tuple (List.toArray [Value.int IntKind.u64 0, Value.bool false]), H) :=
  run_den [18] (by kernel_rfl)

noncomputable def F.sakialaw12_great.c : Code := (Try.f5.body).getD .skip
noncomputable def F.sakialaw12_great.c1 : Code := cr F.sakialaw12_great.c
noncomputable def F.sakialaw12_great.c2 : Code := cr F.sakialaw12_great.c1
noncomputable def F.sakialaw12_great.b0 : List Item := [.code F.sakialaw12_great.c2]
theorem F.sakialaw12_great.e (x0 x1 : Value) (H : Heap) : C F.sakialaw12_great [x0, x1] H =
  (mkbox H none T.sakialaw12_Do x1).bind fun r1 =>
  (fadd 1 r1.1).bind fun v2 =>
  (ld1 r1.2 v2).bind fun v3 =>
  (abin P BinOp.eql T.int (Operand.tmp 7) (Operand.const (Value.int IntKind.i64 1)) v3 (Value.int IntKind.i64 1)).bind fun v4 =>
  condK v4
  ((fadd 0 r1.1).bind fun v5 =>
  (ld1 r1.2 v5).bind fun v6 =>
  (fadd 2 r1.1).bind fun v7 =>
  (ld1 r1.2 v7).bind fun v8 =>
  (C F.board_Board_Load_u64 [x0, v6, v8] r1.2).bind fun r9 =>
  some (Value.tuple (List.toArray [r9.1, Value.bool false]), r9.2))
  ((abin P BinOp.eql T.int (Operand.tmp 7) (Operand.const (Value.int IntKind.i64 2)) v3 (Value.int IntKind.i64 2)).bind fun v10 =>
  condK v10
  ((fadd 0 r1.1).bind fun v11 =>
  (ld1 r1.2 v11).bind fun v12 =>
  (fadd 2 r1.1).bind fun v13 =>
  (ld1 r1.2 v13).bind fun v14 =>
  (fadd 5 r1.1).bind fun v15 =>
  (ld1 r1.2 v15).bind fun v16 =>
  (C F.board_Board_Store_u64 [x0, v12, v14, v16] r1.2).bind fun r17 =>
  R F.sakialaw12_great.f F.sakialaw12_great.b0 (put (put (put (put (put (put (put (put (put (put (put (put (put (put (put (put (put (fr0 [x0, x1]) 3 r1.1) 4 (Value.int IntKind.u64 0)) 5 (Value.bool false)) 6 v2) 7 v3) 9 v4) 8 v4) 17 v10) 16 v10) 18 x0) 19 v11) 20 v12) 21 v13) 22 v14) 23 v15) 24 v16) 25 r17.1) r17.2)
  ((abin P BinOp.eql T.int (Operand.tmp 7) (Operand.const (Value.int IntKind.i64 3)) v3 (Value.int IntKind.i64 3)).bind fun v18 =>
  condK v18
  ((fadd 0 r1.1).bind fun v19 =>
  (ld1 r1.2 v19).bind fun v20 =>
  (fadd 2 r1.1).bind fun v21 =>
  (ld1 r1.2 v21).bind fun v22 =>
  (fadd 3 r1.1).bind fun v23 =>
  (ld1 r1.2 v23).bind fun v24 =>
  (C F.board_Board_Add_u64 [x0, v20, v22, v24] r1.2).bind fun r25 =>
  some (Value.tuple (List.toArray [r25.1, Value.bool false]), r25.2))
  ((abin P BinOp.eql T.int (Operand.tmp 7) (Operand.const (Value.int IntKind.i64 4)) v3 (Value.int IntKind.i64 4)).bind fun v26 =>
  condK v26
  ((fadd 0 r1.1).bind fun v27 =>
  (ld1 r1.2 v27).bind fun v28 =>
  (fadd 2 r1.1).bind fun v29 =>
  (ld1 r1.2 v29).bind fun v30 =>
  (fadd 4 r1.1).bind fun v31 =>
  (ld1 r1.2 v31).bind fun v32 =>
  (fadd 5 r1.1).bind fun v33 =>
  (ld1 r1.2 v33).bind fun v34 =>
  (C F.board_Board_Swap_u64 [x0, v28, v30, v32, v34] r1.2).bind fun r35 =>
  some (Value.tuple (List.toArray [Value.int IntKind.u64 0, r35.1]), r35.2))
  ((abin P BinOp.eql T.int (Operand.tmp 7) (Operand.const (Value.int IntKind.i64 6)) v3 (Value.int IntKind.i64 6)).bind fun v36 =>
  condK v36
  ((fadd 0 r1.1).bind fun v37 =>
  (ld1 r1.2 v37).bind fun v38 =>
  (fadd 2 r1.1).bind fun v39 =>
  (ld1 r1.2 v39).bind fun v40 =>
  (C F.board_Board_Read_u64 [x0, v38, v40] r1.2).bind fun r41 =>
  some (Value.tuple (List.toArray [r41.1, Value.bool false]), r41.2))
  ((abin P BinOp.eql T.int (Operand.tmp 7) (Operand.const (Value.int IntKind.i64 7)) v3 (Value.int IntKind.i64 7)).bind fun v42 =>
  condK v42
  ((fadd 0 r1.1).bind fun v43 =>
  (ld1 r1.2 v43).bind fun v44 =>
  (fadd 2 r1.1).bind fun v45 =>
  (ld1 r1.2 v45).bind fun v46 =>
  (fadd 5 r1.1).bind fun v47 =>
  (ld1 r1.2 v47).bind fun v48 =>
  (C F.board_Board_Write_u64 [x0, v44, v46, v48] r1.2).bind fun r49 =>
  R F.sakialaw12_great.f F.sakialaw12_great.b0 (put (put (put (put (put (put (put (put (put (put (put (put (put (put (put (put (put (put (put (put (put (put (put (put (put (fr0 [x0, x1]) 3 r1.1) 4 (Value.int IntKind.u64 0)) 5 (Value.bool false)) 6 v2) 7 v3) 9 v4) 8 v4) 17 v10) 16 v10) 27 v18) 26 v18) 37 v26) 36 v26) 49 v36) 48 v36) 57 v42) 56 v42) 58 x0) 59 v43) 60 v44) 61 v45) 62 v46) 63 v47) 64 v48) 65 r49.1) r49.2)
  ((abin P BinOp.eql T.int (Operand.tmp 7) (Operand.const (Value.int IntKind.i64 8)) v3 (Value.int IntKind.i64 8)).bind fun v50 =>
  condK v50
  ((fadd 0 r1.1).bind fun v51 =>
  (ld1 r1.2 v51).bind fun v52 =>
  (fadd 2 r1.1).bind fun v53 =>
  (ld1 r1.2 v53).bind fun v54 =>
  (C F.board_Board_Get_u64 [x0, v52, v54] r1.2).bind fun r55 =>
  (aconv P T.int T.uint64 r55.1).bind fun v56 =>
  some (Value.tuple (List.toArray [v56, Value.bool false]), r55.2))
  ((abin P BinOp.eql T.int (Operand.tmp 7) (Operand.const (Value.int IntKind.i64 9)) v3 (Value.int IntKind.i64 9)).bind fun v57 =>
  condK v57
  ((fadd 0 r1.1).bind fun v58 =>
  (ld1 r1.2 v58).bind fun v59 =>
  (fadd 2 r1.1).bind fun v60 =>
  (ld1 r1.2 v60).bind fun v61 =>
  (fadd 3 r1.1).bind fun v62 =>
  (ld1 r1.2 v62).bind fun v63 =>
  (C F.board_Board_Set_u64 [x0, v59, v61, v63] r1.2).bind fun r64 =>
  R F.sakialaw12_great.f F.sakialaw12_great.b0 (put (put (put (put (put (put (put (put (put (put (put (put (put (put (put (put (put (put (put (put (put (put (put (put (put (put (put (put (put (fr0 [x0, x1]) 3 r1.1) 4 (Value.int IntKind.u64 0)) 5 (Value.bool false)) 6 v2) 7 v3) 9 v4) 8 v4) 17 v10) 16 v10) 27 v18) 26 v18) 37 v26) 36 v26) 49 v36) 48 v36) 57 v42) 56 v42) 67 v50) 66 v50) 76 v57) 75 v57) 77 x0) 78 v58) 79 v59) 80 v60) 81 v61) 82 v62) 83 v63) 84 r64.1) r64.2)
  (R F.sakialaw12_great.f F.sakialaw12_great.b0 (put (put (put (put (put (put (put (put (put (put (put (put (put (put (put (put (put (put (put (put (put (fr0 [x0, x1]) 3 r1.1) 4 (Value.int IntKind.u64 0)) 5 (Value.bool false)) 6 v2) 7 v3) 9 v4) 8 v4) 17 v10) 16 v10) 27 v18) 26 v18) 37 v26) 36 v26) 49 v36) 48 v36) 57 v42) 56 v42) 67 v50) 66 v50) 76 v57) 75 v57) r1.2)))))))) :=
  call_den (fn := Try.f5) (by kernel_rfl) (fun _ _ => rfl) (by kernel_rfl) [18] (by kernel_rfl)
theorem F.sakialaw12_great.e0 (a : Fr) (H : Heap) : R F.sakialaw12_great.f F.sakialaw12_great.b0 a H =
  some (Value.tuple (List.toArray [Value.int IntKind.u64 0, Value.bool false]), H) :=
  run_den [18] (by kernel_rfl)
end Go.Proofs.Ytiehmpoanhacaaa
