/-
  What each function's code comes to in the abstract machine: written by program, each by the kernel's own reckoning; no condition.
-/
import Derived.Test.YtiehmpoanhacaaaDoorFn
import Derived.KernelRfl
set_option maxRecDepth 100000
set_option linter.unusedVariables false
set_option maxHeartbeats 1000000
namespace Go.Proofs.YtiehmpoanhacaaaDoor
open Go Go.Proofs.SakAm
noncomputable def F.sakialaw19_OneAlone.c : Code := (Tryd.f6.body).getD .skip
noncomputable def F.sakialaw19_OneAlone.c1 : Code := cr F.sakialaw19_OneAlone.c
noncomputable def F.sakialaw19_OneAlone.c2 : Code := cr F.sakialaw19_OneAlone.c1
noncomputable def F.sakialaw19_OneAlone.c3 : Code := cr F.sakialaw19_OneAlone.c2
noncomputable def F.sakialaw19_OneAlone.c4 : Code := cr F.sakialaw19_OneAlone.c3
noncomputable def F.sakialaw19_OneAlone.c5 : Code := cr F.sakialaw19_OneAlone.c4
noncomputable def F.sakialaw19_OneAlone.c6 : Code := cr F.sakialaw19_OneAlone.c5
noncomputable def F.sakialaw19_OneAlone.c7 : Code := cr F.sakialaw19_OneAlone.c6
noncomputable def F.sakialaw19_OneAlone.c8 : Code := cr F.sakialaw19_OneAlone.c7
noncomputable def F.sakialaw19_OneAlone.c9 : Code := cr F.sakialaw19_OneAlone.c8
noncomputable def F.sakialaw19_OneAlone.c10 : Code := cl F.sakialaw19_OneAlone.c9
noncomputable def F.sakialaw19_OneAlone.c11 : Code := cr F.sakialaw19_OneAlone.c10
noncomputable def F.sakialaw19_OneAlone.c12 : Code := cl F.sakialaw19_OneAlone.c11
noncomputable def F.sakialaw19_OneAlone.c13 : Code := cl F.sakialaw19_OneAlone.c12
noncomputable def F.sakialaw19_OneAlone.c14 : Code := cr F.sakialaw19_OneAlone.c9
noncomputable def F.sakialaw19_OneAlone.c15 : Code := cr F.sakialaw19_OneAlone.c13
noncomputable def F.sakialaw19_OneAlone.c16 : Code := cl F.sakialaw19_OneAlone.c15
noncomputable def F.sakialaw19_OneAlone.c17 : Code := cl F.sakialaw19_OneAlone.c16
noncomputable def F.sakialaw19_OneAlone.c18 : Code := cr F.sakialaw19_OneAlone.c17
noncomputable def F.sakialaw19_OneAlone.c19 : Code := cr F.sakialaw19_OneAlone.c18
noncomputable def F.sakialaw19_OneAlone.c20 : Code := cr F.sakialaw19_OneAlone.c19
noncomputable def F.sakialaw19_OneAlone.c21 : Code := cl F.sakialaw19_OneAlone.c20
noncomputable def F.sakialaw19_OneAlone.c22 : Code := cl F.sakialaw19_OneAlone.c21
noncomputable def F.sakialaw19_OneAlone.c23 : Code := cl F.sakialaw19_OneAlone.c22
noncomputable def F.sakialaw19_OneAlone.c24 : Code := cr F.sakialaw19_OneAlone.c20
noncomputable def F.sakialaw19_OneAlone.c25 : Code := cr F.sakialaw19_OneAlone.c15
noncomputable def F.sakialaw19_OneAlone.c26 : Code := cr F.sakialaw19_OneAlone.c24
noncomputable def F.sakialaw19_OneAlone.c27 : Code := cr F.sakialaw19_OneAlone.c26
noncomputable def F.sakialaw19_OneAlone.c28 : Code := cr F.sakialaw19_OneAlone.c27
noncomputable def F.sakialaw19_OneAlone.c29 : Code := cl F.sakialaw19_OneAlone.c28
noncomputable def F.sakialaw19_OneAlone.c30 : Code := cl F.sakialaw19_OneAlone.c29
noncomputable def F.sakialaw19_OneAlone.c31 : Code := cl F.sakialaw19_OneAlone.c30
noncomputable def F.sakialaw19_OneAlone.c32 : Code := cr F.sakialaw19_OneAlone.c28
noncomputable def F.sakialaw19_OneAlone.c33 : Code := cr F.sakialaw19_OneAlone.c32
noncomputable def F.sakialaw19_OneAlone.c34 : Code := cr F.sakialaw19_OneAlone.c33
noncomputable def F.sakialaw19_OneAlone.c35 : Code := cl F.sakialaw19_OneAlone.c34
noncomputable def F.sakialaw19_OneAlone.c36 : Code := cl F.sakialaw19_OneAlone.c35
noncomputable def F.sakialaw19_OneAlone.c37 : Code := cl F.sakialaw19_OneAlone.c36
noncomputable def F.sakialaw19_OneAlone.c38 : Code := cr F.sakialaw19_OneAlone.c34
noncomputable def F.sakialaw19_OneAlone.c39 : Code := cr F.sakialaw19_OneAlone.c38
noncomputable def F.sakialaw19_OneAlone.c40 : Code := cr F.sakialaw19_OneAlone.c39
noncomputable def F.sakialaw19_OneAlone.c41 : Code := cr F.sakialaw19_OneAlone.c40
noncomputable def F.sakialaw19_OneAlone.c42 : Code := cl F.sakialaw19_OneAlone.c41
noncomputable def F.sakialaw19_OneAlone.c43 : Code := cl F.sakialaw19_OneAlone.c42
noncomputable def F.sakialaw19_OneAlone.b0 : List Item := [.inLoop F.sakialaw19_OneAlone.c13, .inBlock 0, .code F.sakialaw19_OneAlone.c14]
noncomputable def F.sakialaw19_OneAlone.b1 : List Item := [.inLoop F.sakialaw19_OneAlone.c23, .inBlock 2, .code F.sakialaw19_OneAlone.c24, .inBlock 1, .code F.sakialaw19_OneAlone.c25, .inLoop F.sakialaw19_OneAlone.c13, .inBlock 0, .code F.sakialaw19_OneAlone.c14]
noncomputable def F.sakialaw19_OneAlone.b2 : List Item := [.inLoop F.sakialaw19_OneAlone.c31, .inBlock 4, .code F.sakialaw19_OneAlone.c32, .inBlock 1, .code F.sakialaw19_OneAlone.c25, .inLoop F.sakialaw19_OneAlone.c13, .inBlock 0, .code F.sakialaw19_OneAlone.c14]
noncomputable def F.sakialaw19_OneAlone.b3 : List Item := [.inLoop F.sakialaw19_OneAlone.c37, .inBlock 6, .code F.sakialaw19_OneAlone.c38, .inBlock 1, .code F.sakialaw19_OneAlone.c25, .inLoop F.sakialaw19_OneAlone.c13, .inBlock 0, .code F.sakialaw19_OneAlone.c14]
noncomputable def F.sakialaw19_OneAlone.b4 : List Item := [.inLoop F.sakialaw19_OneAlone.c43, .inBlock 8, .inBlock 1, .code F.sakialaw19_OneAlone.c25, .inLoop F.sakialaw19_OneAlone.c13, .inBlock 0, .code F.sakialaw19_OneAlone.c14]
theorem F.sakialaw19_OneAlone.e (x0 x1 : Value) (H : Heap) : C F.sakialaw19_OneAlone [x0, x1] H =
  (mkbox H none T.sakialaw19_Case x0).bind fun r1 =>
  (fadd 0 r1.1).bind fun v2 =>
  (st1 r1.2 v2 (Value.bool true)).bind fun H3 =>
  (ldA H3 5 r1.1).bind fun v4 =>
  (C F.sakialaw19_conf [v4] H3).bind fun r5 =>
  (mkbox r5.2 none T.api_Conf (Value.agg #[Value.int IntKind.i64 0, Value.int IntKind.i64 0, Value.int IntKind.i64 0, Value.int IntKind.i64 0, Value.int IntKind.u64 0, Value.slice none 0 0])).bind fun r6 =>
  (stA r6.2 6 r6.1 r5.1).bind fun H7 =>
  (alen x1).bind fun v8 =>
  (abin P BinOp.gtr T.int (Operand.tmp 25) (Operand.const (Value.int IntKind.i64 60)) v8 (Value.int IntKind.i64 60)).bind fun v9 =>
  condK v9
  ((C F.sakialaw19_live [] H7).bind fun r10 =>
  some (r10.1, r10.2))
  ((ldA H7 6 r6.1).bind fun v11 =>
  (C F.layout_Of [v11] H7).bind fun r12 =>
  (aext 0 r12.1).bind fun v13 =>
  (aext 1 r12.1).bind fun v14 =>
  (mkbox r12.2 none T.layout_Layout (Value.agg #[Value.int IntKind.i64 0, Value.int IntKind.i64 0, Value.int IntKind.i64 0, Value.int IntKind.i64 0, Value.int IntKind.u64 0, Value.slice none 0 0, Value.int IntKind.i64 0, Value.int IntKind.i64 0, Value.int IntKind.i64 0, Value.int IntKind.i64 0, Value.int IntKind.i64 0, Value.int IntKind.i64 0, Value.int IntKind.i64 0, Value.int IntKind.i64 0])).bind fun r15 =>
  (stA r15.2 14 r15.1 v13).bind fun H16 =>
  (ldA H16 14 r15.1).bind fun v17 =>
  (C F.board_New_u64 [v17] H16).bind fun r18 =>
  (C F.event_NewLog [] r18.2).bind fun r19 =>
  (C F.seqone_New_u64 [r18.1, r19.1] r19.2).bind fun r20 =>
  (fadd 2 r6.1).bind fun v21 =>
  (ld1 r20.2 v21).bind fun v22 =>
  (abin P BinOp.mul T.int (Operand.const (Value.int IntKind.i64 4)) (Operand.tmp 40) (Value.int IntKind.i64 4) v22).bind fun v23 =>
  (fadd 5 r6.1).bind fun v24 =>
  (ld1 r20.2 v24).bind fun v25 =>
  (alen v25).bind fun v26 =>
  (abin P BinOp.add T.int (Operand.tmp 41) (Operand.tmp 44) v23 v26).bind fun v27 =>
  (abin P BinOp.add T.int (Operand.tmp 45) (Operand.const (Value.int IntKind.i64 8)) v27 (Value.int IntKind.i64 8)).bind fun v28 =>
  (fadd 4 r6.1).bind fun v29 =>
  (ld1 r20.2 v29).bind fun v30 =>
  R F.sakialaw19_OneAlone.f F.sakialaw19_OneAlone.b0 (put (put (put (put (put (put (put (put (put (put (put (put (put (put (put (put (put (put (put (put (put (put (put (put (put (put (put (put (put (put (put (put (put (put (put (put (put (put (fr0 [x0, x1]) 2 r1.1) 4 (Value.bool false)) 21 v2) 22 v4) 23 r5.1) 5 r6.1) 24 x1) 25 v8) 26 v9) 29 v11) 30 r12.1) 28 r12.1) 31 v13) 32 v14) 6 r15.1) 7 v14) 33 v17) 34 r18.1) 35 r19.1) 8 r18.1) 9 r19.1) 36 r18.1) 37 r19.1) 38 r20.1) 10 r20.1) 39 v21) 40 v22) 41 v23) 42 v24) 43 v25) 44 v26) 45 v27) 46 v28) 11 v28) 47 v29) 48 v30) 12 v30) 13 (Value.int IntKind.i64 0)) r20.2) :=
  by rw [← obd_is]; exact call_den (fn := Tryd.f6) (by kernel_rfl) (fun _ _ => rfl) (by kernel_rfl) [] (by kernel_rfl)
theorem F.sakialaw19_OneAlone.e0 (a : Fr) (H : Heap) : R F.sakialaw19_OneAlone.f F.sakialaw19_OneAlone.b0 a H =
  (alen (a 1)).bind fun v31 =>
  (abin P BinOp.lss T.int (Operand.tmp 49) (Operand.tmp 51) (a 13) v31).bind fun v32 =>
  condK v32
  ((sadd 1 (a 1) (a 13)).bind fun v33 =>
  (ld1 H v33).bind fun v34 =>
  ifD (true) <|
  (aconv P T.uint8 T.int v34).bind fun v35 =>
  (fadd 2 (a 5)).bind fun v36 =>
  (ld1 H v36).bind fun v37 =>
  ifD (true) <|
  (abin P BinOp.rem T.int (Operand.tmp 59) (Operand.tmp 61) v35 v37).bind fun v38 =>
  (abin P BinOp.add T.int (Operand.const (Value.int IntKind.i64 1)) (Operand.tmp 62) (Value.int IntKind.i64 1) v38).bind fun v39 =>
  (fillL [Value.int IntKind.i64 0, Value.int IntKind.i64 0, Value.int IntKind.i64 0, Value.int IntKind.i64 0, Value.int IntKind.i64 0, Value.int IntKind.i64 0, Value.int IntKind.u64 0, Value.int IntKind.u64 0, Value.int IntKind.u64 0, Value.int IntKind.u64 0, Value.slice none 0 0] [(1, 1, v39)]).bind fun v40 =>
  (mkbox H none T.api_Frame_u64 (Value.agg (List.toArray v40))).bind fun r41 =>
  R F.sakialaw19_OneAlone.f F.sakialaw19_OneAlone.b1 (put (put (put (put (put (put (put (put (put (put (put (put (put (put (put (put (put (put (put a 49 (a 13)) 50 (a 1)) 51 v31) 52 v32) 55 (a 1)) 56 (a 13)) 57 v33) 58 v34) 59 v35) 60 v36) 61 v37) 62 v38) 63 v39) 14 v39) 64 v39) 65 (Value.agg (List.toArray v40))) 66 r41.1) 15 r41.1) 16 (Value.int IntKind.i64 1)) r41.2)
  ((C F.sakialaw19_live [] H).bind fun r42 =>
  some (r42.1, r42.2)) :=
  by rw [← obd_is]; exact run_den [] (by kernel_rfl)
theorem F.sakialaw19_OneAlone.e1 (a : Fr) (H : Heap) : R F.sakialaw19_OneAlone.f F.sakialaw19_OneAlone.b1 a H =
  (abin P BinOp.leq T.int (Operand.tmp 67) (Operand.tmp 68) (a 16) (a 11)).bind fun v43 =>
  (gd v43 true H (some ((a 10), H))).bind fun r44 =>
  (gd v43 true r44.2 (some ((a 15), r44.2))).bind fun r45 =>
  (gd v43 true r45.2 ((C F.seqone_Seq_Claim_u64 [r44.1, Value.int IntKind.i64 0, r45.1] r45.2).bind fun r46 => some (r46.1, r46.2))).bind fun r47 =>
  (gd v43 true r47.2 ((aun P UnOp.not r47.1).bind fun v48 => some (v48, r47.2))).bind fun r49 =>
  (apick v43 r49.1 (Value.bool false)).bind fun v50 =>
  condK v50
  ((abin P BinOp.add T.int (Operand.tmp 76) (Operand.const (Value.int IntKind.i64 1)) (a 16) (Value.int IntKind.i64 1)).bind fun v51 =>
  R F.sakialaw19_OneAlone.f F.sakialaw19_OneAlone.b1 (put (put (put (put (put (put (put (put (put (put (put (put a 67 (a 16)) 68 (a 11)) 69 v43) 70 v43) 71 r44.1) 72 r45.1) 73 r47.1) 74 r49.1) 75 v50) 76 (a 16)) 77 v51) 16 v51) r49.2)
  ((abin P BinOp.gtr T.int (Operand.tmp 78) (Operand.tmp 79) (a 16) (a 11)).bind fun v52 =>
  (gd v52 false r49.2 (some ((a 15), r49.2))).bind fun r53 =>
  (gd v52 false r53.2 ((nilc r53.1).bind fun v54 => some (v54, r53.2))).bind fun r55 =>
  (gd v52 false r55.2 ((fadd 6 r55.1).bind fun v56 => some (v56, r55.2))).bind fun r57 =>
  (gd v52 false r57.2 ((ld1 r57.2 r57.1).bind fun v58 => some (v58, r57.2))).bind fun r59 =>
  (gd v52 false r59.2 (some ((a 12), r59.2))).bind fun r60 =>
  (gd v52 false r60.2 ((abin P BinOp.neq T.uint64 (Operand.tmp 85) (Operand.tmp 86) r59.1 r60.1).bind fun v61 => some (v61, r60.2))).bind fun r62 =>
  (apick v52 (Value.bool true) r62.1).bind fun v63 =>
  condK v63
  (some (Value.bool false, r62.2))
  ((nilc (a 15)).bind fun v64 =>
  (fadd 6 v64).bind fun v65 =>
  (ld1 r62.2 v65).bind fun v66 =>
  (fillL [Value.int IntKind.i64 0, Value.int IntKind.i64 0, Value.int IntKind.i64 0, Value.int IntKind.i64 0, Value.int IntKind.i64 0, Value.int IntKind.i64 0, Value.int IntKind.u64 0, Value.int IntKind.u64 0, Value.int IntKind.u64 0, Value.int IntKind.u64 0, Value.slice none 0 0] [(1, 1, (a 14)), (6, 1, v66)]).bind fun v67 =>
  (mkbox r62.2 none T.api_Frame_u64 (Value.agg (List.toArray v67))).bind fun r68 =>
  R F.sakialaw19_OneAlone.f F.sakialaw19_OneAlone.b2 (put (put (put (put (put (put (put (put (put (put (put (put (put (put (put (put (put (put (put (put (put (put (put (put (put (put (put (put (put a 67 (a 16)) 68 (a 11)) 69 v43) 70 v43) 71 r44.1) 72 r45.1) 73 r47.1) 74 r49.1) 75 v50) 78 (a 16)) 79 (a 11)) 80 v52) 81 v52) 82 r53.1) 83 r55.1) 84 r57.1) 85 r59.1) 86 r60.1) 87 r62.1) 88 v63) 89 (a 14)) 90 (a 15)) 91 v64) 92 v65) 93 v66) 94 (Value.agg (List.toArray v67))) 95 r68.1) 17 r68.1) 16 (Value.int IntKind.i64 1)) r68.2)) :=
  by rw [← obd_is]; exact run_den [] (by kernel_rfl)
theorem F.sakialaw19_OneAlone.e2 (a : Fr) (H : Heap) : R F.sakialaw19_OneAlone.f F.sakialaw19_OneAlone.b2 a H =
  (abin P BinOp.leq T.int (Operand.tmp 96) (Operand.tmp 97) (a 16) (a 11)).bind fun v69 =>
  (gd v69 true H (some ((a 10), H))).bind fun r70 =>
  (gd v69 true r70.2 (some ((a 17), r70.2))).bind fun r71 =>
  (gd v69 true r71.2 ((C F.seqone_Seq_Publish_u64 [r70.1, Value.int IntKind.i64 0, r71.1] r71.2).bind fun r72 => some (r72.1, r72.2))).bind fun r73 =>
  (gd v69 true r73.2 ((aun P UnOp.not r73.1).bind fun v74 => some (v74, r73.2))).bind fun r75 =>
  (apick v69 r75.1 (Value.bool false)).bind fun v76 =>
  condK v76
  ((abin P BinOp.add T.int (Operand.tmp 105) (Operand.const (Value.int IntKind.i64 1)) (a 16) (Value.int IntKind.i64 1)).bind fun v77 =>
  R F.sakialaw19_OneAlone.f F.sakialaw19_OneAlone.b2 (put (put (put (put (put (put (put (put (put (put (put (put a 96 (a 16)) 97 (a 11)) 98 v69) 99 v69) 100 r70.1) 101 r71.1) 102 r73.1) 103 r75.1) 104 v76) 105 (a 16)) 106 v77) 16 v77) r75.2)
  ((fillL [Value.int IntKind.i64 0, Value.int IntKind.i64 0, Value.int IntKind.i64 0, Value.int IntKind.i64 0, Value.int IntKind.i64 0, Value.int IntKind.i64 0, Value.int IntKind.u64 0, Value.int IntKind.u64 0, Value.int IntKind.u64 0, Value.int IntKind.u64 0, Value.slice none 0 0] [(8, 1, (a 12))]).bind fun v78 =>
  (mkbox r75.2 none T.api_Frame_u64 (Value.agg (List.toArray v78))).bind fun r79 =>
  R F.sakialaw19_OneAlone.f F.sakialaw19_OneAlone.b3 (put (put (put (put (put (put (put (put (put (put (put (put (put (put a 96 (a 16)) 97 (a 11)) 98 v69) 99 v69) 100 r70.1) 101 r71.1) 102 r73.1) 103 r75.1) 104 v76) 107 (a 12)) 108 (Value.agg (List.toArray v78))) 109 r79.1) 18 r79.1) 19 (Value.int IntKind.i64 1)) r79.2) :=
  by rw [← obd_is]; exact run_den [] (by kernel_rfl)
theorem F.sakialaw19_OneAlone.e3 (a : Fr) (H : Heap) : R F.sakialaw19_OneAlone.f F.sakialaw19_OneAlone.b3 a H =
  (abin P BinOp.leq T.int (Operand.tmp 110) (Operand.tmp 111) (a 19) (a 11)).bind fun v80 =>
  (gd v80 true H (some ((a 10), H))).bind fun r81 =>
  (gd v80 true r81.2 ((fadd 3 (a 5)).bind fun v82 => some (v82, r81.2))).bind fun r83 =>
  (gd v80 true r83.2 ((ld1 r83.2 r83.1).bind fun v84 => some (v84, r83.2))).bind fun r85 =>
  (gd v80 true r85.2 (some ((a 18), r85.2))).bind fun r86 =>
  (gd v80 true r86.2 ((C F.seqone_Seq_Tip_u64 [r81.1, r85.1, r86.1] r86.2).bind fun r87 => some (r87.1, r87.2))).bind fun r88 =>
  (gd v80 true r88.2 ((aun P UnOp.not r88.1).bind fun v89 => some (v89, r88.2))).bind fun r90 =>
  (apick v80 r90.1 (Value.bool false)).bind fun v91 =>
  condK v91
  ((abin P BinOp.add T.int (Operand.tmp 121) (Operand.const (Value.int IntKind.i64 1)) (a 19) (Value.int IntKind.i64 1)).bind fun v92 =>
  R F.sakialaw19_OneAlone.f F.sakialaw19_OneAlone.b3 (put (put (put (put (put (put (put (put (put (put (put (put (put (put a 110 (a 19)) 111 (a 11)) 112 v80) 113 v80) 114 r81.1) 115 r83.1) 116 r85.1) 117 r86.1) 118 r88.1) 119 r90.1) 120 v91) 121 (a 19)) 122 v92) 19 v92) r90.2)
  ((C F.wide_Add_u64 [(a 12), (a 14)] r90.2).bind fun r93 =>
  (abin P BinOp.gtr T.int (Operand.tmp 126) (Operand.tmp 127) (a 16) (a 11)).bind fun v94 =>
  (gd v94 false r93.2 (some ((a 19), r93.2))).bind fun r95 =>
  (gd v94 false r95.2 (some ((a 11), r95.2))).bind fun r96 =>
  (gd v94 false r96.2 ((abin P BinOp.gtr T.int (Operand.tmp 130) (Operand.tmp 131) r95.1 r96.1).bind fun v97 => some (v97, r96.2))).bind fun r98 =>
  (apick v94 (Value.bool true) r98.1).bind fun v99 =>
  (gd v99 false r98.2 (some ((a 18), r98.2))).bind fun r100 =>
  (gd v99 false r100.2 ((nilc r100.1).bind fun v101 => some (v101, r100.2))).bind fun r102 =>
  (gd v99 false r102.2 ((fadd 8 r102.1).bind fun v103 => some (v103, r102.2))).bind fun r104 =>
  (gd v99 false r104.2 ((ld1 r104.2 r104.1).bind fun v105 => some (v105, r104.2))).bind fun r106 =>
  (gd v99 false r106.2 (some (r93.1, r106.2))).bind fun r107 =>
  (gd v99 false r107.2 ((abin P BinOp.neq T.uint64 (Operand.tmp 138) (Operand.tmp 139) r106.1 r107.1).bind fun v108 => some (v108, r107.2))).bind fun r109 =>
  (apick v99 (Value.bool true) r109.1).bind fun v110 =>
  condK v110
  (some (Value.bool false, r109.2))
  (R F.sakialaw19_OneAlone.f F.sakialaw19_OneAlone.b4 (put (put (put (put (put (put (put (put (put (put (put (put (put (put (put (put (put (put (put (put (put (put (put (put (put (put (put (put (put (put (put (put a 110 (a 19)) 111 (a 11)) 112 v80) 113 v80) 114 r81.1) 115 r83.1) 116 r85.1) 117 r86.1) 118 r88.1) 119 r90.1) 120 v91) 123 (a 12)) 124 (a 14)) 125 r93.1) 12 r93.1) 126 (a 16)) 127 (a 11)) 128 v94) 129 v94) 130 r95.1) 131 r96.1) 132 r98.1) 133 v99) 134 v99) 135 r100.1) 136 r102.1) 137 r104.1) 138 r106.1) 139 r107.1) 140 r109.1) 141 v110) 20 (Value.int IntKind.i64 0)) r109.2)) :=
  by rw [← obd_is]; exact run_den [] (by kernel_rfl)
theorem F.sakialaw19_OneAlone.e4 (a : Fr) (H : Heap) : R F.sakialaw19_OneAlone.f F.sakialaw19_OneAlone.b4 a H =
  (fadd 5 (a 5)).bind fun v111 =>
  (ld1 H v111).bind fun v112 =>
  (alen v112).bind fun v113 =>
  (abin P BinOp.lss T.int (Operand.tmp 142) (Operand.tmp 145) (a 20) v113).bind fun v114 =>
  condK v114
  ((fadd 3 (a 5)).bind fun v115 =>
  (ld1 H v115).bind fun v116 =>
  (abin P BinOp.add T.int (Operand.tmp 151) (Operand.tmp 152) v116 (a 20)).bind fun v117 =>
  (C F.board_Board_Store_u64 [(a 8), v117, (a 20), (a 12)] H).bind fun r118 =>
  (abin P BinOp.add T.int (Operand.tmp 147) (Operand.const (Value.int IntKind.i64 1)) (a 20) (Value.int IntKind.i64 1)).bind fun v119 =>
  R F.sakialaw19_OneAlone.f F.sakialaw19_OneAlone.b4 (put (put (put (put (put (put (put (put (put (put (put (put (put (put (put (put a 142 (a 20)) 143 v111) 144 v112) 145 v113) 146 v114) 149 (a 8)) 150 v115) 151 v116) 152 (a 20)) 153 v117) 154 (a 20)) 155 (a 12)) 156 r118.1) 147 (a 20)) 148 v119) 20 v119) r118.2)
  ((abin P BinOp.add T.int (Operand.tmp 53) (Operand.const (Value.int IntKind.i64 1)) (a 13) (Value.int IntKind.i64 1)).bind fun v120 =>
  R F.sakialaw19_OneAlone.f F.sakialaw19_OneAlone.b0 (put (put (put (put (put (put (put (put a 142 (a 20)) 143 v111) 144 v112) 145 v113) 146 v114) 53 (a 13)) 54 v120) 13 v120) H) :=
  by rw [← obd_is]; exact run_den [] (by kernel_rfl)

noncomputable def F.sakialaw19_conf.c : Code := (Tryd.f42.body).getD .skip
noncomputable def F.sakialaw19_conf.c1 : Code := cr F.sakialaw19_conf.c
noncomputable def F.sakialaw19_conf.c2 : Code := cr F.sakialaw19_conf.c1
noncomputable def F.sakialaw19_conf.c3 : Code := cr F.sakialaw19_conf.c2
noncomputable def F.sakialaw19_conf.c4 : Code := cl F.sakialaw19_conf.c3
noncomputable def F.sakialaw19_conf.c5 : Code := cr F.sakialaw19_conf.c4
noncomputable def F.sakialaw19_conf.c6 : Code := cl F.sakialaw19_conf.c5
noncomputable def F.sakialaw19_conf.c7 : Code := cl F.sakialaw19_conf.c6
noncomputable def F.sakialaw19_conf.c8 : Code := cr F.sakialaw19_conf.c3
noncomputable def F.sakialaw19_conf.b0 : List Item := [.code F.sakialaw19_conf.c3]
noncomputable def F.sakialaw19_conf.b1 : List Item := [.inLoop F.sakialaw19_conf.c7, .inBlock 0, .code F.sakialaw19_conf.c8]
theorem F.sakialaw19_conf.e (x0 : Value) (H : Heap) : C F.sakialaw19_conf [x0] H =
  (mkbox H none T.sakialaw19_Case x0).bind fun r1 =>
  (mkbox r1.2 none T.api_Conf (Value.agg #[Value.int IntKind.i64 0, Value.int IntKind.i64 0, Value.int IntKind.i64 0, Value.int IntKind.i64 0, Value.int IntKind.u64 0, Value.slice none 0 0])).bind fun r2 =>
  (fadd 1 r1.1).bind fun v3 =>
  (ld1 r2.2 v3).bind fun v4 =>
  (abin P BinOp.rem T.uint8 (Operand.tmp 6) (Operand.const (Value.int IntKind.u8 4)) v4 (Value.int IntKind.u8 4)).bind fun v5 =>
  (abin P BinOp.shl T.int (Operand.const (Value.int IntKind.i64 2)) (Operand.tmp 7) (Value.int IntKind.i64 2) v5).bind fun v6 =>
  (fadd 4 r1.1).bind fun v7 =>
  (ld1 r2.2 v7).bind fun v8 =>
  (fillL [Value.int IntKind.i64 0, Value.int IntKind.i64 0, Value.int IntKind.i64 0, Value.int IntKind.i64 0, Value.int IntKind.u64 0, Value.slice none 0 0] [(0, 1, Value.int IntKind.i64 1), (1, 1, Value.int IntKind.i64 32), (2, 1, v6), (3, 1, Value.int IntKind.i64 1), (4, 1, v8)]).bind fun v9 =>
  (mkbox r2.2 none T.api_Conf (Value.agg #[Value.int IntKind.i64 0, Value.int IntKind.i64 0, Value.int IntKind.i64 0, Value.int IntKind.i64 0, Value.int IntKind.u64 0, Value.slice none 0 0])).bind fun r10 =>
  (stA r10.2 6 r10.1 (Value.agg (List.toArray v9))).bind fun H11 =>
  (fadd 0 r1.1).bind fun v12 =>
  (ld1 H11 v12).bind fun v13 =>
  condK v13
  ((fadd 1 r10.1).bind fun v14 =>
  (st1 H11 v14 (Value.int IntKind.i64 64)).bind fun H15 =>
  R F.sakialaw19_conf.f F.sakialaw19_conf.b0 (put (put (put (put (put (put (put (put (put (put (put (put (put (fr0 [x0]) 1 r1.1) 2 r2.1) 5 v3) 6 v4) 7 v5) 8 v6) 9 v7) 10 v8) 11 (Value.agg (List.toArray v9))) 3 r10.1) 12 v12) 13 v13) 14 v14) H15)
  (R F.sakialaw19_conf.f F.sakialaw19_conf.b0 (put (put (put (put (put (put (put (put (put (put (put (put (fr0 [x0]) 1 r1.1) 2 r2.1) 5 v3) 6 v4) 7 v5) 8 v6) 9 v7) 10 v8) 11 (Value.agg (List.toArray v9))) 3 r10.1) 12 v12) 13 v13) H11) :=
  by rw [← obd_is]; exact call_den (fn := Tryd.f42) (by kernel_rfl) (fun _ _ => rfl) (by kernel_rfl) [4] (by kernel_rfl)
theorem F.sakialaw19_conf.e0 (a : Fr) (H : Heap) : R F.sakialaw19_conf.f F.sakialaw19_conf.b0 a H =
  R F.sakialaw19_conf.f F.sakialaw19_conf.b1 (put a 4 (Value.int IntKind.i64 0)) H :=
  run_den [4] (by kernel_rfl)
theorem F.sakialaw19_conf.e1 (a : Fr) (H : Heap) : R F.sakialaw19_conf.f F.sakialaw19_conf.b1 a H =
  (fadd 3 (a 1)).bind fun v16 =>
  (ld1 H v16).bind fun v17 =>
  (abin P BinOp.rem T.uint8 (Operand.tmp 17) (Operand.const (Value.int IntKind.u8 3)) v17 (Value.int IntKind.u8 3)).bind fun v18 =>
  (aconv P T.uint8 T.int v18).bind fun v19 =>
  (abin P BinOp.leq T.int (Operand.tmp 15) (Operand.tmp 19) (a 4) v19).bind fun v20 =>
  condK v20
  ((fadd 5 (a 3)).bind fun v21 =>
  (ld1 H v21).bind fun v22 =>
  (fillL (reps [Value.slice none 0 0] 1) [(0, 1, Value.slice none 0 0)]).bind fun v23 =>
  (mkrow H none T.sl_int 1 v23).bind fun r24 =>
  (aappend r24.2 T.sl_int 1 24 v22 r24.1).bind fun r25 =>
  (fadd 5 (a 3)).bind fun v26 =>
  (st1 r25.2 v26 r25.1).bind fun H27 =>
  (abin P BinOp.add T.int (Operand.tmp 21) (Operand.const (Value.int IntKind.i64 1)) (a 4) (Value.int IntKind.i64 1)).bind fun v28 =>
  R F.sakialaw19_conf.f F.sakialaw19_conf.b1 (put (put (put (put (put (put (put (put (put (put (put (put (put (put a 15 (a 4)) 16 v16) 17 v17) 18 v18) 19 v19) 20 v20) 23 v21) 24 v22) 25 r24.1) 26 r25.1) 27 v26) 21 (a 4)) 22 v28) 4 v28) H27)
  ((ldA H 6 (a 3)).bind fun v29 =>
  (stA H 6 (a 2) v29).bind fun H30 =>
  (ldA H30 6 (a 2)).bind fun v31 =>
  some (v31, H30)) :=
  by rw [← obd_is]; exact run_den [4] (by kernel_rfl)
end Go.Proofs.YtiehmpoanhacaaaDoor
