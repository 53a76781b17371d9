/-
  What each function's code comes to in the abstract machine: written by program, each by the kernel's own reckoning; no condition.
-/
import Derived.Test.YtiehmpoanhacaaaDoorFn
import Derived.KernelRfl
set_option maxRecDepth 100000
set_option linter.unusedVariables false
set_option maxHeartbeats 1000000
namespace Go.Proofs.YtiehmpoanhacaaaDoor
open Go Go.Proofs.SakAm
noncomputable def F.sakialaw20_CasNone.c : Code := (Tryd.f12.body).getD .skip
noncomputable def F.sakialaw20_CasNone.c1 : Code := cr F.sakialaw20_CasNone.c
noncomputable def F.sakialaw20_CasNone.c2 : Code := cr F.sakialaw20_CasNone.c1
noncomputable def F.sakialaw20_CasNone.c3 : Code := cr F.sakialaw20_CasNone.c2
noncomputable def F.sakialaw20_CasNone.c4 : Code := cr F.sakialaw20_CasNone.c3
noncomputable def F.sakialaw20_CasNone.c5 : Code := cr F.sakialaw20_CasNone.c4
noncomputable def F.sakialaw20_CasNone.c6 : Code := cr F.sakialaw20_CasNone.c5
noncomputable def F.sakialaw20_CasNone.b0 : List Item := [.code F.sakialaw20_CasNone.c5]
noncomputable def F.sakialaw20_CasNone.b1 : List Item := [.code F.sakialaw20_CasNone.c6]
theorem F.sakialaw20_CasNone.e (x0 x1 x2 : Value) (H : Heap) : C F.sakialaw20_CasNone [x0, x1, x2] H =
  (mkbox H none T.sakialaw20_Case x0).bind fun r1 =>
  (mkbox r1.2 none T.a2_int x1).bind fun r2 =>
  (radd 2 1 r2.1 (Value.int IntKind.i64 0)).bind fun v3 =>
  (ld1 r2.2 v3).bind fun v4 =>
  ifD (true) <|
  (radd 2 1 r2.1 (Value.int IntKind.i64 1)).bind fun v5 =>
  (ld1 r2.2 v5).bind fun v6 =>
  ifD (true) <|
  (ldA r2.2 5 r1.1).bind fun v7 =>
  (C F.sakialaw20_conf [v7] r2.2).bind fun r8 =>
  (mkbox r8.2 none T.api_Conf (Value.agg #[Value.int IntKind.i64 0, Value.int IntKind.i64 0, Value.int IntKind.i64 0, Value.int IntKind.i64 0, Value.int IntKind.u64 0, Value.slice none 0 0])).bind fun r9 =>
  (stA r9.2 6 r9.1 r8.1).bind fun H10 =>
  (fadd 1 r9.1).bind fun v11 =>
  (st1 H10 v11 (Value.int IntKind.i64 32)).bind fun H12 =>
  (abin P BinOp.geq T.int (Operand.tmp 24) (Operand.const (Value.int IntKind.i64 1)) v4 (Value.int IntKind.i64 1)).bind fun v13 =>
  (gd v13 true H12 (some (v4, H12))).bind fun r14 =>
  (gd v13 true r14.2 ((abin P BinOp.leq T.int (Operand.tmp 27) (Operand.const (Value.int IntKind.i64 5)) r14.1 (Value.int IntKind.i64 5)).bind fun v15 => some (v15, r14.2))).bind fun r16 =>
  (apick v13 r16.1 (Value.bool false)).bind fun v17 =>
  condK v17
  ((fadd 0 r9.1).bind fun v18 =>
  (st1 r16.2 v18 v4).bind fun H19 =>
  R F.sakialaw20_CasNone.f F.sakialaw20_CasNone.b0 (put (put (put (put (put (put (put (put (put (put (put (put (put (put (put (put (put (put (put (put (put (fr0 [x0, x1, x2]) 3 r1.1) 4 r2.1) 6 (Value.bool false)) 17 v3) 18 v4) 19 v5) 20 v6) 7 v4) 8 v6) 21 v7) 22 r8.1) 9 r9.1) 23 v11) 24 v4) 25 v13) 26 v13) 27 r14.1) 28 r16.1) 29 v17) 30 v4) 31 v18) H19)
  (R F.sakialaw20_CasNone.f F.sakialaw20_CasNone.b0 (put (put (put (put (put (put (put (put (put (put (put (put (put (put (put (put (put (put (put (fr0 [x0, x1, x2]) 3 r1.1) 4 r2.1) 6 (Value.bool false)) 17 v3) 18 v4) 19 v5) 20 v6) 7 v4) 8 v6) 21 v7) 22 r8.1) 9 r9.1) 23 v11) 24 v4) 25 v13) 26 v13) 27 r14.1) 28 r16.1) 29 v17) r16.2) :=
  by rw [← obd_is]; exact call_den (fn := Tryd.f12) (by kernel_rfl) (fun _ _ => rfl) (by kernel_rfl) [6, 8] (by kernel_rfl)
theorem F.sakialaw20_CasNone.e0 (a : Fr) (H : Heap) : R F.sakialaw20_CasNone.f F.sakialaw20_CasNone.b0 a H =
  (fadd 0 (a 9)).bind fun v20 =>
  (ld1 H v20).bind fun v21 =>
  (abin P BinOp.eql T.int (Operand.tmp 33) (Operand.const (Value.int IntKind.i64 1)) v21 (Value.int IntKind.i64 1)).bind fun v22 =>
  condK v22
  ((fadd 3 (a 9)).bind fun v23 =>
  (st1 H v23 (Value.int IntKind.i64 1)).bind fun H24 =>
  R F.sakialaw20_CasNone.f F.sakialaw20_CasNone.b1 (put (put (put (put a 32 v20) 33 v21) 34 v22) 35 v23) H24)
  (R F.sakialaw20_CasNone.f F.sakialaw20_CasNone.b1 (put (put (put a 32 v20) 33 v21) 34 v22) H) :=
  by rw [← obd_is]; exact run_den [6, 8] (by kernel_rfl)
theorem F.sakialaw20_CasNone.e1 (a : Fr) (H : Heap) : R F.sakialaw20_CasNone.f F.sakialaw20_CasNone.b1 a H =
  (ldA H 6 (a 9)).bind fun v25 =>
  (C F.layout_Of [v25] H).bind fun r26 =>
  (aext 0 r26.1).bind fun v27 =>
  (aext 1 r26.1).bind fun v28 =>
  (mkbox r26.2 none T.layout_Layout (Value.agg #[Value.int IntKind.i64 0, Value.int IntKind.i64 0, Value.int IntKind.i64 0, Value.int IntKind.i64 0, Value.int IntKind.u64 0, Value.slice none 0 0, Value.int IntKind.i64 0, Value.int IntKind.i64 0, Value.int IntKind.i64 0, Value.int IntKind.i64 0, Value.int IntKind.i64 0, Value.int IntKind.i64 0, Value.int IntKind.i64 0, Value.int IntKind.i64 0])).bind fun r29 =>
  (stA r29.2 14 r29.1 v27).bind fun H30 =>
  (ldA H30 14 r29.1).bind fun v31 =>
  (C F.board_New_u32 [v31] H30).bind fun r32 =>
  (C F.event_NewLog [] r32.2).bind fun r33 =>
  (C F.seqcas_New_u32 [r32.1, r33.1] r33.2).bind fun r34 =>
  (abin P BinOp.neq T.api_Errno (Operand.tmp 47) (Operand.const (Value.int IntKind.i64 0)) v28 (Value.int IntKind.i64 0)).bind fun v35 =>
  (gd v35 false r34.2 (some (r34.1, r34.2))).bind fun r36 =>
  (gd v35 false r36.2 ((abin P BinOp.eql T.p_seqcas_Seq_u32 (Operand.tmp 50) (Operand.const (Value.pointer none)) r36.1 (Value.pointer none)).bind fun v37 => some (v37, r36.2))).bind fun r38 =>
  (gd v35 false r38.2 ((fadd 0 (a 9)).bind fun v39 => some (v39, r38.2))).bind fun r40 =>
  (gd v35 false r40.2 ((ld1 r40.2 r40.1).bind fun v41 => some (v41, r40.2))).bind fun r42 =>
  (gd v35 false r42.2 ((abin P BinOp.neq T.int (Operand.tmp 53) (Operand.const (Value.int IntKind.i64 2)) r42.1 (Value.int IntKind.i64 2)).bind fun v43 => some (v43, r42.2))).bind fun r44 =>
  (gd v35 false r44.2 ((abin P BinOp.neq T.bool (Operand.tmp 51) (Operand.tmp 54) r38.1 r44.1).bind fun v45 => some (v45, r44.2))).bind fun r46 =>
  (apick v35 (Value.bool true) r46.1).bind fun v47 =>
  condK v47
  (some (Value.bool false, r46.2))
  ((fillL [Value.int IntKind.i64 0, Value.int IntKind.i64 0, Value.int IntKind.i64 0, Value.int IntKind.i64 0, Value.int IntKind.i64 0, Value.int IntKind.i64 0, Value.int IntKind.u32 0, Value.int IntKind.u32 0, Value.int IntKind.u32 0, Value.int IntKind.u32 0, Value.slice none 0 0] [(1, 1, (a 2)), (8, 1, Value.int IntKind.u32 7)]).bind fun v48 =>
  (mkbox r46.2 none T.api_Frame_u32 (Value.agg (List.toArray v48))).bind fun r49 =>
  (C F.seqcas_Seq_Claim_u32 [Value.pointer none, (a 8), r49.1] r49.2).bind fun r50 =>
  (aun P UnOp.not r50.1).bind fun v51 =>
  (gd v51 false r50.2 (some (Value.pointer none, r50.2))).bind fun r52 =>
  (gd v51 false r52.2 (some ((a 8), r52.2))).bind fun r53 =>
  (gd v51 false r53.2 (some (r49.1, r53.2))).bind fun r54 =>
  (gd v51 false r54.2 ((C F.seqcas_Seq_Publish_u32 [r52.1, r53.1, r54.1] r54.2).bind fun r55 => some (r55.1, r55.2))).bind fun r56 =>
  (gd v51 false r56.2 ((aun P UnOp.not r56.1).bind fun v57 => some (v57, r56.2))).bind fun r58 =>
  (apick v51 (Value.bool true) r58.1).bind fun v59 =>
  (gd v59 false r58.2 (some (Value.pointer none, r58.2))).bind fun r60 =>
  (gd v59 false r60.2 (some ((a 8), r60.2))).bind fun r61 =>
  (gd v59 false r61.2 (some (r49.1, r61.2))).bind fun r62 =>
  (gd v59 false r62.2 ((C F.seqcas_Seq_Tip_u32 [r60.1, r61.1, r62.1] r62.2).bind fun r63 => some (r63.1, r63.2))).bind fun r64 =>
  (gd v59 false r64.2 ((aun P UnOp.not r64.1).bind fun v65 => some (v65, r64.2))).bind fun r66 =>
  (apick v59 (Value.bool true) r66.1).bind fun v67 =>
  (gd v67 false r66.2 (some (r34.1, r66.2))).bind fun r68 =>
  (gd v67 false r68.2 (some ((a 8), r68.2))).bind fun r69 =>
  (gd v67 false r69.2 ((C F.seqcas_Seq_Claim_u32 [r68.1, r69.1, Value.pointer none] r69.2).bind fun r70 => some (r70.1, r70.2))).bind fun r71 =>
  (gd v67 false r71.2 ((aun P UnOp.not r71.1).bind fun v72 => some (v72, r71.2))).bind fun r73 =>
  (apick v67 (Value.bool true) r73.1).bind fun v74 =>
  (gd v74 false r73.2 (some (r34.1, r73.2))).bind fun r75 =>
  (gd v74 false r75.2 (some ((a 8), r75.2))).bind fun r76 =>
  (gd v74 false r76.2 ((C F.seqcas_Seq_Publish_u32 [r75.1, r76.1, Value.pointer none] r76.2).bind fun r77 => some (r77.1, r77.2))).bind fun r78 =>
  (gd v74 false r78.2 ((aun P UnOp.not r78.1).bind fun v79 => some (v79, r78.2))).bind fun r80 =>
  (apick v74 (Value.bool true) r80.1).bind fun v81 =>
  (gd v81 false r80.2 (some (r34.1, r80.2))).bind fun r82 =>
  (gd v81 false r82.2 (some ((a 8), r82.2))).bind fun r83 =>
  (gd v81 false r83.2 ((C F.seqcas_Seq_Tip_u32 [r82.1, r83.1, Value.pointer none] r83.2).bind fun r84 => some (r84.1, r84.2))).bind fun r85 =>
  (gd v81 false r85.2 ((aun P UnOp.not r85.1).bind fun v86 => some (v86, r85.2))).bind fun r87 =>
  (apick v81 (Value.bool true) r87.1).bind fun v88 =>
  (gd v88 false r87.2 (some (r49.1, r87.2))).bind fun r89 =>
  (gd v88 false r89.2 ((nilc r89.1).bind fun v90 => some (v90, r89.2))).bind fun r91 =>
  (gd v88 false r91.2 ((fadd 8 r91.1).bind fun v92 => some (v92, r91.2))).bind fun r93 =>
  (gd v88 false r93.2 ((ld1 r93.2 r93.1).bind fun v94 => some (v94, r93.2))).bind fun r95 =>
  (gd v88 false r95.2 ((abin P BinOp.neq T.uint32 (Operand.tmp 101) (Operand.const (Value.int IntKind.u32 7)) r95.1 (Value.int IntKind.u32 7)).bind fun v96 => some (v96, r95.2))).bind fun r97 =>
  (apick v88 (Value.bool true) r97.1).bind fun v98 =>
  (gd v98 false r97.2 (some (r32.1, r97.2))).bind fun r99 =>
  (gd v98 false r99.2 ((C F.board_Board_Len_u32 [r99.1] r99.2).bind fun r100 => some (r100.1, r100.2))).bind fun r101 =>
  (gd v98 false r101.2 (some (r33.1, r101.2))).bind fun r102 =>
  (gd v98 false r102.2 ((C F.event_Log_Len [r102.1] r102.2).bind fun r103 => some (r103.1, r103.2))).bind fun r104 =>
  (gd v98 false r104.2 ((abin P BinOp.add T.int (Operand.tmp 106) (Operand.tmp 108) r101.1 r104.1).bind fun v105 => some (v105, r104.2))).bind fun r106 =>
  (gd v98 false r106.2 ((abin P BinOp.neq T.int (Operand.tmp 109) (Operand.const (Value.int IntKind.i64 0)) r106.1 (Value.int IntKind.i64 0)).bind fun v107 => some (v107, r106.2))).bind fun r108 =>
  (apick v98 (Value.bool true) r108.1).bind fun v109 =>
  condK v109
  (some (Value.bool false, r108.2))
  ((abin P BinOp.geq T.int (Operand.tmp 112) (Operand.const (Value.int IntKind.i64 0)) (a 8) (Value.int IntKind.i64 0)).bind fun v110 =>
  (gd v110 true r108.2 (some ((a 8), r108.2))).bind fun r111 =>
  (gd v110 true r111.2 ((fadd 3 (a 9)).bind fun v112 => some (v112, r111.2))).bind fun r113 =>
  (gd v110 true r113.2 ((ld1 r113.2 r113.1).bind fun v114 => some (v114, r113.2))).bind fun r115 =>
  (gd v110 true r115.2 ((abin P BinOp.lss T.int (Operand.tmp 115) (Operand.tmp 117) r111.1 r115.1).bind fun v116 => some (v116, r115.2))).bind fun r117 =>
  (apick v110 r117.1 (Value.bool false)).bind fun v118 =>
  (gd v118 true r117.2 (some ((a 2), r117.2))).bind fun r119 =>
  (gd v118 true r119.2 ((abin P BinOp.geq T.int (Operand.tmp 121) (Operand.const (Value.int IntKind.i64 1)) r119.1 (Value.int IntKind.i64 1)).bind fun v120 => some (v120, r119.2))).bind fun r121 =>
  (apick v118 r121.1 (Value.bool false)).bind fun v122 =>
  (gd v122 true r121.2 (some ((a 2), r121.2))).bind fun r123 =>
  (gd v122 true r123.2 ((fadd 2 (a 9)).bind fun v124 => some (v124, r123.2))).bind fun r125 =>
  (gd v122 true r125.2 ((ld1 r125.2 r125.1).bind fun v126 => some (v126, r125.2))).bind fun r127 =>
  (gd v122 true r127.2 ((abin P BinOp.leq T.int (Operand.tmp 125) (Operand.tmp 127) r123.1 r127.1).bind fun v128 => some (v128, r127.2))).bind fun r129 =>
  (apick v122 r129.1 (Value.bool false)).bind fun v130 =>
  condK v130
  ((C F.sakialaw20_live [] r129.2).bind fun r131 =>
  some (r131.1, r131.2))
  ((C F.seqcas_Seq_Claim_u32 [r34.1, (a 8), r49.1] r129.2).bind fun r132 =>
  (gd r132.1 true r132.2 (some (r34.1, r132.2))).bind fun r133 =>
  (gd r132.1 true r133.2 (some ((a 8), r133.2))).bind fun r134 =>
  (gd r132.1 true r134.2 (some (r49.1, r134.2))).bind fun r135 =>
  (gd r132.1 true r135.2 ((C F.seqcas_Seq_Publish_u32 [r133.1, r134.1, r135.1] r135.2).bind fun r136 => some (r136.1, r136.2))).bind fun r137 =>
  (apick r132.1 r137.1 (Value.bool false)).bind fun v138 =>
  (gd v138 true r137.2 (some (r32.1, r137.2))).bind fun r139 =>
  (gd v138 true r139.2 ((C F.board_Board_Len_u32 [r139.1] r139.2).bind fun r140 => some (r140.1, r140.2))).bind fun r141 =>
  (gd v138 true r141.2 (some (r33.1, r141.2))).bind fun r142 =>
  (gd v138 true r142.2 ((C F.event_Log_Len [r142.1] r142.2).bind fun r143 => some (r143.1, r143.2))).bind fun r144 =>
  (gd v138 true r144.2 ((abin P BinOp.add T.int (Operand.tmp 143) (Operand.tmp 145) r141.1 r144.1).bind fun v145 => some (v145, r144.2))).bind fun r146 =>
  (gd v138 true r146.2 ((abin P BinOp.eql T.int (Operand.tmp 146) (Operand.const (Value.int IntKind.i64 0)) r146.1 (Value.int IntKind.i64 0)).bind fun v147 => some (v147, r146.2))).bind fun r148 =>
  (apick v138 r148.1 (Value.bool false)).bind fun v149 =>
  (gd v149 true r148.2 (some (r49.1, r148.2))).bind fun r150 =>
  (gd v149 true r150.2 ((nilc r150.1).bind fun v151 => some (v151, r150.2))).bind fun r152 =>
  (gd v149 true r152.2 ((fadd 1 r152.1).bind fun v153 => some (v153, r152.2))).bind fun r154 =>
  (gd v149 true r154.2 ((ld1 r154.2 r154.1).bind fun v155 => some (v155, r154.2))).bind fun r156 =>
  (gd v149 true r156.2 (some ((a 2), r156.2))).bind fun r157 =>
  (gd v149 true r157.2 ((abin P BinOp.eql T.int (Operand.tmp 153) (Operand.tmp 154) r156.1 r157.1).bind fun v158 => some (v158, r157.2))).bind fun r159 =>
  (apick v149 r159.1 (Value.bool false)).bind fun v160 =>
  (gd v160 true r159.2 ((C F.sakialaw20_live [] r159.2).bind fun r161 => some (r161.1, r161.2))).bind fun r162 =>
  (apick v160 r162.1 (Value.bool false)).bind fun v163 =>
  some (v163, r162.2)))) :=
  by rw [← obd_is]; exact run_den [6, 8] (by kernel_rfl)

noncomputable def F.sakialaw20_conf.c : Code := (Tryd.f77.body).getD .skip
noncomputable def F.sakialaw20_conf.c1 : Code := cr F.sakialaw20_conf.c
noncomputable def F.sakialaw20_conf.c2 : Code := cr F.sakialaw20_conf.c1
noncomputable def F.sakialaw20_conf.c3 : Code := cr F.sakialaw20_conf.c2
noncomputable def F.sakialaw20_conf.c4 : Code := cl F.sakialaw20_conf.c3
noncomputable def F.sakialaw20_conf.c5 : Code := cr F.sakialaw20_conf.c4
noncomputable def F.sakialaw20_conf.c6 : Code := cl F.sakialaw20_conf.c5
noncomputable def F.sakialaw20_conf.c7 : Code := cl F.sakialaw20_conf.c6
noncomputable def F.sakialaw20_conf.c8 : Code := cr F.sakialaw20_conf.c3
noncomputable def F.sakialaw20_conf.b0 : List Item := [.code F.sakialaw20_conf.c3]
noncomputable def F.sakialaw20_conf.b1 : List Item := [.inLoop F.sakialaw20_conf.c7, .inBlock 0, .code F.sakialaw20_conf.c8]
theorem F.sakialaw20_conf.e (x0 : Value) (H : Heap) : C F.sakialaw20_conf [x0] H =
  (mkbox H none T.sakialaw20_Case x0).bind fun r1 =>
  (mkbox r1.2 none T.api_Conf (Value.agg #[Value.int IntKind.i64 0, Value.int IntKind.i64 0, Value.int IntKind.i64 0, Value.int IntKind.i64 0, Value.int IntKind.u64 0, Value.slice none 0 0])).bind fun r2 =>
  (fadd 1 r1.1).bind fun v3 =>
  (ld1 r2.2 v3).bind fun v4 =>
  (abin P BinOp.rem T.uint8 (Operand.tmp 6) (Operand.const (Value.int IntKind.u8 4)) v4 (Value.int IntKind.u8 4)).bind fun v5 =>
  (abin P BinOp.shl T.int (Operand.const (Value.int IntKind.i64 2)) (Operand.tmp 7) (Value.int IntKind.i64 2) v5).bind fun v6 =>
  (fadd 2 r1.1).bind fun v7 =>
  (ld1 r2.2 v7).bind fun v8 =>
  (abin P BinOp.rem T.uint8 (Operand.tmp 10) (Operand.const (Value.int IntKind.u8 4)) v8 (Value.int IntKind.u8 4)).bind fun v9 =>
  (aconv P T.uint8 T.int v9).bind fun v10 =>
  (abin P BinOp.add T.int (Operand.const (Value.int IntKind.i64 1)) (Operand.tmp 12) (Value.int IntKind.i64 1) v10).bind fun v11 =>
  (fadd 4 r1.1).bind fun v12 =>
  (ld1 r2.2 v12).bind fun v13 =>
  (fillL [Value.int IntKind.i64 0, Value.int IntKind.i64 0, Value.int IntKind.i64 0, Value.int IntKind.i64 0, Value.int IntKind.u64 0, Value.slice none 0 0] [(0, 1, Value.int IntKind.i64 2), (1, 1, Value.int IntKind.i64 32), (2, 1, v6), (3, 1, v11), (4, 1, v13)]).bind fun v14 =>
  (mkbox r2.2 none T.api_Conf (Value.agg #[Value.int IntKind.i64 0, Value.int IntKind.i64 0, Value.int IntKind.i64 0, Value.int IntKind.i64 0, Value.int IntKind.u64 0, Value.slice none 0 0])).bind fun r15 =>
  (stA r15.2 6 r15.1 (Value.agg (List.toArray v14))).bind fun H16 =>
  (fadd 0 r1.1).bind fun v17 =>
  (ld1 H16 v17).bind fun v18 =>
  condK v18
  ((fadd 1 r15.1).bind fun v19 =>
  (st1 H16 v19 (Value.int IntKind.i64 64)).bind fun H20 =>
  R F.sakialaw20_conf.f F.sakialaw20_conf.b0 (put (put (put (put (put (put (put (put (put (put (put (put (put (put (put (put (put (put (fr0 [x0]) 1 r1.1) 2 r2.1) 5 v3) 6 v4) 7 v5) 8 v6) 9 v7) 10 v8) 11 v9) 12 v10) 13 v11) 14 v12) 15 v13) 16 (Value.agg (List.toArray v14))) 3 r15.1) 17 v17) 18 v18) 19 v19) H20)
  (R F.sakialaw20_conf.f F.sakialaw20_conf.b0 (put (put (put (put (put (put (put (put (put (put (put (put (put (put (put (put (put (fr0 [x0]) 1 r1.1) 2 r2.1) 5 v3) 6 v4) 7 v5) 8 v6) 9 v7) 10 v8) 11 v9) 12 v10) 13 v11) 14 v12) 15 v13) 16 (Value.agg (List.toArray v14))) 3 r15.1) 17 v17) 18 v18) H16) :=
  by rw [← obd_is]; exact call_den (fn := Tryd.f77) (by kernel_rfl) (fun _ _ => rfl) (by kernel_rfl) [4] (by kernel_rfl)
theorem F.sakialaw20_conf.e0 (a : Fr) (H : Heap) : R F.sakialaw20_conf.f F.sakialaw20_conf.b0 a H =
  R F.sakialaw20_conf.f F.sakialaw20_conf.b1 (put a 4 (Value.int IntKind.i64 0)) H :=
  run_den [4] (by kernel_rfl)
theorem F.sakialaw20_conf.e1 (a : Fr) (H : Heap) : R F.sakialaw20_conf.f F.sakialaw20_conf.b1 a H =
  (fadd 3 (a 1)).bind fun v21 =>
  (ld1 H v21).bind fun v22 =>
  (abin P BinOp.rem T.uint8 (Operand.tmp 22) (Operand.const (Value.int IntKind.u8 3)) v22 (Value.int IntKind.u8 3)).bind fun v23 =>
  (aconv P T.uint8 T.int v23).bind fun v24 =>
  (abin P BinOp.leq T.int (Operand.tmp 20) (Operand.tmp 24) (a 4) v24).bind fun v25 =>
  condK v25
  ((fadd 5 (a 3)).bind fun v26 =>
  (ld1 H v26).bind fun v27 =>
  (fillL (reps [Value.slice none 0 0] 1) [(0, 1, Value.slice none 0 0)]).bind fun v28 =>
  (mkrow H none T.sl_int 1 v28).bind fun r29 =>
  (aappend r29.2 T.sl_int 1 24 v27 r29.1).bind fun r30 =>
  (fadd 5 (a 3)).bind fun v31 =>
  (st1 r30.2 v31 r30.1).bind fun H32 =>
  (abin P BinOp.add T.int (Operand.tmp 26) (Operand.const (Value.int IntKind.i64 1)) (a 4) (Value.int IntKind.i64 1)).bind fun v33 =>
  R F.sakialaw20_conf.f F.sakialaw20_conf.b1 (put (put (put (put (put (put (put (put (put (put (put (put (put (put a 20 (a 4)) 21 v21) 22 v22) 23 v23) 24 v24) 25 v25) 28 v26) 29 v27) 30 r29.1) 31 r30.1) 32 v31) 26 (a 4)) 27 v33) 4 v33) H32)
  ((ldA H 6 (a 3)).bind fun v34 =>
  (stA H 6 (a 2) v34).bind fun H35 =>
  (ldA H35 6 (a 2)).bind fun v36 =>
  some (v36, H35)) :=
  by rw [← obd_is]; exact run_den [4] (by kernel_rfl)
end Go.Proofs.YtiehmpoanhacaaaDoor
