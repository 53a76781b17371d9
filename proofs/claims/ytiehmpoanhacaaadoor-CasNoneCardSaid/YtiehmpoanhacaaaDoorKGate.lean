/-
  What each function's code comes to in the abstract machine: written by program, each by the kernel's own reckoning; no condition.
-/
import Derived.Test.YtiehmpoanhacaaaDoorFn
import Derived.KernelRfl
set_option maxRecDepth 100000
set_option linter.unusedVariables false
set_option maxHeartbeats 1000000
namespace Go.Proofs.YtiehmpoanhacaaaDoor
open Go Go.Proofs.SakAm
theorem F.gate_Ends.e (x0 : Value) (H : Heap) : C F.gate_Ends [x0] H =
  (mkbox H none T.layout_Layout x0).bind fun r1 =>
  (fadd 13 r1.1).bind fun v2 =>
  (ld1 r1.2 v2).bind fun v3 =>
  (abin P BinOp.eql T.int (Operand.tmp 4) (Operand.const (Value.int IntKind.i64 0)) v3 (Value.int IntKind.i64 0)).bind fun v4 =>
  condK v4
  (some (Value.slice none 0 0, r1.2))
  ((ldA r1.2 14 r1.1).bind fun v5 =>
  ifD (true) <|
  (fadd 0 r1.1).bind fun v6 =>
  (fadd 5 v6).bind fun v7 =>
  (ld1 r1.2 v7).bind fun v8 =>
  ifD (true) <|
  (C F.graph_Ends [v8] r1.2).bind fun r9 =>
  ifD (tells (ldA r9.2 14 r1.1) v5 && true) <|
  (C F.gate_gates [v5, r9.1] r9.2).bind fun r10 =>
  ifD (true) <|
  some (r10.1, r10.2)) :=
  by rw [← obd_is]; exact call_den (fn := Tryd.f24) (by kernel_rfl) (fun _ _ => rfl) (by kernel_rfl) [] (by kernel_rfl)

noncomputable def F.gate_Scan_u32.c : Code := (Tryd.f28.body).getD .skip
noncomputable def F.gate_Scan_u32.c1 : Code := cr F.gate_Scan_u32.c
noncomputable def F.gate_Scan_u32.c2 : Code := cr F.gate_Scan_u32.c1
noncomputable def F.gate_Scan_u32.c3 : Code := cr F.gate_Scan_u32.c2
noncomputable def F.gate_Scan_u32.c4 : Code := cr F.gate_Scan_u32.c3
noncomputable def F.gate_Scan_u32.c5 : Code := cr F.gate_Scan_u32.c4
noncomputable def F.gate_Scan_u32.b0 : List Item := [.code F.gate_Scan_u32.c5]
theorem F.gate_Scan_u32.e (x0 x1 x2 x3 : Value) (H : Heap) : C F.gate_Scan_u32 [x0, x1, x2, x3] H =
  (abin P BinOp.eql T.p_board_Board_u32 (Operand.tmp 10) (Operand.const (Value.pointer none)) x0 (Value.pointer none)).bind fun v1 =>
  (gd v1 false H (some (x3, H))).bind fun r2 =>
  (gd v1 false r2.2 ((abin P BinOp.eql T.p_api_Frame_u32 (Operand.tmp 13) (Operand.const (Value.pointer none)) r2.1 (Value.pointer none)).bind fun v3 => some (v3, r2.2))).bind fun r4 =>
  (apick v1 (Value.bool true) r4.1).bind fun v5 =>
  condK v5
  (some (Value.bool true, r4.2))
  ((nilc x3).bind fun v6 =>
  (fadd 4 v6).bind fun v7 =>
  (ld1 r4.2 v7).bind fun v8 =>
  (abin P BinOp.lss T.int (Operand.tmp 19) (Operand.const (Value.int IntKind.i64 0)) v8 (Value.int IntKind.i64 0)).bind fun v9 =>
  (gd v9 false r4.2 (some (x3, r4.2))).bind fun r10 =>
  (gd v9 false r10.2 ((nilc r10.1).bind fun v11 => some (v11, r10.2))).bind fun r12 =>
  (gd v9 false r12.2 ((fadd 4 r12.1).bind fun v13 => some (v13, r12.2))).bind fun r14 =>
  (gd v9 false r14.2 ((ld1 r14.2 r14.1).bind fun v15 => some (v15, r14.2))).bind fun r16 =>
  (gd v9 false r16.2 (some (x2, r16.2))).bind fun r17 =>
  (gd v9 false r17.2 ((alen r17.1).bind fun v18 => some (v18, r17.2))).bind fun r19 =>
  (gd v9 false r19.2 ((abin P BinOp.geq T.int (Operand.tmp 25) (Operand.tmp 27) r16.1 r19.1).bind fun v20 => some (v20, r19.2))).bind fun r21 =>
  (apick v9 (Value.bool true) r21.1).bind fun v22 =>
  condK v22
  ((nilc x3).bind fun v23 =>
  (fadd 4 v23).bind fun v24 =>
  (st1 r21.2 v24 (Value.int IntKind.i64 0)).bind fun H25 =>
  some (Value.bool true, H25))
  ((nilc x3).bind fun v26 =>
  (fadd 4 v26).bind fun v27 =>
  (ld1 r21.2 v27).bind fun v28 =>
  (sadd 1 x2 v28).bind fun v29 =>
  (ld1 r21.2 v29).bind fun v30 =>
  (C F.board_Board_Load_u32 [x0, x1, v30] r21.2).bind fun r31 =>
  (nilc x3).bind fun v32 =>
  (fadd 4 v32).bind fun v33 =>
  (ld1 r31.2 v33).bind fun v34 =>
  (abin P BinOp.eql T.int (Operand.tmp 46) (Operand.const (Value.int IntKind.i64 0)) v34 (Value.int IntKind.i64 0)).bind fun v35 =>
  (gd v35 false r31.2 (some (r31.1, r31.2))).bind fun r36 =>
  (gd v35 false r36.2 (some (x3, r36.2))).bind fun r37 =>
  (gd v35 false r37.2 ((nilc r37.1).bind fun v38 => some (v38, r37.2))).bind fun r39 =>
  (gd v35 false r39.2 ((fadd 7 r39.1).bind fun v40 => some (v40, r39.2))).bind fun r41 =>
  (gd v35 false r41.2 ((ld1 r41.2 r41.1).bind fun v42 => some (v42, r41.2))).bind fun r43 =>
  (gd v35 false r43.2 ((C F.wide_Less_u32 [r36.1, r43.1] r43.2).bind fun r44 => some (r44.1, r44.2))).bind fun r45 =>
  (apick v35 (Value.bool true) r45.1).bind fun v46 =>
  condK v46
  ((nilc x3).bind fun v47 =>
  (fadd 7 v47).bind fun v48 =>
  (st1 r45.2 v48 r31.1).bind fun H49 =>
  R F.gate_Scan_u32.f F.gate_Scan_u32.b0 (put (put (put (put (put (put (put (put (put (put (put (put (put (put (put (put (put (put (put (put (put (put (put (put (put (put (put (put (put (put (put (put (put (put (put (put (put (put (put (put (put (put (put (put (put (put (put (put (put (fr0 [x0, x1, x2, x3]) 8 (Value.bool false)) 10 x0) 11 v1) 12 v1) 13 r2.1) 14 r4.1) 15 v5) 16 x3) 17 v6) 18 v7) 19 v8) 20 v9) 21 v9) 22 r10.1) 23 r12.1) 24 r14.1) 25 r16.1) 26 r17.1) 27 r19.1) 28 r21.1) 29 v22) 33 x0) 34 x1) 35 x2) 36 x3) 37 v26) 38 v27) 39 v28) 40 v29) 41 v30) 42 r31.1) 9 r31.1) 43 x3) 44 v32) 45 v33) 46 v34) 47 v35) 48 v35) 49 r36.1) 50 r37.1) 51 r39.1) 52 r41.1) 53 r43.1) 54 r45.1) 55 v46) 56 x3) 57 r31.1) 58 v47) 59 v48) H49)
  (R F.gate_Scan_u32.f F.gate_Scan_u32.b0 (put (put (put (put (put (put (put (put (put (put (put (put (put (put (put (put (put (put (put (put (put (put (put (put (put (put (put (put (put (put (put (put (put (put (put (put (put (put (put (put (put (put (put (put (put (fr0 [x0, x1, x2, x3]) 8 (Value.bool false)) 10 x0) 11 v1) 12 v1) 13 r2.1) 14 r4.1) 15 v5) 16 x3) 17 v6) 18 v7) 19 v8) 20 v9) 21 v9) 22 r10.1) 23 r12.1) 24 r14.1) 25 r16.1) 26 r17.1) 27 r19.1) 28 r21.1) 29 v22) 33 x0) 34 x1) 35 x2) 36 x3) 37 v26) 38 v27) 39 v28) 40 v29) 41 v30) 42 r31.1) 9 r31.1) 43 x3) 44 v32) 45 v33) 46 v34) 47 v35) 48 v35) 49 r36.1) 50 r37.1) 51 r39.1) 52 r41.1) 53 r43.1) 54 r45.1) 55 v46) r45.2))) :=
  by rw [← obd_is]; exact call_den (fn := Tryd.f28) (by kernel_rfl) (fun _ _ => rfl) (by kernel_rfl) [9] (by kernel_rfl)
theorem F.gate_Scan_u32.e0 (a : Fr) (H : Heap) : R F.gate_Scan_u32.f F.gate_Scan_u32.b0 a H =
  (nilc (a 3)).bind fun v50 =>
  (fadd 4 v50).bind fun v51 =>
  (ld1 H v51).bind fun v52 =>
  (abin P BinOp.add T.int (Operand.tmp 63) (Operand.const (Value.int IntKind.i64 1)) v52 (Value.int IntKind.i64 1)).bind fun v53 =>
  (nilc (a 3)).bind fun v54 =>
  (fadd 4 v54).bind fun v55 =>
  (st1 H v55 v53).bind fun H56 =>
  (nilc (a 3)).bind fun v57 =>
  (fadd 4 v57).bind fun v58 =>
  (ld1 H56 v58).bind fun v59 =>
  (alen (a 2)).bind fun v60 =>
  (abin P BinOp.lss T.int (Operand.tmp 70) (Operand.tmp 72) v59 v60).bind fun v61 =>
  condK v61
  (some (Value.bool false, H56))
  ((nilc (a 3)).bind fun v62 =>
  (fadd 4 v62).bind fun v63 =>
  (st1 H56 v63 (Value.int IntKind.i64 0)).bind fun H64 =>
  some (Value.bool true, H64)) :=
  by rw [← obd_is]; exact run_den [9] (by kernel_rfl)

theorem F.gate_Fits_u32.e (x0 x1 x2 x3 : Value) (H : Heap) : C F.gate_Fits_u32 [x0, x1, x2, x3] H =
  (C F.wide_Add_u32 [x1, x2] H).bind fun r1 =>
  (C F.wide_Diff_u32 [r1.1, x3] r1.2).bind fun r2 =>
  (abin P BinOp.leq T.int (Operand.tmp 13) (Operand.tmp 14) r2.1 x0).bind fun v3 =>
  some (v3, r2.2) :=
  by rw [← obd_is]; exact call_den (fn := Tryd.f62) (by kernel_rfl) (fun _ _ => rfl) (by kernel_rfl) [] (by kernel_rfl)

noncomputable def F.gate_gates.c : Code := (Tryd.f92.body).getD .skip
noncomputable def F.gate_gates.c1 : Code := cr F.gate_gates.c
noncomputable def F.gate_gates.c2 : Code := cr F.gate_gates.c1
noncomputable def F.gate_gates.c3 : Code := cl F.gate_gates.c2
noncomputable def F.gate_gates.c4 : Code := cr F.gate_gates.c3
noncomputable def F.gate_gates.c5 : Code := cl F.gate_gates.c4
noncomputable def F.gate_gates.c6 : Code := cl F.gate_gates.c5
noncomputable def F.gate_gates.c7 : Code := cr F.gate_gates.c2
noncomputable def F.gate_gates.b0 : List Item := [.inLoop F.gate_gates.c6, .inBlock 0, .code F.gate_gates.c7]
theorem F.gate_gates.e (x0 x1 : Value) (H : Heap) : C F.gate_gates [x0, x1] H =
  (mkbox H none T.layout_Layout x0).bind fun r1 =>
  (alen x1).bind fun v2 =>
  R F.gate_gates.f F.gate_gates.b0 (put (put (put (put (put (put (fr0 [x0, x1]) 2 r1.1) 4 (Value.slice none 0 0)) 5 (Value.slice none 0 0)) 8 x1) 9 v2) 10 (Value.int IntKind.i64 0)) r1.2 :=
  by rw [← obd_is]; exact call_den (fn := Tryd.f92) (by kernel_rfl) (fun _ _ => rfl) (by kernel_rfl) [] (by kernel_rfl)
theorem F.gate_gates.e0 (a : Fr) (H : Heap) : R F.gate_gates.f F.gate_gates.b0 a H =
  (abin P BinOp.lss T.int (Operand.tmp 10) (Operand.tmp 9) (a 10) (a 9)).bind fun v3 =>
  condK v3
  ((sadd 1 (a 8) (a 10)).bind fun v4 =>
  (ld1 H v4).bind fun v5 =>
  (ldA H 14 (a 2)).bind fun v6 =>
  (C F.layout_Layout_Gate [v6, v5] H).bind fun r7 =>
  (fillL (reps [Value.int IntKind.i64 0] 1) [(0, 1, r7.1)]).bind fun v8 =>
  (mkrow r7.2 none T.int 1 v8).bind fun r9 =>
  (aappend r9.2 T.int 1 8 (a 5) r9.1).bind fun r10 =>
  (abin P BinOp.add T.int (Operand.tmp 10) (Operand.const (Value.int IntKind.i64 1)) (a 10) (Value.int IntKind.i64 1)).bind fun v11 =>
  R F.gate_gates.f F.gate_gates.b0 (put (put (put (put (put (put (put (put (put (put (put (put (put a 11 v3) 12 v4) 13 v5) 7 v5) 14 (a 5)) 15 v6) 16 v5) 17 r7.1) 18 r9.1) 19 r10.1) 5 r10.1) 20 v11) 10 v11) r10.2)
  (some ((a 5), H)) :=
  by rw [← obd_is]; exact run_den [] (by kernel_rfl)
end Go.Proofs.YtiehmpoanhacaaaDoor
