/-
  What each function's code comes to in the abstract machine: written by program, each by the kernel's own reckoning; no condition.
-/
import Derived.Test.YtiehmpoanhacaaaDoorFn
import Derived.KernelRfl
set_option maxRecDepth 100000
set_option linter.unusedVariables false
set_option maxHeartbeats 1000000
namespace Go.Proofs.YtiehmpoanhacaaaDoor
open Go Go.Proofs.SakAm
noncomputable def F.layout_Of.c : Code := (Tryd.f18.body).getD .skip
noncomputable def F.layout_Of.c1 : Code := cr F.layout_Of.c
noncomputable def F.layout_Of.c2 : Code := cr F.layout_Of.c1
noncomputable def F.layout_Of.c3 : Code := cr F.layout_Of.c2
noncomputable def F.layout_Of.c4 : Code := cr F.layout_Of.c3
noncomputable def F.layout_Of.c5 : Code := cr F.layout_Of.c4
noncomputable def F.layout_Of.c6 : Code := cr F.layout_Of.c5
noncomputable def F.layout_Of.b0 : List Item := [.code F.layout_Of.c6]
theorem F.layout_Of.e (x0 : Value) (H : Heap) : C F.layout_Of [x0] H =
  (mkbox H none T.api_Conf x0).bind fun r1 =>
  (mkbox r1.2 none T.layout_Layout (Value.agg #[Value.int IntKind.i64 0, Value.int IntKind.i64 0, Value.int IntKind.i64 0, Value.int IntKind.i64 0, Value.int IntKind.u64 0, Value.slice none 0 0, Value.int IntKind.i64 0, Value.int IntKind.i64 0, Value.int IntKind.i64 0, Value.int IntKind.i64 0, Value.int IntKind.i64 0, Value.int IntKind.i64 0, Value.int IntKind.i64 0, Value.int IntKind.i64 0])).bind fun r2 =>
  (ldA r2.2 6 r1.1).bind fun v3 =>
  (C F.conf_Check [v3] r2.2).bind fun r4 =>
  (abin P BinOp.neq T.api_Errno (Operand.tmp 9) (Operand.const (Value.int IntKind.i64 0)) r4.1 (Value.int IntKind.i64 0)).bind fun v5 =>
  condK v5
  ((fillL [Value.int IntKind.i64 0, Value.int IntKind.i64 0, Value.int IntKind.i64 0, Value.int IntKind.i64 0, Value.int IntKind.u64 0, Value.slice none 0 0, Value.int IntKind.i64 0, Value.int IntKind.i64 0, Value.int IntKind.i64 0, Value.int IntKind.i64 0, Value.int IntKind.i64 0, Value.int IntKind.i64 0, Value.int IntKind.i64 0, Value.int IntKind.i64 0] []).bind fun v6 =>
  (stA r4.2 14 r2.1 (Value.agg (List.toArray v6))).bind fun H7 =>
  (ldA H7 14 r2.1).bind fun v8 =>
  some (Value.tuple (List.toArray [v8, r4.1]), H7))
  ((fadd 5 r1.1).bind fun v9 =>
  (ld1 r4.2 v9).bind fun v10 =>
  (C F.graph_Copy [v10] r4.2).bind fun r11 =>
  (fadd 5 r1.1).bind fun v12 =>
  (st1 r11.2 v12 r11.1).bind fun H13 =>
  (fadd 5 r1.1).bind fun v14 =>
  (ld1 H13 v14).bind fun v15 =>
  (alen v15).bind fun v16 =>
  (ldA H13 6 r1.1).bind fun v17 =>
  (fillL [Value.int IntKind.i64 0, Value.int IntKind.i64 0, Value.int IntKind.i64 0, Value.int IntKind.i64 0, Value.int IntKind.u64 0, Value.slice none 0 0, Value.int IntKind.i64 0, Value.int IntKind.i64 0, Value.int IntKind.i64 0, Value.int IntKind.i64 0, Value.int IntKind.i64 0, Value.int IntKind.i64 0, Value.int IntKind.i64 0, Value.int IntKind.i64 0] [(0, 6, v17), (6, 1, Value.int IntKind.i64 (-1)), (7, 1, Value.int IntKind.i64 (-1)), (8, 1, Value.int IntKind.i64 (-1)), (9, 1, Value.int IntKind.i64 (-1)), (10, 1, Value.int IntKind.i64 (-1)), (11, 1, Value.int IntKind.i64 (-1))]).bind fun v18 =>
  (mkbox H13 none T.layout_Layout (Value.agg #[Value.int IntKind.i64 0, Value.int IntKind.i64 0, Value.int IntKind.i64 0, Value.int IntKind.i64 0, Value.int IntKind.u64 0, Value.slice none 0 0, Value.int IntKind.i64 0, Value.int IntKind.i64 0, Value.int IntKind.i64 0, Value.int IntKind.i64 0, Value.int IntKind.i64 0, Value.int IntKind.i64 0, Value.int IntKind.i64 0, Value.int IntKind.i64 0])).bind fun r19 =>
  (stA r19.2 14 r19.1 (Value.agg (List.toArray v18))).bind fun H20 =>
  (fadd 0 r1.1).bind fun v21 =>
  (ld1 H20 v21).bind fun v22 =>
  (abin P BinOp.eql T.int (Operand.tmp 23) (Operand.const (Value.int IntKind.i64 1)) v22 (Value.int IntKind.i64 1)).bind fun v23 =>
  condK v23
  ((abin P BinOp.add T.int (Operand.tmp 37) (Operand.const (Value.int IntKind.i64 1)) v16 (Value.int IntKind.i64 1)).bind fun v24 =>
  (fadd 6 r19.1).bind fun v25 =>
  (st1 H20 v25 v16).bind fun H26 =>
  R F.layout_Of.f F.layout_Of.b0 (put (put (put (put (put (put (put (put (put (put (put (put (put (put (put (put (put (put (put (put (put (put (put (put (put (put (put (put (fr0 [x0]) 1 r1.1) 2 r2.1) 3 (Value.int IntKind.i64 0)) 7 v3) 8 r4.1) 4 r4.1) 9 r4.1) 10 v5) 13 v9) 14 v10) 15 r11.1) 16 v12) 17 v14) 18 v15) 19 v16) 5 v16) 20 v17) 21 (Value.agg (List.toArray v18))) 6 r19.1) 22 v21) 23 v22) 35 v23) 34 v23) 36 v16) 37 v16) 38 v24) 39 v25) 5 v24) H26)
  ((abin P BinOp.eql T.int (Operand.tmp 23) (Operand.const (Value.int IntKind.i64 5)) v22 (Value.int IntKind.i64 5)).bind fun v27 =>
  condK v27
  ((abin P BinOp.add T.int (Operand.tmp 43) (Operand.const (Value.int IntKind.i64 1)) v16 (Value.int IntKind.i64 1)).bind fun v28 =>
  (abin P BinOp.add T.int (Operand.tmp 45) (Operand.const (Value.int IntKind.i64 2)) v16 (Value.int IntKind.i64 2)).bind fun v29 =>
  (abin P BinOp.add T.int (Operand.tmp 47) (Operand.const (Value.int IntKind.i64 3)) v16 (Value.int IntKind.i64 3)).bind fun v30 =>
  (abin P BinOp.add T.int (Operand.tmp 49) (Operand.const (Value.int IntKind.i64 3)) v16 (Value.int IntKind.i64 3)).bind fun v31 =>
  (fadd 2 r1.1).bind fun v32 =>
  (ld1 H20 v32).bind fun v33 =>
  ifD (true) <|
  (abin P BinOp.add T.int (Operand.tmp 50) (Operand.tmp 52) v31 v33).bind fun v34 =>
  (fadd 8 r19.1).bind fun v35 =>
  (st1 H20 v35 v16).bind fun H36 =>
  ifD (tells (ld1 H36 v32) v33 && true) <|
  (fadd 9 r19.1).bind fun v37 =>
  (st1 H36 v37 v28).bind fun H38 =>
  ifD (tells (ld1 H38 v32) v33 && true) <|
  (fadd 10 r19.1).bind fun v39 =>
  (st1 H38 v39 v29).bind fun H40 =>
  ifD (tells (ld1 H40 v32) v33 && true) <|
  (fadd 11 r19.1).bind fun v41 =>
  (st1 H40 v41 v30).bind fun H42 =>
  ifD (tells (ld1 H42 v32) v33 && true) <|
  R F.layout_Of.f F.layout_Of.b0 (put (put (put (put (put (put (put (put (put (put (put (put (put (put (put (put (put (put (put (put (put (put (put (put (put (put (put (put (put (put (put (put (put (put (put (put (put (put (put (put (put (put (fr0 [x0]) 1 r1.1) 2 r2.1) 3 (Value.int IntKind.i64 0)) 7 v3) 8 r4.1) 4 r4.1) 9 r4.1) 10 v5) 13 v9) 14 v10) 15 r11.1) 16 v12) 17 v14) 18 v15) 19 v16) 5 v16) 20 v17) 21 (Value.agg (List.toArray v18))) 6 r19.1) 22 v21) 23 v22) 35 v23) 34 v23) 41 v27) 40 v27) 42 v16) 43 v16) 44 v28) 45 v16) 46 v29) 47 v16) 48 v30) 49 v16) 50 v31) 51 v32) 52 v33) 53 v34) 54 v35) 55 v37) 56 v39) 57 v41) 5 v34) H42)
  ((abin P BinOp.add T.int (Operand.tmp 25) (Operand.const (Value.int IntKind.i64 1)) v16 (Value.int IntKind.i64 1)).bind fun v43 =>
  (abin P BinOp.add T.int (Operand.tmp 27) (Operand.const (Value.int IntKind.i64 1)) v16 (Value.int IntKind.i64 1)).bind fun v44 =>
  (fadd 2 r1.1).bind fun v45 =>
  (ld1 H20 v45).bind fun v46 =>
  ifD (true) <|
  (abin P BinOp.add T.int (Operand.tmp 28) (Operand.tmp 30) v44 v46).bind fun v47 =>
  (fadd 7 r19.1).bind fun v48 =>
  (st1 H20 v48 v16).bind fun H49 =>
  ifD (tells (ld1 H49 v45) v46 && true) <|
  (fadd 11 r19.1).bind fun v50 =>
  (st1 H49 v50 v43).bind fun H51 =>
  ifD (tells (ld1 H51 v45) v46 && true) <|
  R F.layout_Of.f F.layout_Of.b0 (put (put (put (put (put (put (put (put (put (put (put (put (put (put (put (put (put (put (put (put (put (put (put (put (put (put (put (put (put (put (put (put (put (put (put (put (fr0 [x0]) 1 r1.1) 2 r2.1) 3 (Value.int IntKind.i64 0)) 7 v3) 8 r4.1) 4 r4.1) 9 r4.1) 10 v5) 13 v9) 14 v10) 15 r11.1) 16 v12) 17 v14) 18 v15) 19 v16) 5 v16) 20 v17) 21 (Value.agg (List.toArray v18))) 6 r19.1) 22 v21) 23 v22) 35 v23) 34 v23) 41 v27) 40 v27) 24 v16) 25 v16) 26 v43) 27 v16) 28 v44) 29 v45) 30 v46) 31 v47) 32 v48) 33 v50) 5 v47) H51))) :=
  by rw [← obd_is]; exact call_den (fn := Tryd.f18) (by kernel_rfl) (fun _ _ => rfl) (by kernel_rfl) [13] (by kernel_rfl)
theorem F.layout_Of.e0 (a : Fr) (H : Heap) : R F.layout_Of.f F.layout_Of.b0 a H =
  (fadd 2 (a 1)).bind fun v52 =>
  (ld1 H v52).bind fun v53 =>
  ifD (true) <|
  (abin P BinOp.add T.int (Operand.tmp 59) (Operand.tmp 61) (a 5) v53).bind fun v54 =>
  (fadd 12 (a 6)).bind fun v55 =>
  (st1 H v55 (a 5)).bind fun H56 =>
  ifD (tells (ld1 H56 v52) v53 && true) <|
  (fadd 13 (a 6)).bind fun v57 =>
  (st1 H56 v57 v54).bind fun H58 =>
  ifD (true) <|
  (ldA H58 14 (a 6)).bind fun v59 =>
  (stA H58 14 (a 2) v59).bind fun H60 =>
  (ldA H60 14 (a 2)).bind fun v61 =>
  some (Value.tuple (List.toArray [v61, Value.int IntKind.i64 0]), H60) :=
  by rw [← obd_is]; exact run_den [13] (by kernel_rfl)

theorem F.layout_Layout_Kind.e (x0 x1 : Value) (H : Heap) : C F.layout_Layout_Kind [x0, x1] H =
  (mkbox H none T.layout_Layout x0).bind fun r1 =>
  (ldA r1.2 14 r1.1).bind fun v2 =>
  (C F.layout_Layout_there [v2, x1] r1.2).bind fun r3 =>
  (aun P UnOp.not r3.1).bind fun v4 =>
  condK v4
  (some (Value.int IntKind.i64 0, r3.2))
  ((fadd 12 r1.1).bind fun v5 =>
  (ld1 r3.2 v5).bind fun v6 =>
  (abin P BinOp.geq T.int (Operand.tmp 11) (Operand.tmp 13) x1 v6).bind fun v7 =>
  condK v7
  (some (Value.int IntKind.i64 3, r3.2))
  ((fadd 10 r1.1).bind fun v8 =>
  (ld1 r3.2 v8).bind fun v9 =>
  (abin P BinOp.geq T.int (Operand.tmp 17) (Operand.const (Value.int IntKind.i64 0)) v9 (Value.int IntKind.i64 0)).bind fun v10 =>
  (gd v10 true r3.2 (some (x1, r3.2))).bind fun r11 =>
  (gd v10 true r11.2 ((fadd 10 r1.1).bind fun v12 => some (v12, r11.2))).bind fun r13 =>
  (gd v10 true r13.2 ((ld1 r13.2 r13.1).bind fun v14 => some (v14, r13.2))).bind fun r15 =>
  (gd v10 true r15.2 ((abin P BinOp.geq T.int (Operand.tmp 20) (Operand.tmp 22) r11.1 r15.1).bind fun v16 => some (v16, r15.2))).bind fun r17 =>
  (apick v10 r17.1 (Value.bool false)).bind fun v18 =>
  condK v18
  (some (Value.int IntKind.i64 2, r17.2))
  (some (Value.int IntKind.i64 1, r17.2)))) :=
  by rw [← obd_is]; exact call_den (fn := Tryd.f37) (by kernel_rfl) (fun _ _ => rfl) (by kernel_rfl) [] (by kernel_rfl)

theorem F.layout_Layout_First.e (x0 x1 : Value) (H : Heap) : C F.layout_Layout_First [x0, x1] H =
  (mkbox H none T.layout_Layout x0).bind fun r1 =>
  (ldA r1.2 14 r1.1).bind fun v2 =>
  (C F.layout_Layout_there [v2, x1] r1.2).bind fun r3 =>
  (aun P UnOp.not r3.1).bind fun v4 =>
  (gd v4 false r3.2 (some (x1, r3.2))).bind fun r5 =>
  (gd v4 false r5.2 ((fadd 12 r1.1).bind fun v6 => some (v6, r5.2))).bind fun r7 =>
  (gd v4 false r7.2 ((ld1 r7.2 r7.1).bind fun v8 => some (v8, r7.2))).bind fun r9 =>
  (gd v4 false r9.2 ((abin P BinOp.geq T.int (Operand.tmp 13) (Operand.tmp 15) r5.1 r9.1).bind fun v10 => some (v10, r9.2))).bind fun r11 =>
  (apick v4 (Value.bool true) r11.1).bind fun v12 =>
  (gd v12 false r11.2 (some (x1, r11.2))).bind fun r13 =>
  (gd v12 false r13.2 ((fadd 8 r1.1).bind fun v14 => some (v14, r13.2))).bind fun r15 =>
  (gd v12 false r15.2 ((ld1 r15.2 r15.1).bind fun v16 => some (v16, r15.2))).bind fun r17 =>
  (gd v12 false r17.2 ((abin P BinOp.eql T.int (Operand.tmp 19) (Operand.tmp 21) r13.1 r17.1).bind fun v18 => some (v18, r17.2))).bind fun r19 =>
  (apick v12 (Value.bool true) r19.1).bind fun v20 =>
  (gd v20 false r19.2 (some (x1, r19.2))).bind fun r21 =>
  (gd v20 false r21.2 ((fadd 9 r1.1).bind fun v22 => some (v22, r21.2))).bind fun r23 =>
  (gd v20 false r23.2 ((ld1 r23.2 r23.1).bind fun v24 => some (v24, r23.2))).bind fun r25 =>
  (gd v20 false r25.2 ((abin P BinOp.eql T.int (Operand.tmp 25) (Operand.tmp 27) r21.1 r25.1).bind fun v26 => some (v26, r25.2))).bind fun r27 =>
  (apick v20 (Value.bool true) r27.1).bind fun v28 =>
  condK v28
  (some (Value.int IntKind.u64 0, r27.2))
  ((fadd 0 r1.1).bind fun v29 =>
  (ldA r27.2 6 v29).bind fun v30 =>
  (C F.conf_Start [v30] r27.2).bind fun r31 =>
  (ldA r31.2 14 r1.1).bind fun v32 =>
  (C F.layout_Layout_marked [v32, x1] r31.2).bind fun r33 =>
  (aext 0 r33.1).bind fun v34 =>
  (aext 1 r33.1).bind fun v35 =>
  (aun P UnOp.not v35).bind fun v36 =>
  condK v36
  (some (r31.1, r33.2))
  ((fadd 0 r1.1).bind fun v37 =>
  (fadd 1 v37).bind fun v38 =>
  (ld1 r33.2 v38).bind fun v39 =>
  (abin P BinOp.eql T.int (Operand.tmp 46) (Operand.const (Value.int IntKind.i64 32)) v39 (Value.int IntKind.i64 32)).bind fun v40 =>
  (gd v40 true r33.2 ((fadd 0 r1.1).bind fun v41 => some (v41, r33.2))).bind fun r42 =>
  (gd v40 true r42.2 ((fadd 0 r42.1).bind fun v43 => some (v43, r42.2))).bind fun r44 =>
  (gd v40 true r44.2 ((ld1 r44.2 r44.1).bind fun v45 => some (v45, r44.2))).bind fun r46 =>
  (gd v40 true r46.2 ((abin P BinOp.eql T.int (Operand.tmp 51) (Operand.const (Value.int IntKind.i64 4)) r46.1 (Value.int IntKind.i64 4)).bind fun v47 => some (v47, r46.2))).bind fun r48 =>
  (apick v40 r48.1 (Value.bool false)).bind fun v49 =>
  condK v49
  ((fadd 0 r1.1).bind fun v50 =>
  (fadd 2 v50).bind fun v51 =>
  (ld1 r48.2 v51).bind fun v52 =>
  (aconv P T.uint64 T.uint32 r31.1).bind fun v53 =>
  (C F.lap_First_u32 [v52, v34, v53] r48.2).bind fun r54 =>
  (aconv P T.uint32 T.uint64 r54.1).bind fun v55 =>
  some (v55, r54.2))
  ((fadd 0 r1.1).bind fun v56 =>
  (fadd 1 v56).bind fun v57 =>
  (ld1 r48.2 v57).bind fun v58 =>
  (abin P BinOp.eql T.int (Operand.tmp 65) (Operand.const (Value.int IntKind.i64 32)) v58 (Value.int IntKind.i64 32)).bind fun v59 =>
  condK v59
  ((fadd 0 r1.1).bind fun v60 =>
  (fadd 2 v60).bind fun v61 =>
  (ld1 r48.2 v61).bind fun v62 =>
  (aconv P T.uint64 T.uint32 r31.1).bind fun v63 =>
  (C F.lap_Ahead_u32 [v62, v34, v63] r48.2).bind fun r64 =>
  (aconv P T.uint32 T.uint64 r64.1).bind fun v65 =>
  some (v65, r64.2))
  ((fadd 0 r1.1).bind fun v66 =>
  (fadd 0 v66).bind fun v67 =>
  (ld1 r48.2 v67).bind fun v68 =>
  (abin P BinOp.eql T.int (Operand.tmp 78) (Operand.const (Value.int IntKind.i64 4)) v68 (Value.int IntKind.i64 4)).bind fun v69 =>
  condK v69
  ((fadd 0 r1.1).bind fun v70 =>
  (fadd 2 v70).bind fun v71 =>
  (ld1 r48.2 v71).bind fun v72 =>
  (C F.lap_First_u64 [v72, v34, r31.1] r48.2).bind fun r73 =>
  some (r73.1, r73.2))
  ((fadd 0 r1.1).bind fun v74 =>
  (fadd 2 v74).bind fun v75 =>
  (ld1 r48.2 v75).bind fun v76 =>
  (C F.lap_Ahead_u64 [v76, v34, r31.1] r48.2).bind fun r77 =>
  some (r77.1, r77.2)))))) :=
  by rw [← obd_is]; exact call_den (fn := Tryd.f41) (by kernel_rfl) (fun _ _ => rfl) (by kernel_rfl) [] (by kernel_rfl)

theorem F.layout_Layout_Gate.e (x0 x1 : Value) (H : Heap) : C F.layout_Layout_Gate [x0, x1] H =
  (mkbox H none T.layout_Layout x0).bind fun r1 =>
  (ldA r1.2 14 r1.1).bind fun v2 =>
  (C F.layout_Layout_made [v2] r1.2).bind fun r3 =>
  (aun P UnOp.not r3.1).bind fun v4 =>
  (gd v4 false r3.2 (some (x1, r3.2))).bind fun r5 =>
  (gd v4 false r5.2 ((abin P BinOp.lss T.int (Operand.tmp 9) (Operand.const (Value.int IntKind.i64 0)) r5.1 (Value.int IntKind.i64 0)).bind fun v6 => some (v6, r5.2))).bind fun r7 =>
  (apick v4 (Value.bool true) r7.1).bind fun v8 =>
  (gd v8 false r7.2 (some (x1, r7.2))).bind fun r9 =>
  (gd v8 false r9.2 ((fadd 0 r1.1).bind fun v10 => some (v10, r9.2))).bind fun r11 =>
  (gd v8 false r11.2 ((fadd 5 r11.1).bind fun v12 => some (v12, r11.2))).bind fun r13 =>
  (gd v8 false r13.2 ((ld1 r13.2 r13.1).bind fun v14 => some (v14, r13.2))).bind fun r15 =>
  (gd v8 false r15.2 ((alen r15.1).bind fun v16 => some (v16, r15.2))).bind fun r17 =>
  (gd v8 false r17.2 ((abin P BinOp.geq T.int (Operand.tmp 13) (Operand.tmp 17) r9.1 r17.1).bind fun v18 => some (v18, r17.2))).bind fun r19 =>
  (apick v8 (Value.bool true) r19.1).bind fun v20 =>
  condK v20
  (some (Value.int IntKind.i64 (-1), r19.2))
  (some (x1, r19.2)) :=
  by rw [← obd_is]; exact call_den (fn := Tryd.f52) (by kernel_rfl) (fun _ _ => rfl) (by kernel_rfl) [] (by kernel_rfl)

theorem F.layout_Layout_Mark.e (x0 x1 : Value) (H : Heap) : C F.layout_Layout_Mark [x0, x1] H =
  (mkbox H none T.layout_Layout x0).bind fun r1 =>
  (ldA r1.2 14 r1.1).bind fun v2 =>
  (fadd 11 r1.1).bind fun v3 =>
  (ld1 r1.2 v3).bind fun v4 =>
  (C F.layout_Layout_slot [v2, v4, x1] r1.2).bind fun r5 =>
  some (r5.1, r5.2) :=
  by rw [← obd_is]; exact call_den (fn := Tryd.f53) (by kernel_rfl) (fun _ _ => rfl) (by kernel_rfl) [] (by kernel_rfl)

theorem F.layout_Layout_there.e (x0 x1 : Value) (H : Heap) : C F.layout_Layout_there [x0, x1] H =
  (mkbox H none T.layout_Layout x0).bind fun r1 =>
  (ldA r1.2 14 r1.1).bind fun v2 =>
  (C F.layout_Layout_made [v2] r1.2).bind fun r3 =>
  (gd r3.1 true r3.2 (some (x1, r3.2))).bind fun r4 =>
  (gd r3.1 true r4.2 ((abin P BinOp.geq T.int (Operand.tmp 8) (Operand.const (Value.int IntKind.i64 0)) r4.1 (Value.int IntKind.i64 0)).bind fun v5 => some (v5, r4.2))).bind fun r6 =>
  (apick r3.1 r6.1 (Value.bool false)).bind fun v7 =>
  (gd v7 true r6.2 (some (x1, r6.2))).bind fun r8 =>
  (gd v7 true r8.2 ((fadd 13 r1.1).bind fun v9 => some (v9, r8.2))).bind fun r10 =>
  (gd v7 true r10.2 ((ld1 r10.2 r10.1).bind fun v11 => some (v11, r10.2))).bind fun r12 =>
  (gd v7 true r12.2 ((abin P BinOp.lss T.int (Operand.tmp 12) (Operand.tmp 14) r8.1 r12.1).bind fun v13 => some (v13, r12.2))).bind fun r14 =>
  (apick v7 r14.1 (Value.bool false)).bind fun v15 =>
  some (v15, r14.2) :=
  by rw [← obd_is]; exact call_den (fn := Tryd.f106) (by kernel_rfl) (fun _ _ => rfl) (by kernel_rfl) [] (by kernel_rfl)

theorem F.layout_Layout_marked.e (x0 x1 : Value) (H : Heap) : C F.layout_Layout_marked [x0, x1] H =
  (mkbox H none T.layout_Layout x0).bind fun r1 =>
  (fadd 11 r1.1).bind fun v2 =>
  (ld1 r1.2 v2).bind fun v3 =>
  ifD (true) <|
  (abin P BinOp.sub T.int (Operand.tmp 6) (Operand.tmp 8) x1 v3).bind fun v4 =>
  (fadd 11 r1.1).bind fun v5 =>
  (ld1 r1.2 v5).bind fun v6 =>
  ifD (true) <|
  (abin P BinOp.geq T.int (Operand.tmp 11) (Operand.const (Value.int IntKind.i64 0)) v6 (Value.int IntKind.i64 0)).bind fun v7 =>
  (gd v7 true r1.2 (some (x1, r1.2))).bind fun r8 =>
  (gd v7 true r8.2 ((fadd 11 r1.1).bind fun v9 => some (v9, r8.2))).bind fun r10 =>
  (gd v7 true r10.2 ((ld1 r10.2 r10.1).bind fun v11 => some (v11, r10.2))).bind fun r12 =>
  ifD (true) <|
  (gd v7 true r12.2 ((abin P BinOp.geq T.int (Operand.tmp 14) (Operand.tmp 16) r8.1 r12.1).bind fun v13 => some (v13, r12.2))).bind fun r14 =>
  (apick v7 r14.1 (Value.bool false)).bind fun v15 =>
  (gd v15 true r14.2 (some (x1, r14.2))).bind fun r16 =>
  (gd v15 true r16.2 ((fadd 12 r1.1).bind fun v17 => some (v17, r16.2))).bind fun r18 =>
  (gd v15 true r18.2 ((ld1 r18.2 r18.1).bind fun v19 => some (v19, r18.2))).bind fun r20 =>
  ifD (true) <|
  (gd v15 true r20.2 ((abin P BinOp.lss T.int (Operand.tmp 20) (Operand.tmp 22) r16.1 r20.1).bind fun v21 => some (v21, r20.2))).bind fun r22 =>
  (apick v15 r22.1 (Value.bool false)).bind fun v23 =>
  some (Value.tuple (List.toArray [v4, v23]), r22.2) :=
  by rw [← obd_is]; exact call_den (fn := Tryd.f111) (by kernel_rfl) (fun _ _ => rfl) (by kernel_rfl) [] (by kernel_rfl)

theorem F.layout_Layout_made.e (x0 : Value) (H : Heap) : C F.layout_Layout_made [x0] H =
  (mkbox H none T.layout_Layout x0).bind fun r1 =>
  (fadd 13 r1.1).bind fun v2 =>
  (ld1 r1.2 v2).bind fun v3 =>
  (abin P BinOp.gtr T.int (Operand.tmp 4) (Operand.const (Value.int IntKind.i64 0)) v3 (Value.int IntKind.i64 0)).bind fun v4 =>
  some (v4, r1.2) :=
  by rw [← obd_is]; exact call_den (fn := Tryd.f125) (by kernel_rfl) (fun _ _ => rfl) (by kernel_rfl) [] (by kernel_rfl)

theorem F.layout_Layout_slot.e (x0 x1 x2 : Value) (H : Heap) : C F.layout_Layout_slot [x0, x1, x2] H =
  (mkbox H none T.layout_Layout x0).bind fun r1 =>
  (ldA r1.2 14 r1.1).bind fun v2 =>
  (C F.layout_Layout_made [v2] r1.2).bind fun r3 =>
  (aun P UnOp.not r3.1).bind fun v4 =>
  (gd v4 false r3.2 (some (x1, r3.2))).bind fun r5 =>
  (gd v4 false r5.2 ((abin P BinOp.lss T.int (Operand.tmp 11) (Operand.const (Value.int IntKind.i64 0)) r5.1 (Value.int IntKind.i64 0)).bind fun v6 => some (v6, r5.2))).bind fun r7 =>
  (apick v4 (Value.bool true) r7.1).bind fun v8 =>
  (gd v8 false r7.2 (some (x2, r7.2))).bind fun r9 =>
  (gd v8 false r9.2 ((abin P BinOp.lss T.int (Operand.tmp 15) (Operand.const (Value.int IntKind.i64 0)) r9.1 (Value.int IntKind.i64 0)).bind fun v10 => some (v10, r9.2))).bind fun r11 =>
  (apick v8 (Value.bool true) r11.1).bind fun v12 =>
  (gd v12 false r11.2 (some (x2, r11.2))).bind fun r13 =>
  (gd v12 false r13.2 ((fadd 0 r1.1).bind fun v14 => some (v14, r13.2))).bind fun r15 =>
  (gd v12 false r15.2 ((fadd 2 r15.1).bind fun v16 => some (v16, r15.2))).bind fun r17 =>
  (gd v12 false r17.2 ((ld1 r17.2 r17.1).bind fun v18 => some (v18, r17.2))).bind fun r19 =>
  (gd v12 false r19.2 ((abin P BinOp.geq T.int (Operand.tmp 19) (Operand.tmp 22) r13.1 r19.1).bind fun v20 => some (v20, r19.2))).bind fun r21 =>
  (apick v12 (Value.bool true) r21.1).bind fun v22 =>
  condK v22
  (some (Value.int IntKind.i64 (-1), r21.2))
  ((abin P BinOp.add T.int (Operand.tmp 25) (Operand.tmp 26) x1 x2).bind fun v23 =>
  some (v23, r21.2)) :=
  by rw [← obd_is]; exact call_den (fn := Tryd.f126) (by kernel_rfl) (fun _ _ => rfl) (by kernel_rfl) [] (by kernel_rfl)
end Go.Proofs.YtiehmpoanhacaaaDoor
