/-
  What each function's code comes to in the abstract machine: written by program, each by the kernel's own reckoning; no condition.
-/
import Derived.Test.YtiehmpoanhacaaaDoorFn
import Derived.KernelRfl
set_option maxRecDepth 100000
set_option linter.unusedVariables false
set_option maxHeartbeats 1000000
namespace Go.Proofs.YtiehmpoanhacaaaDoor
open Go Go.Proofs.SakAm
noncomputable def F.conf_Check.c : Code := (Tryd.f86.body).getD .skip
noncomputable def F.conf_Check.c1 : Code := cr F.conf_Check.c
noncomputable def F.conf_Check.c2 : Code := cr F.conf_Check.c1
noncomputable def F.conf_Check.b0 : List Item := [.code F.conf_Check.c2]
theorem F.conf_Check.e (x0 : Value) (H : Heap) : C F.conf_Check [x0] H =
  (mkbox H none T.api_Conf x0).bind fun r1 =>
  (fadd 0 r1.1).bind fun v2 =>
  (ld1 r1.2 v2).bind fun v3 =>
  (abin P BinOp.lss T.int (Operand.tmp 6) (Operand.const (Value.int IntKind.i64 1)) v3 (Value.int IntKind.i64 1)).bind fun v4 =>
  (gd v4 false r1.2 ((fadd 0 r1.1).bind fun v5 => some (v5, r1.2))).bind fun r6 =>
  (gd v4 false r6.2 ((ld1 r6.2 r6.1).bind fun v7 => some (v7, r6.2))).bind fun r8 =>
  (gd v4 false r8.2 ((abin P BinOp.gtr T.int (Operand.tmp 10) (Operand.const (Value.int IntKind.i64 5)) r8.1 (Value.int IntKind.i64 5)).bind fun v9 => some (v9, r8.2))).bind fun r10 =>
  (apick v4 (Value.bool true) r10.1).bind fun v11 =>
  condK v11
  (some (Value.int IntKind.i64 2, r10.2))
  ((fadd 1 r1.1).bind fun v12 =>
  (ld1 r10.2 v12).bind fun v13 =>
  (C F.wide_Right [v13] r10.2).bind fun r14 =>
  (aun P UnOp.not r14.1).bind fun v15 =>
  condK v15
  (some (Value.int IntKind.i64 3, r14.2))
  ((fadd 2 r1.1).bind fun v16 =>
  (ld1 r14.2 v16).bind fun v17 =>
  (C F.lap_Right [v17] r14.2).bind fun r18 =>
  (aun P UnOp.not r18.1).bind fun v19 =>
  condK v19
  (some (Value.int IntKind.i64 4, r18.2))
  ((fadd 3 r1.1).bind fun v20 =>
  (ld1 r18.2 v20).bind fun v21 =>
  (abin P BinOp.lss T.int (Operand.tmp 25) (Operand.const (Value.int IntKind.i64 1)) v21 (Value.int IntKind.i64 1)).bind fun v22 =>
  (gd v22 false r18.2 ((fadd 3 r1.1).bind fun v23 => some (v23, r18.2))).bind fun r24 =>
  (gd v22 false r24.2 ((ld1 r24.2 r24.1).bind fun v25 => some (v25, r24.2))).bind fun r26 =>
  (gd v22 false r26.2 ((abin P BinOp.gtr T.int (Operand.tmp 29) (Operand.const (Value.int IntKind.i64 4)) r26.1 (Value.int IntKind.i64 4)).bind fun v27 => some (v27, r26.2))).bind fun r28 =>
  (apick v22 (Value.bool true) r28.1).bind fun v29 =>
  condK v29
  (condK v29
  (some (Value.int IntKind.i64 5, r28.2))
  (R F.conf_Check.f F.conf_Check.b0 (put (put (put (put (put (put (put (put (put (put (put (put (put (put (put (put (put (put (put (put (put (put (put (put (put (put (put (put (put (put (fr0 [x0]) 1 r1.1) 2 (Value.int IntKind.i64 0)) 5 v2) 6 v3) 7 v4) 8 v4) 9 r6.1) 10 r8.1) 11 r10.1) 12 v11) 4 v11) 14 v12) 15 v13) 16 r14.1) 17 v15) 13 v15) 19 v16) 20 v17) 21 r18.1) 22 v19) 18 v19) 24 v20) 25 v21) 26 v22) 27 v22) 28 r24.1) 29 r26.1) 30 r28.1) 31 v29) 23 v29) r28.2))
  ((fadd 0 r1.1).bind fun v30 =>
  (ld1 r28.2 v30).bind fun v31 =>
  (abin P BinOp.eql T.int (Operand.tmp 33) (Operand.const (Value.int IntKind.i64 1)) v31 (Value.int IntKind.i64 1)).bind fun v32 =>
  (gd v32 true r28.2 ((fadd 3 r1.1).bind fun v33 => some (v33, r28.2))).bind fun r34 =>
  (gd v32 true r34.2 ((ld1 r34.2 r34.1).bind fun v35 => some (v35, r34.2))).bind fun r36 =>
  (gd v32 true r36.2 ((abin P BinOp.gtr T.int (Operand.tmp 37) (Operand.const (Value.int IntKind.i64 1)) r36.1 (Value.int IntKind.i64 1)).bind fun v37 => some (v37, r36.2))).bind fun r38 =>
  (apick v32 r38.1 (Value.bool false)).bind fun v39 =>
  condK v39
  (some (Value.int IntKind.i64 5, r38.2))
  (R F.conf_Check.f F.conf_Check.b0 (put (put (put (put (put (put (put (put (put (put (put (put (put (put (put (put (put (put (put (put (put (put (put (put (put (put (put (put (put (put (put (put (put (put (put (put (put (put (put (fr0 [x0]) 1 r1.1) 2 (Value.int IntKind.i64 0)) 5 v2) 6 v3) 7 v4) 8 v4) 9 r6.1) 10 r8.1) 11 r10.1) 12 v11) 4 v11) 14 v12) 15 v13) 16 r14.1) 17 v15) 13 v15) 19 v16) 20 v17) 21 r18.1) 22 v19) 18 v19) 24 v20) 25 v21) 26 v22) 27 v22) 28 r24.1) 29 r26.1) 30 r28.1) 31 v29) 23 v29) 32 v30) 33 v31) 34 v32) 35 v32) 36 r34.1) 37 r36.1) 38 r38.1) 39 v39) 23 v39) r38.2))))) :=
  by rw [← obd_is]; exact call_den (fn := Tryd.f86) (by kernel_rfl) (fun _ _ => rfl) (by kernel_rfl) [10] (by kernel_rfl)
theorem F.conf_Check.e0 (a : Fr) (H : Heap) : R F.conf_Check.f F.conf_Check.b0 a H =
  (fadd 5 (a 1)).bind fun v40 =>
  (ld1 H v40).bind fun v41 =>
  (C F.graph_Check [v41] H).bind fun r42 =>
  (abin P BinOp.neq T.api_Errno (Operand.tmp 43) (Operand.const (Value.int IntKind.i64 0)) r42.1 (Value.int IntKind.i64 0)).bind fun v43 =>
  condK v43
  (some (r42.1, r42.2))
  ((ldA r42.2 6 (a 1)).bind fun v44 =>
  (C F.conf_bound [v44] r42.2).bind fun r45 =>
  condK r45.1
  (some (Value.int IntKind.i64 9, r45.2))
  ((fadd 2 (a 1)).bind fun v46 =>
  (ld1 r45.2 v46).bind fun v47 =>
  (abin P BinOp.gtr T.int (Operand.tmp 51) (Operand.const (Value.int IntKind.i64 64)) v47 (Value.int IntKind.i64 64)).bind fun v48 =>
  condK v48
  (some (Value.int IntKind.i64 10, r45.2))
  (some (Value.int IntKind.i64 0, r45.2)))) :=
  by rw [← obd_is]; exact run_den [10] (by kernel_rfl)

theorem F.conf_Start.e (x0 : Value) (H : Heap) : C F.conf_Start [x0] H =
  (mkbox H none T.api_Conf x0).bind fun r1 =>
  (ldA r1.2 6 r1.1).bind fun v2 =>
  (C F.conf_Check [v2] r1.2).bind fun r3 =>
  (abin P BinOp.neq T.api_Errno (Operand.tmp 4) (Operand.const (Value.int IntKind.i64 0)) r3.1 (Value.int IntKind.i64 0)).bind fun v4 =>
  condK v4
  (some (Value.int IntKind.u64 0, r3.2))
  ((fadd 1 r1.1).bind fun v5 =>
  (ld1 r3.2 v5).bind fun v6 =>
  (fadd 4 r1.1).bind fun v7 =>
  (ld1 r3.2 v7).bind fun v8 =>
  (C F.wide_Cut [v6, v8] r3.2).bind fun r9 =>
  some (r9.1, r9.2)) :=
  by rw [← obd_is]; exact call_den (fn := Tryd.f113) (by kernel_rfl) (fun _ _ => rfl) (by kernel_rfl) [] (by kernel_rfl)

theorem F.conf_bound.e (x0 : Value) (H : Heap) : C F.conf_bound [x0] H =
  (mkbox H none T.api_Conf x0).bind fun r1 =>
  (fadd 1 r1.1).bind fun v2 =>
  (ld1 r1.2 v2).bind fun v3 =>
  (abin P BinOp.sub T.int (Operand.tmp 5) (Operand.const (Value.int IntKind.i64 1)) v3 (Value.int IntKind.i64 1)).bind fun v4 =>
  (abin P BinOp.shl T.uint64 (Operand.const (Value.int IntKind.u64 1)) (Operand.tmp 6) (Value.int IntKind.u64 1) v4).bind fun v5 =>
  (fadd 3 r1.1).bind fun v6 =>
  (ld1 r1.2 v6).bind fun v7 =>
  (abin P BinOp.add T.int (Operand.tmp 9) (Operand.const (Value.int IntKind.i64 2)) v7 (Value.int IntKind.i64 2)).bind fun v8 =>
  (aconv P T.int T.uint64 v8).bind fun v9 =>
  (fadd 2 r1.1).bind fun v10 =>
  (ld1 r1.2 v10).bind fun v11 =>
  (aconv P T.int T.uint64 v11).bind fun v12 =>
  (abin P BinOp.mul T.uint64 (Operand.tmp 11) (Operand.tmp 14) v9 v12).bind fun v13 =>
  (abin P BinOp.geq T.uint64 (Operand.tmp 15) (Operand.tmp 16) v13 v5).bind fun v14 =>
  some (v14, r1.2) :=
  by rw [← obd_is]; exact call_den (fn := Tryd.f149) (by kernel_rfl) (fun _ _ => rfl) (by kernel_rfl) [] (by kernel_rfl)
end Go.Proofs.YtiehmpoanhacaaaDoor
