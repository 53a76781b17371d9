/-
  What each function's code comes to in the abstract machine: written by program, each by the kernel's own reckoning; no condition.
-/
import Derived.Test.YtiehmpoanhacaaaDoorFn
import Derived.KernelRfl
set_option maxRecDepth 100000
set_option linter.unusedVariables false
set_option maxHeartbeats 1000000
namespace Go.Proofs.YtiehmpoanhacaaaDoor
open Go Go.Proofs.SakAm
theorem F.event_NewLog.e (H : Heap) : C F.event_NewLog [] H =
  (fillL [Value.slice none 0 0] []).bind fun v1 =>
  (mkbox H none T.event_Log (Value.agg (List.toArray v1))).bind fun r2 =>
  some (r2.1, r2.2) :=
  by rw [← obd_is]; exact call_den (fn := Tryd.f44) (by kernel_rfl) (fun _ _ => rfl) (by kernel_rfl) [] (by kernel_rfl)

theorem F.event_Log_Len.e (x0 : Value) (H : Heap) : C F.event_Log_Len [x0] H =
  (abin P BinOp.eql T.p_event_Log (Operand.tmp 3) (Operand.const (Value.pointer none)) x0 (Value.pointer none)).bind fun v1 =>
  condK v1
  (some (Value.int IntKind.i64 0, H))
  ((nilc x0).bind fun v2 =>
  (fadd 0 v2).bind fun v3 =>
  (ld1 H v3).bind fun v4 =>
  (alen v4).bind fun v5 =>
  some (v5, H)) :=
  by rw [← obd_is]; exact call_den (fn := Tryd.f60) (by kernel_rfl) (fun _ _ => rfl) (by kernel_rfl) [] (by kernel_rfl)

theorem F.event_Log_Note.e (x0 x1 : Value) (H : Heap) : C F.event_Log_Note [x0, x1] H =
  (mkbox H none T.api_Event x1).bind fun r1 =>
  (abin P BinOp.neq T.p_event_Log (Operand.tmp 4) (Operand.const (Value.pointer none)) x0 (Value.pointer none)).bind fun v2 =>
  condK v2
  ((nilc x0).bind fun v3 =>
  (fadd 0 v3).bind fun v4 =>
  (ld1 (r1.2.reserve 12) v4).bind fun v5 =>
  ifD (true) <|
  (ldA (r1.2.reserve 12) 7 r1.1).bind fun v6 =>
  ifD (true) <|
  (C F.event_copied [v6] (r1.2.reserve 12)).bind fun r7 =>
  ifD (tells (ld1 r7.2 v4) v5 && true) <|
  (fillL (reps [Value.int IntKind.i64 0, Value.int IntKind.i64 0, Value.int IntKind.i64 0, Value.int IntKind.i64 0, Value.int IntKind.u64 0, Value.int IntKind.i64 0, Value.slice none 0 0] 1) [(0, 7, r7.1)]).bind fun v8 =>
  (mkrow r7.2 (some (r1.2.next + 7)) T.api_Event 1 v8).bind fun r9 =>
  (aappend r9.2 T.api_Event 7 72 v5 r9.1).bind fun r10 =>
  ifD (true) <|
  (nilc x0).bind fun v11 =>
  (fadd 0 v11).bind fun v12 =>
  (st1 r10.2 v12 r10.1).bind fun H13 =>
  ifD (true) <|
  some (Value.tuple (List.toArray []), H13))
  (some (Value.tuple (List.toArray []), r1.2)) :=
  by rw [← obd_is]; exact call_den (fn := Tryd.f121) (by kernel_rfl) (fun _ _ => rfl) (by kernel_rfl) [] (by kernel_rfl)

theorem F.event_copied.e (x0 : Value) (H : Heap) : C F.event_copied [x0] H =
  (mkbox H none T.api_Event x0).bind fun r1 =>
  (mkbox r1.2 none T.api_Event (Value.agg #[Value.int IntKind.i64 0, Value.int IntKind.i64 0, Value.int IntKind.i64 0, Value.int IntKind.i64 0, Value.int IntKind.u64 0, Value.int IntKind.i64 0, Value.slice none 0 0])).bind fun r2 =>
  (fillL (reps [Value.int IntKind.i64 0] 0) []).bind fun v3 =>
  (mkrow r2.2 none T.int 0 v3).bind fun r4 =>
  (fadd 6 r1.1).bind fun v5 =>
  (ld1 r4.2 v5).bind fun v6 =>
  (aappend r4.2 T.int 1 8 r4.1 v6).bind fun r7 =>
  (fadd 6 r1.1).bind fun v8 =>
  (st1 r7.2 v8 r7.1).bind fun H9 =>
  (ldA H9 7 r1.1).bind fun v10 =>
  (stA H9 7 r2.1 v10).bind fun H11 =>
  (ldA H11 7 r2.1).bind fun v12 =>
  some (v12, H11) :=
  by rw [← obd_is]; exact call_den (fn := Tryd.f172) (by kernel_rfl) (fun _ _ => rfl) (by kernel_rfl) [] (by kernel_rfl)
end Go.Proofs.YtiehmpoanhacaaaDoor
