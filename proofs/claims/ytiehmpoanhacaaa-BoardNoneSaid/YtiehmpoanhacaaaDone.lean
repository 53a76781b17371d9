/-
  THE ROW of 'sakialaw12.BoardNone': the law of the abstract machine, joined to the model's call.
-/
import Derived.Test.YtiehmpoanhacaaaRows
import Derived.Test.YtiehmpoanhacaaaNone
import Derived.Test.YtiehmpoanhacaaaAmB
import Derived.WalkKit
import Derived.ProofKit
import Derived.OpenShut
import Derived.ShutString
import Derived.ChangeOld
import Derived.Below
set_option maxRecDepth 100000
set_option linter.unusedVariables false
set_option maxHeartbeats 1000000
namespace Go.Proofs.Ytiehmpoanhacaaa.boardNoneDone
open Go Go.ChangeShapes Go.WideShapes Go.ChangeAt Go.RowKit Go.Proofs.SakAm
open Go.ChangeMaps (open_string shut_string)

theorem own : ownKnob Try.prog.godebug = none := by kernel_rfl
theorem laidOut : laidOutB Try.prog = true := by kernel_rfl
theorem mix : Try.prog.follows .mixedOrders = true := by kernel_rfl

theorem lives : (callBy Try.prog ext0 (arun Try.prog ext0 3000) F.sakialaw12_live [] Heap.empty).map (·.1) = some (.bool true) := by kernel_rfl

theorem sound : CallSound Try.prog C := by
  refine call_sound mix (told_sound mix mute_sound mute_over mute_none fun f v h => ?_) (told_over mute_over) (told_none mute_none)
  simp only [tab, List.lookup] at h
  split at h
  · rename_i hf
    cases h
    rw [eq_of_beq hf]
    exact ⟨rfl, 3000, lives⟩
  · cases h

theorem flatDo : flatT Try.prog 9 T.sakialaw12_Do = some [T.int, T.int, T.int, T.int, T.uint64, T.uint64] := by kernel_rfl

theorem lawful (us : List Value) (H : Heap) (ro : AllRo H) (h : All2 (InpA Try.prog H) [T.sakialaw12_Do] us) : ∃ H', C F.sakialaw12_BoardNone us H = some (.bool true, H') := by
  obtain ⟨u, _, rfl, h1, h0⟩ := h.cons_inv
  obtain rfl := h0.nil_inv
  obtain ⟨vs, rfl, g⟩ := h1.struct (by kernel_rfl) flatDo
  obtain ⟨v0, _, rfl, k0, g⟩ := g.cons_inv
  obtain ⟨v1, _, rfl, k1, g⟩ := g.cons_inv
  obtain ⟨v2, _, rfl, k2, g⟩ := g.cons_inv
  obtain ⟨v3, _, rfl, k3, g⟩ := g.cons_inv
  obtain ⟨v4, _, rfl, k4, g⟩ := g.cons_inv
  obtain ⟨v5, _, rfl, k5, g⟩ := g.cons_inv
  obtain rfl := g.nil_inv
  obtain ⟨z0, rfl, _⟩ := k0.int (k := .i64) (by kernel_rfl)
  obtain ⟨z1, rfl, _⟩ := k1.int (k := .i64) (by kernel_rfl)
  obtain ⟨z2, rfl, _⟩ := k2.int (k := .i64) (by kernel_rfl)
  obtain ⟨z3, rfl, _⟩ := k3.int (k := .i64) (by kernel_rfl)
  obtain ⟨z4, rfl, _⟩ := k4.int (k := .u64) (by kernel_rfl)
  obtain ⟨z5, rfl, _⟩ := k5.int (k := .u64) (by kernel_rfl)
  exact law z0 z1 z2 z3 z4 z5 H

theorem lifted (os : Os) (started : os.Started) (Hd : Type) (enc : TypeId × Value → Hd) :
    ReturnsInHanded {} Try.checked os 3 .any (Rows.boardNoneSpec.pre6 enc Try.prog Try.f3 Rows.boardNoneRow.domain false) (Rows.boardNoneSpec.post enc Try.prog Try.f3 false true false false) := by
  refine returnsInHanded_of_change (C := Try.checked) own started (by kernel_rfl) Try.func3
    (ChangeSpec.witness6 (enc := enc) (C := Try.checked) false ⟨#[], #[.agg #[.int .i64 0, .int .i64 0, .int .i64 0, .int .i64 0, .int .u64 0, .int .u64 0]], []⟩ 8 (by kernel_rfl) (by kernel_rfl) (by kernel_rfl) (by kernel_rfl)) ?_
  intro W base args ds gs before hval0 hW hcnd _
  have hW' := hW
  obtain ⟨p, q, hA0, hV, rfl, hfz, hnd⟩ := hW
  have hA : DataW.TrodAll enc Try.prog W 0 (fun _ => true) true [T.sakialaw12_Do] args.toList ds p := hA0
  obtain ⟨v0, vs0, d0, ds0, p0, q0, hargs, rfl, rfl, h0, r0⟩ := trodAll_cons hA
  obtain ⟨rfl, rfl, rfl⟩ := trodAll_nil r0
  obtain ⟨rfl, rfl⟩ := trodVars_none hV
  refine (calls_of sound (ts := [T.sakialaw12_Do]) (by kernel_rfl) lawful (fun j t v h1 h2 => hval0 j t v (arr_get (by kernel_rfl) h1) (arr_get rfl h2)) hA).mono fun e W' ⟨he, bel⟩ => ?_
  subst he
  exact ⟨_, rfl, _, _, _, [], _, [], hW', trodAll_mk1 (shut_bool (by kernel_rfl) _), trodAll_back laidOut bel _ _ _ _ (by kernel_rfl) hA, rfl, bel.frame _, fun h => by cases h⟩

theorem over : Rows.boardNoneRow.holds Try.pinned (OpenSpec.ofChange Rows.boardNoneSpec) :=
  OpenClaim.holds_of_wide 3 Try.f3 rfl rfl rfl rfl rfl rfl rfl ⟨rfl, rfl, rfl, rfl, rfl⟩ rfl rfl rfl rfl rfl (by kernel_rfl) Try.func3 (by kernel_rfl)
    (of_decide_eq_true (by kernel_rfl)) (by unfold Func.isWrapper; first | (rw [if_pos (by decide +kernel)]; kernel_rfl) | (rw [if_neg (by decide +kernel)]; exact ⟨rfl, rfl⟩))
    (fun os started H enc _ => lifted os started H enc)

/-- THE STATEMENT. -/
theorem proved : Rows.BoardNoneSaid := over
#print axioms proved
end Go.Proofs.Ytiehmpoanhacaaa.boardNoneDone
