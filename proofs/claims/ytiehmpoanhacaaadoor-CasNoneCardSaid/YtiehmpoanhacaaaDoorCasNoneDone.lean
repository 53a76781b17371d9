/-
  THE ROW AND THE CARD of 'sakialaw20.CasNone': the law of the abstract machine, joined to the model's call, where the listed table reads as it is laid (the card ties it to the program's text).
-/
import Derived.Test.YtiehmpoanhacaaaDoorRows
import Derived.Test.YtiehmpoanhacaaaDoorTie
import Derived.Test.YtiehmpoanhacaaaDoorCards
import Derived.Test.YtiehmpoanhacaaaDoorNo
import Derived.Test.YtiehmpoanhacaaaDoorSnd
import Derived.Test.YtiehmpoanhacaaaDoorAmC
import Derived.WalkKit
import Derived.ProofKit
import Derived.OpenShut
import Derived.ShutString
import Derived.ChangeOld
import Derived.Below
import Derived.LaidMore
import Derived.SevenTiedAt
set_option maxRecDepth 100000
set_option linter.unusedVariables false
set_option maxHeartbeats 1000000
namespace Go.Proofs.YtiehmpoanhacaaaDoor.casNoneDone
open Go Go.ChangeShapes Go.WideShapes Go.ChangeAt Go.RowKit Go.Proofs.SakAm
open Go.ChangeMaps (open_string shut_string)

theorem own : ownKnob Tryd.prog.godebug = none := by kernel_rfl
theorem laidOut : laidOutB Tryd.prog = true := by kernel_rfl

/-- What the row says of the table. -/
def laid : List (String × DataW Unit) := [("math/bits.deBruijn64tab", Rows.laid_math_bits_deBruijn64tab)]
theorem laid_is : laid = [("math/bits.deBruijn64tab", .agg (bytesD Lib.deBruijn64tab))] := by rfl
theorem door_met (os : Os) (args : Array Value) : laidMetH Tryd.prog laid ((World.doorLaid Tryd.prog 400 os).forCall (fun _ _ => 0) ⟨#[], args, []⟩).memory :=
  laidMetH_of_parts3 (fuel := 8) (laidMet_of_run' 8 (by kernel_rfl) (by kernel_rfl)) (by kernel_rfl) (by kernel_rfl)
theorem of_laid {W : World} (h : laidMetH Tryd.prog laid W) : Tabs.good W.heap.size W :=
  tab_of_laid (t := 231) (e := 5) (laid_is ▸ h) (by kernel_rfl) (by kernel_rfl) (by kernel_rfl) (by kernel_rfl) (by kernel_rfl) (by decide)

theorem flatCase : flatT Tryd.prog 9 T.sakialaw20_Case = some [T.bool, T.uint8, T.uint8, T.uint8, T.uint64] := by kernel_rfl
theorem flatTwo : flatT Tryd.prog 9 T.a2_int = some [T.int, T.int] := by kernel_rfl

theorem lawful (us : List Value) (H : Heap) (ro : AllRo H) (h : All2 (InpA Tryd.prog H) [T.sakialaw20_Case, T.a2_int, T.int] us) : ∃ H', C F.sakialaw20_CasNone us H = some (.bool true, H') := by
  obtain ⟨u0, _, rfl, h1, ga⟩ := h.cons_inv
  obtain ⟨u1, _, rfl, h2, gb⟩ := ga.cons_inv
  obtain ⟨u2, _, rfl, h3, gc⟩ := gb.cons_inv
  obtain rfl := gc.nil_inv
  obtain ⟨vs, rfl, g0⟩ := h1.struct (by kernel_rfl) flatCase
  obtain ⟨v0, _, rfl, k0, g1⟩ := g0.cons_inv
  obtain ⟨v1, _, rfl, k1, g2⟩ := g1.cons_inv
  obtain ⟨v2, _, rfl, k2, g3⟩ := g2.cons_inv
  obtain ⟨v3, _, rfl, k3, g4⟩ := g3.cons_inv
  obtain ⟨v4, _, rfl, k4, g5⟩ := g4.cons_inv
  obtain rfl := g5.nil_inv
  obtain ⟨ws, rfl, e0⟩ := h2.struct (by kernel_rfl) flatTwo
  obtain ⟨w0, _, rfl, j0, e1⟩ := e0.cons_inv
  obtain ⟨w1, _, rfl, j1, e2⟩ := e1.cons_inv
  obtain rfl := e2.nil_inv
  obtain ⟨b, rfl⟩ := k0.bool (by kernel_rfl)
  obtain ⟨z1, rfl, f1⟩ := k1.int (k := .u8) (by kernel_rfl)
  obtain ⟨z2, rfl, f2⟩ := k2.int (k := .u8) (by kernel_rfl)
  obtain ⟨z3, rfl, f3⟩ := k3.int (k := .u8) (by kernel_rfl)
  obtain ⟨z4, rfl, f4⟩ := k4.int (k := .u64) (by kernel_rfl)
  obtain ⟨y0, rfl, _⟩ := j0.int (k := .i64) (by kernel_rfl)
  obtain ⟨y1, rfl, _⟩ := j1.int (k := .i64) (by kernel_rfl)
  obtain ⟨n, rfl, _⟩ := (h3.cell (by kernel_rfl)).int (k := .i64) (by kernel_rfl)
  exact law_seqcas ⟨b, z1, z2, z3, z4⟩ ⟨(wf_u8 f1).1, (wf_u8 f2).1, (wf_u8 f3).1, wf_u64 f4⟩ y0 y1 n H

theorem lifted (os : Os) (started : os.Started) (Hd : Type) (enc : TypeId × Value → Hd) :
    ReturnsInHanded {} Tryd.checked os 12 .any (fun w args => (Rows.casNoneSpec.pre enc Tryd.prog Tryd.f12 [] false w args ∧ laidMetH Tryd.prog laid w) ∧ sizedMet enc Tryd.prog Tryd.f12 (OpenSpec.ofChange Rows.casNoneSpec) false w args)
      (Rows.casNoneSpec.post enc Tryd.prog Tryd.f12 false true false false) := by
  refine returnsInHanded_of_change_and (C := Tryd.checked) (X := fun w _ => laidMetH Tryd.prog laid w) (fun _ _ _ hh h => h.of_heap hh) own started (by kernel_rfl) Tryd.func12
    (ChangeSpec.witness_shaped (enc := enc) (C := Tryd.checked) (os := os) (X := fun w _ => laidMetH Tryd.prog laid w) false (World.doorLaid Tryd.prog 400 os) #[.agg #[.bool false, .int .u8 0, .int .u8 0, .int .u8 0, .int .u64 0], .agg #[.int .i64 0, .int .i64 0], .int .i64 0] 8 rfl (World.shaped_of_RefB (by kernel_rfl) (by kernel_rfl)) (by kernel_rfl) (by kernel_rfl) (by kernel_rfl) (door_met os _)) ?_
  intro W base args ds gs before hval0 hW _ _ hL _
  have hW' := hW
  obtain ⟨p, q, hA0, hV, rfl, hfz, hnd⟩ := hW
  have hA : DataW.TrodAll enc Tryd.prog W 0 (fun _ => true) true [T.sakialaw20_Case, T.a2_int, T.int] args.toList ds p := hA0
  obtain ⟨v0, vs0, d0, ds0, p0, q0, hargs, rfl, rfl, h0, r0⟩ := trodAll_cons hA
  obtain ⟨v1, vs1, d1, ds1, p1, q1, rfl, rfl, rfl, h1, r1⟩ := trodAll_cons r0
  obtain ⟨v2, vs2, d2, ds2, p2, q2, rfl, rfl, rfl, h2, r2⟩ := trodAll_cons r1
  obtain ⟨rfl, rfl, rfl⟩ := trodAll_nil r2
  obtain ⟨rfl, rfl⟩ := trodVars_none hV
  refine (calls_of sound (ts := [T.sakialaw20_Case, T.a2_int, T.int]) (by kernel_rfl) lawful (of_laid hL) (fun j t v h1 h2 => hval0 j t v (arr_get (by kernel_rfl) h1) (arr_get rfl h2)) hA).mono fun e W' ⟨he, bel⟩ => ?_
  subst he
  exact ⟨_, rfl, _, _, _, [], _, [], hW', trodAll_mk1 (shut_bool (by kernel_rfl) _), trodAll_back laidOut bel _ _ _ _ (by kernel_rfl) hA, rfl, bel.frame _, fun h => by cases h⟩

theorem over : Rows.casNoneRow.holds Tryd.pinned (OpenSpec.ofChange Rows.casNoneSpec) :=
  OpenClaim.holds_of_wide 12 Tryd.f12 rfl rfl rfl rfl rfl rfl rfl ⟨rfl, rfl, rfl, rfl, rfl⟩ rfl rfl rfl rfl rfl (by kernel_rfl) Tryd.func12 (by kernel_rfl)
    (of_decide_eq_true (by kernel_rfl)) (by unfold Func.isWrapper; first | (rw [if_pos (by decide +kernel)]; kernel_rfl) | (rw [if_neg (by decide +kernel)]; exact ⟨rfl, rfl⟩))
    (fun os started H enc _ => lifted os started H enc)

/-- THE STATEMENT. -/
theorem proved : Rows.CasNoneCardSaid :=
  Claim7.holds_tied_plain_at .later [] [.data] true (true, "029eb4adfbdca8ef769c323f85a3368ca4da7c76af8c2ffbd539cfb32b8018c4") false
    over (fun _ h => by cases h) (by kernel_rfl) (fun _ h => by cases h) casNone_row_tie rfl ⟨rfl, rfl⟩ (by kernel_rfl) rfl
    (fun f fn hf hfn => by
      obtain rfl : f = 12 := Option.some.inj ((show Tryd.prog.funcNamed "sakia/sakialaw20.CasNone" = some 12 by kernel_rfl).symm.trans hf) |>.symm
      obtain rfl : fn = Tryd.f12 := (Option.some.inj (Tryd.func12.symm.trans hfn)).symm
      exact ⟨by kernel_rfl, fun j t ht => by
        have hm : t ∈ [125, 94, 3] := by
          have := Array.mem_of_getElem? ht
          rw [Tryd.params12] at this
          simpa using this
        have hall : ([125, 94, 3].all fun u => !Tryd.prog.wantsStandIn u) = true := by kernel_rfl
        exact (show Tryd.prog.wantsStandIn t = false by simpa using List.all_eq_true.1 hall t hm)⟩)
    (by kernel_rfl)
#print axioms proved
end Go.Proofs.YtiehmpoanhacaaaDoor.casNoneDone
