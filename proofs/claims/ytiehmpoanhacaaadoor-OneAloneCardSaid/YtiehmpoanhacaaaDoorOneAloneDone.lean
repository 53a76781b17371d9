/-
  THE ROW AND THE CARD of 'sakialaw19.OneAlone': the law of the abstract machine, joined to the model's call, where the listed table reads as it is laid (the card ties it to the program's text).
-/
import Derived.Test.YtiehmpoanhacaaaDoorRows
import Derived.Test.YtiehmpoanhacaaaDoorTie
import Derived.Test.YtiehmpoanhacaaaDoorCards
import Derived.Test.YtiehmpoanhacaaaDoorOa
import Derived.Test.YtiehmpoanhacaaaDoorSnd
import Derived.Test.YtiehmpoanhacaaaDoorAmC
import Derived.WalkKit
import Derived.ProofKit
import Derived.OpenShut
import Derived.ShutString
import Derived.ChangeOld
import Derived.Below
import Derived.LaidMore
import Derived.SevenTiedAt
set_option maxRecDepth 100000
set_option linter.unusedVariables false
set_option maxHeartbeats 1000000
namespace Go.Proofs.YtiehmpoanhacaaaDoor.oneAloneDone
open Go Go.ChangeShapes Go.WideShapes Go.ChangeAt Go.RowKit Go.Proofs.SakAm
open Go.ChangeMaps (open_string shut_string)

theorem own : ownKnob Tryd.prog.godebug = none := by kernel_rfl
theorem laidOut : laidOutB Tryd.prog = true := by kernel_rfl

/-- What the row says of the table. -/
def laid : List (String × DataW Unit) := [("math/bits.deBruijn64tab", Rows.laid_math_bits_deBruijn64tab)]
theorem laid_is : laid = [("math/bits.deBruijn64tab", .agg (bytesD Lib.deBruijn64tab))] := by rfl
theorem door_met (os : Os) (args : Array Value) : laidMetH Tryd.prog laid ((World.doorLaid Tryd.prog 400 os).forCall (fun _ _ => 0) ⟨#[], args, []⟩).memory :=
  laidMetH_of_parts3 (fuel := 8) (laidMet_of_run' 8 (by kernel_rfl) (by kernel_rfl)) (by kernel_rfl) (by kernel_rfl)
theorem of_laid {W : World} (h : laidMetH Tryd.prog laid W) : Tabs.good W.heap.size W :=
  tab_of_laid (t := 231) (e := 5) (laid_is ▸ h) (by kernel_rfl) (by kernel_rfl) (by kernel_rfl) (by kernel_rfl) (by kernel_rfl) (by decide)

def T.bool : TypeId := 4
def T.sl_uint8 : TypeId := 26
theorem flatCase : flatT Tryd.prog 9 T.sakialaw19_Case = some [T.bool, T.uint8, T.uint8, T.uint8, T.uint64] := by kernel_rfl
theorem flatByte : flatT Tryd.prog 9 T.uint8 = some [T.uint8] := by kernel_rfl

theorem lawful (us : List Value) (H : Heap) (ro : AllRo H) (h : All2 (InpA Tryd.prog H) [T.sakialaw19_Case, T.sl_uint8] us) : ∃ H', C F.sakialaw19_OneAlone us H = some (.bool true, H') := by
  obtain ⟨u0, _, rfl, h1, ga⟩ := h.cons_inv
  obtain ⟨u1, _, rfl, h2, gb⟩ := ga.cons_inv
  obtain rfl := gb.nil_inv
  obtain ⟨vs, rfl, g0⟩ := h1.struct (by kernel_rfl) flatCase
  obtain ⟨v0, _, rfl, k0, g1⟩ := g0.cons_inv
  obtain ⟨v1, _, rfl, k1, g2⟩ := g1.cons_inv
  obtain ⟨v2, _, rfl, k2, g3⟩ := g2.cons_inv
  obtain ⟨v3, _, rfl, k3, g4⟩ := g3.cons_inv
  obtain ⟨v4, _, rfl, k4, g5⟩ := g4.cons_inv
  obtain rfl := g5.nil_inv
  obtain ⟨b, rfl⟩ := k0.bool (by kernel_rfl)
  obtain ⟨z1, rfl, f1⟩ := k1.int (k := .u8) (by kernel_rfl)
  obtain ⟨z2, rfl, f2⟩ := k2.int (k := .u8) (by kernel_rfl)
  obtain ⟨z3, rfl, f3⟩ := k3.int (k := .u8) (by kernel_rfl)
  obtain ⟨z4, rfl, f4⟩ := k4.int (k := .u64) (by kernel_rfl)
  obtain ⟨cs, rd, hc⟩ := inp_sl (e := T.uint8) (by kernel_rfl) flatByte (h2.cell (by kernel_rfl))
  obtain ⟨zs, rfl, hzs⟩ := inp_nums (k := .u8) (by kernel_rfl) hc
  rw [List.length_map] at rd
  exact law_alone1 ⟨b, z1, z2, z3, z4⟩ ⟨(wf_u8 f1).1, (wf_u8 f2).1, (wf_u8 f3).1, wf_u64 f4⟩ u1 zs H rd (fun z hz => wf_u8 (hzs z hz))

theorem lifted (os : Os) (started : os.Started) (Hd : Type) (enc : TypeId × Value → Hd) :
    ReturnsInHanded {} Tryd.checked os 6 .any (fun w args => (Rows.oneAloneSpec.pre enc Tryd.prog Tryd.f6 [] false w args ∧ laidMetH Tryd.prog laid w) ∧ sizedMet enc Tryd.prog Tryd.f6 (OpenSpec.ofChange Rows.oneAloneSpec) false w args)
      (Rows.oneAloneSpec.post enc Tryd.prog Tryd.f6 false true false false) := by
  refine returnsInHanded_of_change_and (C := Tryd.checked) (X := fun w _ => laidMetH Tryd.prog laid w) (fun _ _ _ hh h => h.of_heap hh) own started (by kernel_rfl) Tryd.func6
    (ChangeSpec.witness_shaped (enc := enc) (C := Tryd.checked) (os := os) (X := fun w _ => laidMetH Tryd.prog laid w) false (World.doorLaid Tryd.prog 400 os) #[.agg #[.bool false, .int .u8 0, .int .u8 0, .int .u8 0, .int .u64 0], .slice none 0 0] 8 rfl (World.shaped_of_RefB (by kernel_rfl) (by kernel_rfl)) (by kernel_rfl) (by kernel_rfl) (by kernel_rfl) (door_met os _)) ?_
  intro W base args ds gs before hval0 hW _ _ hL _
  have hW' := hW
  obtain ⟨p, q, hA0, hV, rfl, hfz, hnd⟩ := hW
  have hA : DataW.TrodAll enc Tryd.prog W 0 (fun _ => true) true [T.sakialaw19_Case, T.sl_uint8] args.toList ds p := hA0
  obtain ⟨v0, vs0, d0, ds0, p0, q0, hargs, rfl, rfl, h0, r0⟩ := trodAll_cons hA
  obtain ⟨v1, vs1, d1, ds1, p1, q1, rfl, rfl, rfl, h1, r1⟩ := trodAll_cons r0
  obtain ⟨rfl, rfl, rfl⟩ := trodAll_nil r1
  obtain ⟨rfl, rfl⟩ := trodVars_none hV
  refine (calls_of sound (ts := [T.sakialaw19_Case, T.sl_uint8]) (by kernel_rfl) lawful (of_laid hL) (fun j t v h1 h2 => hval0 j t v (arr_get (by kernel_rfl) h1) (arr_get rfl h2)) hA).mono fun e W' ⟨he, bel⟩ => ?_
  subst he
  exact ⟨_, rfl, _, _, _, [], _, [], hW', trodAll_mk1 (shut_bool (by kernel_rfl) _), trodAll_back laidOut bel _ _ _ _ (by kernel_rfl) hA, rfl, bel.frame _, fun h => by cases h⟩

theorem over : Rows.oneAloneRow.holds Tryd.pinned (OpenSpec.ofChange Rows.oneAloneSpec) :=
  OpenClaim.holds_of_wide 6 Tryd.f6 rfl rfl rfl rfl rfl rfl rfl ⟨rfl, rfl, rfl, rfl, rfl⟩ rfl rfl rfl rfl rfl (by kernel_rfl) Tryd.func6 (by kernel_rfl)
    (of_decide_eq_true (by kernel_rfl)) (by unfold Func.isWrapper; first | (rw [if_pos (by decide +kernel)]; kernel_rfl) | (rw [if_neg (by decide +kernel)]; exact ⟨rfl, rfl⟩))
    (fun os started H enc _ => lifted os started H enc)

/-- THE STATEMENT. -/
theorem proved : Rows.OneAloneCardSaid :=
  Claim7.holds_tied_plain_at .later [] [.data] true (true, "029eb4adfbdca8ef769c323f85a3368ca4da7c76af8c2ffbd539cfb32b8018c4") false
    over (fun _ h => by cases h) (by kernel_rfl) (fun _ h => by cases h) oneAlone_row_tie rfl ⟨rfl, rfl⟩ (by kernel_rfl) rfl
    (fun f fn hf hfn => by
      obtain rfl : f = 6 := Option.some.inj ((show Tryd.prog.funcNamed "sakia/sakialaw19.OneAlone" = some 6 by kernel_rfl).symm.trans hf) |>.symm
      obtain rfl : fn = Tryd.f6 := (Option.some.inj (Tryd.func6.symm.trans hfn)).symm
      exact ⟨by kernel_rfl, fun j t ht => by
        have hm : t ∈ [81, 26] := by
          have := Array.mem_of_getElem? ht
          rw [Tryd.params6] at this
          simpa using this
        have hall : ([81, 26].all fun u => !Tryd.prog.wantsStandIn u) = true := by kernel_rfl
        exact (show Tryd.prog.wantsStandIn t = false by simpa using List.all_eq_true.1 hall t hm)⟩)
    (by kernel_rfl)
#print axioms proved
end Go.Proofs.YtiehmpoanhacaaaDoor.oneAloneDone
