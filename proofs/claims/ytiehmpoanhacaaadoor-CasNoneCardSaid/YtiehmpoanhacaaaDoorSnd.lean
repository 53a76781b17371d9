/-
  What the abstract machine computes at this program, the model's machine does; each 'live' that is told was run once.
-/
import Derived.Test.YtiehmpoanhacaaaDoorLt
import Derived.Test.YtiehmpoanhacaaaDoorFn
import Derived.Test.YtiehmpoanhacaaaDoorAmC
set_option maxRecDepth 100000
set_option maxHeartbeats 4000000
set_option linter.unusedSectionVars false
set_option linter.unusedVariables false
set_option linter.unusedSimpArgs false
namespace Go.Proofs.YtiehmpoanhacaaaDoor
open Go Go.Proofs.SakAm

theorem mix : Tryd.prog.follows .mixedOrders = true := by kernel_rfl

theorem list_sound : CallSound Tryd.prog (listX F.group_Group_List T.int) :=
  listX_sound (by kernel_rfl) (by kernel_rfl) fun g B w0 w hg hgood hB hb =>
    list_in g hg w (Nat.lt_of_lt_of_le (Nat.lt_of_lt_of_le hgood.1 hB) hb.size) (hgood.2.below hb hgood.1)

theorem base_sound : CallSound Tryd.prog ext0 := list_sound
theorem base_over : CallOver ext0 := listX_over
theorem base_none : ∀ E f args G, Disj E G → ext0 f args G = none → ext0 f args (over E G) = none := listX_none

theorem ran0 : (callBy Tryd.prog ext0 (arun Tryd.prog ext0 200000) F.sakialaw20_live [] Heap.empty).map (·.1) = some (.bool true) := by kernel_rfl

theorem sound : CallSound Tryd.prog C := by
  refine call_sound mix (told_sound mix base_sound base_over base_none fun f v h => ?_) (told_over base_over) (told_none base_none)
  simp only [tab, List.lookup] at h
  split at h
  · rename_i hf
    cases h
    rw [eq_of_beq hf]
    exact ⟨rfl, 200000, ran0⟩
  · cases h
end Go.Proofs.YtiehmpoanhacaaaDoor
