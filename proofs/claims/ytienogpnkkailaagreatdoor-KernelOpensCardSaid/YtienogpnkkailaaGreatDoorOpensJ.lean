import Derived.KernelRfl
import Derived.Test.YtienogpnkkailaaGreatDoorCards
import Derived.Test.YtienogpnkkailaaGreatDoorTie
import Derived.OpenShut
import Derived.JoinedOf
import Derived.RowKit
section
set_option autoImplicit false
set_option maxRecDepth 100000
namespace Go.Proofs.YtienogpnkkailaaGreatDoor
open Go
theorem andB {a b : Bool} (h : a = true) (g : b = true) : (a && b) = true := by rw [h, g]; rfl
set_option maxHeartbeats 0 in
theorem opensClosed : joinedFacts Tryz.prog 3 Tryz.f3 Rows.kernelOpensSpec Rows.kernelOpensRow = true := by
  unfold joinedFacts
  repeat' with_reducible apply andB
  all_goals (as_aux_lemma => kernel_rfl)
theorem opensName : Tryz.prog.funcNamed "clusterkernel/clusterkernellaw20.KernelOpens" = some 3 := by kernel_rfl
theorem opensInst : Tryz.f3.isInstance Tryz.prog Rows.kernelOpensRow.origin Rows.kernelOpensRow.targs := of_decide_eq_true (by kernel_rfl)
theorem opensWrap : Tryz.f3.isWrapper Tryz.prog Rows.kernelOpensRow.wrapper Rows.kernelOpensRow.mainSum := by unfold Func.isWrapper; first | (rw [if_pos (by decide +kernel)]; kernel_rfl) | (rw [if_neg (by decide +kernel)]; exact ⟨rfl, rfl⟩)
end Go.Proofs.YtienogpnkkailaaGreatDoor
end
