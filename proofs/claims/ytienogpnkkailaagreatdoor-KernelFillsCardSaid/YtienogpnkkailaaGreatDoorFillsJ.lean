import Derived.KernelRfl
import Derived.Test.YtienogpnkkailaaGreatDoorCards
import Derived.Test.YtienogpnkkailaaGreatDoorTie
import Derived.OpenShut
import Derived.JoinedOf
import Derived.RowKit
section
set_option autoImplicit false
set_option maxRecDepth 100000
namespace Go.Proofs.YtienogpnkkailaaGreatDoor
open Go
theorem andB {a b : Bool} (h : a = true) (g : b = true) : (a && b) = true := by rw [h, g]; rfl
set_option maxHeartbeats 0 in
theorem fillsClosed : joinedFacts Tryz.prog 9 Tryz.f9 Rows.kernelFillsSpec Rows.kernelFillsRow = true := by
  unfold joinedFacts
  repeat' with_reducible apply andB
  all_goals (as_aux_lemma => kernel_rfl)
theorem fillsName : Tryz.prog.funcNamed "clusterkernel/clusterkernellaw20.KernelFills" = some 9 := by kernel_rfl
theorem fillsInst : Tryz.f9.isInstance Tryz.prog Rows.kernelFillsRow.origin Rows.kernelFillsRow.targs := of_decide_eq_true (by kernel_rfl)
theorem fillsWrap : Tryz.f9.isWrapper Tryz.prog Rows.kernelFillsRow.wrapper Rows.kernelFillsRow.mainSum := by unfold Func.isWrapper; first | (rw [if_pos (by decide +kernel)]; kernel_rfl) | (rw [if_neg (by decide +kernel)]; exact ⟨rfl, rfl⟩)
end Go.Proofs.YtienogpnkkailaaGreatDoor
end
