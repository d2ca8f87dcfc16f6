import Derived.KernelRfl
import Derived.Test.YtienogpnkkailaaGreatDoorCards
import Derived.Test.YtienogpnkkailaaGreatDoorTie
import Derived.OpenShut
import Derived.JoinedOf
import Derived.RowKit
section
set_option autoImplicit false
set_option maxRecDepth 100000
namespace Go.Proofs.YtienogpnkkailaaGreatDoor
open Go
theorem andB {a b : Bool} (h : a = true) (g : b = true) : (a && b) = true := by rw [h, g]; rfl
set_option maxHeartbeats 0 in
theorem backlogsClosed : joinedFacts Tryz.prog 13 Tryz.f13 Rows.kernelBacklogsSpec Rows.kernelBacklogsRow = true := by
  unfold joinedFacts
  repeat' with_reducible apply andB
  all_goals (as_aux_lemma => kernel_rfl)
theorem backlogsName : Tryz.prog.funcNamed "clusterkernel/clusterkernellaw20.KernelBacklogs" = some 13 := by kernel_rfl
theorem backlogsInst : Tryz.f13.isInstance Tryz.prog Rows.kernelBacklogsRow.origin Rows.kernelBacklogsRow.targs := of_decide_eq_true (by kernel_rfl)
theorem backlogsWrap : Tryz.f13.isWrapper Tryz.prog Rows.kernelBacklogsRow.wrapper Rows.kernelBacklogsRow.mainSum := by unfold Func.isWrapper; first | (rw [if_pos (by decide +kernel)]; kernel_rfl) | (rw [if_neg (by decide +kernel)]; exact ⟨rfl, rfl⟩)
end Go.Proofs.YtienogpnkkailaaGreatDoor
end
