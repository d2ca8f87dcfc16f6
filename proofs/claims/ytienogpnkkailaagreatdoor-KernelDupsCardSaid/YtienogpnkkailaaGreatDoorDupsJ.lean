import Derived.KernelRfl
import Derived.Test.YtienogpnkkailaaGreatDoorCards
import Derived.Test.YtienogpnkkailaaGreatDoorTie
import Derived.OpenShut
import Derived.JoinedOf
import Derived.RowKit
section
set_option autoImplicit false
set_option maxRecDepth 100000
namespace Go.Proofs.YtienogpnkkailaaGreatDoor
open Go
theorem andB {a b : Bool} (h : a = true) (g : b = true) : (a && b) = true := by rw [h, g]; rfl
set_option maxHeartbeats 0 in
theorem dupsClosed : joinedFacts Tryz.prog 12 Tryz.f12 Rows.kernelDupsSpec Rows.kernelDupsRow = true := by
  unfold joinedFacts
  repeat' with_reducible apply andB
  all_goals (as_aux_lemma => kernel_rfl)
theorem dupsName : Tryz.prog.funcNamed "clusterkernel/clusterkernellaw20.KernelDups" = some 12 := by kernel_rfl
theorem dupsInst : Tryz.f12.isInstance Tryz.prog Rows.kernelDupsRow.origin Rows.kernelDupsRow.targs := of_decide_eq_true (by kernel_rfl)
theorem dupsWrap : Tryz.f12.isWrapper Tryz.prog Rows.kernelDupsRow.wrapper Rows.kernelDupsRow.mainSum := by unfold Func.isWrapper; first | (rw [if_pos (by decide +kernel)]; kernel_rfl) | (rw [if_neg (by decide +kernel)]; exact ⟨rfl, rfl⟩)
end Go.Proofs.YtienogpnkkailaaGreatDoor
end
