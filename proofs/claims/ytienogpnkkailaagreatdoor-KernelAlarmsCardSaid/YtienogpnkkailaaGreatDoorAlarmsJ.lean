import Derived.KernelRfl
import Derived.Test.YtienogpnkkailaaGreatDoorCards
import Derived.Test.YtienogpnkkailaaGreatDoorTie
import Derived.OpenShut
import Derived.JoinedOf
import Derived.RowKit
section
set_option autoImplicit false
set_option maxRecDepth 100000
namespace Go.Proofs.YtienogpnkkailaaGreatDoor
open Go
theorem andB {a b : Bool} (h : a = true) (g : b = true) : (a && b) = true := by rw [h, g]; rfl
set_option maxHeartbeats 0 in
theorem alarmsClosed : joinedFacts Tryz.prog 16 Tryz.f16 Rows.kernelAlarmsSpec Rows.kernelAlarmsRow = true := by
  unfold joinedFacts
  repeat' with_reducible apply andB
  all_goals (as_aux_lemma => kernel_rfl)
theorem alarmsName : Tryz.prog.funcNamed "clusterkernel/clusterkernellaw20.KernelAlarms" = some 16 := by kernel_rfl
theorem alarmsInst : Tryz.f16.isInstance Tryz.prog Rows.kernelAlarmsRow.origin Rows.kernelAlarmsRow.targs := of_decide_eq_true (by kernel_rfl)
theorem alarmsWrap : Tryz.f16.isWrapper Tryz.prog Rows.kernelAlarmsRow.wrapper Rows.kernelAlarmsRow.mainSum := by unfold Func.isWrapper; first | (rw [if_pos (by decide +kernel)]; kernel_rfl) | (rw [if_neg (by decide +kernel)]; exact ⟨rfl, rfl⟩)
end Go.Proofs.YtienogpnkkailaaGreatDoor
end
