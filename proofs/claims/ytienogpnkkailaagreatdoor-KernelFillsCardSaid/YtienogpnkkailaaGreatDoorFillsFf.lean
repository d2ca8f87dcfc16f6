import Derived.Test.YtienogpnkkailaaGreatDoorFillsDc
section
set_option autoImplicit false
set_option maxRecDepth 100000
namespace Go.Ev
open Go.Proofs
noncomputable section
theorem flb115 : factB [flx27] flx115 = true := by kernel_rfl
theorem flb116 : factB [flx27] flx116 = true := by kernel_rfl
theorem flb117 : factB [flx27] flx117 = true := by kernel_rfl
theorem flb118 : factB [flx27] flx118 = true := by kernel_rfl
theorem flb119 : factB [flx27] flx119 = true := by kernel_rfl
theorem flb120 : factB [flx27] flx120 = true := by kernel_rfl
theorem flb121 : factB [flx27] flx121 = true := by kernel_rfl
theorem flb122 : factB [flx27] flx122 = true := by kernel_rfl
theorem flb123 : factB [flx27] flx123 = true := by kernel_rfl
theorem flb124 : factB [flx27] flx124 = true := by kernel_rfl
theorem flb125 : factB [flx27] flx125 = true := by kernel_rfl
theorem flb126 : factB [flx27] flx126 = true := by kernel_rfl
theorem flb127 : factB [flx27] flx127 = true := by kernel_rfl
theorem flb128 : factB [flx27] flx128 = true := by kernel_rfl
theorem flb129 : factB [flx27] flx129 = true := by kernel_rfl
theorem flb130 : factB [flx27] flx130 = true := by kernel_rfl
theorem flb131 : factB [flx27] flx131 = true := by kernel_rfl
theorem flb132 : factB [flx27] flx132 = true := by kernel_rfl
theorem flb133 : factB [flx27] flx133 = true := by kernel_rfl
end
end Go.Ev
end
