import Derived.Test.YtienogpnkkailaaGreatDoorFillsDc
section
set_option autoImplicit false
set_option maxRecDepth 100000
namespace Go.Ev
open Go.Proofs
noncomputable section
theorem flb134 : factB [flx27] flx134 = true := by kernel_rfl
theorem flb135 : factB [flx27] flx135 = true := by kernel_rfl
theorem flb136 : factB [flx27] flx136 = true := by kernel_rfl
theorem flb137 : factB [flx27] flx137 = true := by kernel_rfl
theorem flb138 : factB [flx27] flx138 = true := by kernel_rfl
theorem flb139 : factB [flx27] flx139 = true := by kernel_rfl
theorem flb140 : factB [flx27] flx140 = true := by kernel_rfl
theorem flb141 : factB [flx27] flx141 = true := by kernel_rfl
theorem flb142 : factB [flx27] flx142 = true := by kernel_rfl
theorem flb143 : factB [flx27] flx143 = true := by kernel_rfl
theorem flb144 : factB [flx27] flx144 = true := by kernel_rfl
theorem flb145 : factB [flx27] flx145 = true := by kernel_rfl
theorem flb146 : factB [flx27] flx146 = true := by kernel_rfl
theorem flb147 : factB [flx27] flx147 = true := by kernel_rfl
theorem flb148 : factB [flx27] flx148 = true := by kernel_rfl
theorem flb149 : factB [flx27] flx149 = true := by kernel_rfl
theorem flb150 : factB [flx27] flx150 = true := by kernel_rfl
theorem flb151 : factB [flx27] flx151 = true := by kernel_rfl
end
end Go.Ev
end
