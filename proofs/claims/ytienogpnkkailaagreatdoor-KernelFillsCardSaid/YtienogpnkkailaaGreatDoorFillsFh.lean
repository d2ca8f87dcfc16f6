import Derived.Test.YtienogpnkkailaaGreatDoorFillsDc
section
set_option autoImplicit false
set_option maxRecDepth 100000
namespace Go.Ev
open Go.Proofs
noncomputable section
theorem flb152 : factB [flx27] flx152 = true := by kernel_rfl
theorem flb153 : factB [flx27] flx153 = true := by kernel_rfl
theorem flb154 : factB [flx27] flx154 = true := by kernel_rfl
theorem flb155 : factB [flx27] flx155 = true := by kernel_rfl
theorem flb156 : factB [flx27] flx156 = true := by kernel_rfl
theorem flb157 : factB [flx27] flx157 = true := by kernel_rfl
theorem flb158 : factB [flx27] flx158 = true := by kernel_rfl
theorem flb159 : factB [flx27] flx159 = true := by kernel_rfl
end
end Go.Ev
end
