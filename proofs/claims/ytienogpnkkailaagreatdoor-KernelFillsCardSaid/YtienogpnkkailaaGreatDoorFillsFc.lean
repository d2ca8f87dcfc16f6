import Derived.Test.YtienogpnkkailaaGreatDoorFillsDc
section
set_option autoImplicit false
set_option maxRecDepth 100000
namespace Go.Ev
open Go.Proofs
noncomputable section
theorem flb56 : factB [flx27] flx56 = true := by kernel_rfl
theorem flb57 : factB [flx27] flx57 = true := by kernel_rfl
theorem flb58 : factB [flx27] flx58 = true := by kernel_rfl
theorem flb59 : factB [flx27] flx59 = true := by kernel_rfl
theorem flb60 : factB [flx27] flx60 = true := by kernel_rfl
theorem flb61 : factB [flx27] flx61 = true := by kernel_rfl
theorem flb62 : factB [flx27] flx62 = true := by kernel_rfl
theorem flb63 : factB [flx27] flx63 = true := by kernel_rfl
theorem flb64 : factB [flx27] flx64 = true := by kernel_rfl
theorem flb65 : factB [flx27] flx65 = true := by kernel_rfl
theorem flb66 : factB [flx27] flx66 = true := by kernel_rfl
theorem flb67 : factB [flx27] flx67 = true := by kernel_rfl
theorem flb68 : factB [flx27] flx68 = true := by kernel_rfl
theorem flb69 : factB [flx27] flx69 = true := by kernel_rfl
theorem flb70 : factB [flx27] flx70 = true := by kernel_rfl
theorem flb71 : factB [flx27] flx71 = true := by kernel_rfl
theorem flb72 : factB [flx27] flx72 = true := by kernel_rfl
theorem flb73 : factB [flx27] flx73 = true := by kernel_rfl
theorem flb74 : factB [flx27] flx74 = true := by kernel_rfl
theorem flb75 : factB [flx27] flx75 = true := by kernel_rfl
end
end Go.Ev
end
