import Derived.Test.YtienogpnkkailaaGreatDoorFillsDc
section
set_option autoImplicit false
set_option maxRecDepth 100000
namespace Go.Ev
open Go.Proofs
noncomputable section
theorem flb76 : factB [flx27] flx76 = true := by kernel_rfl
theorem flb77 : factB [flx27] flx77 = true := by kernel_rfl
theorem flb78 : factB [flx27] flx78 = true := by kernel_rfl
theorem flb79 : factB [flx27] flx79 = true := by kernel_rfl
theorem flb80 : factB [flx27] flx80 = true := by kernel_rfl
theorem flb81 : factB [flx27] flx81 = true := by kernel_rfl
theorem flb82 : factB [flx27] flx82 = true := by kernel_rfl
theorem flb83 : factB [flx27] flx83 = true := by kernel_rfl
theorem flb84 : factB [flx27] flx84 = true := by kernel_rfl
theorem flb85 : factB [flx27] flx85 = true := by kernel_rfl
theorem flb86 : factB [flx27] flx86 = true := by kernel_rfl
theorem flb87 : factB [flx27] flx87 = true := by kernel_rfl
theorem flb88 : factB [flx27] flx88 = true := by kernel_rfl
theorem flb89 : factB [flx27] flx89 = true := by kernel_rfl
theorem flb90 : factB [flx27] flx90 = true := by kernel_rfl
theorem flb91 : factB [flx27] flx91 = true := by kernel_rfl
theorem flb92 : factB [flx27] flx92 = true := by kernel_rfl
theorem flb93 : factB [flx27] flx93 = true := by kernel_rfl
theorem flb94 : factB [flx27] flx94 = true := by kernel_rfl
end
end Go.Ev
end
