import Derived.Test.YtienogpnkkailaaGreatDoorDupsD
section
set_option autoImplicit false
set_option maxRecDepth 100000
namespace Go.Ev
noncomputable section
theorem dpb79 : factB [dpx78] dpx79 = true := by kernel_rfl
theorem dpb80 : factB [dpx78] dpx80 = true := by kernel_rfl
theorem dpb81 : factB [dpx78] dpx81 = true := by kernel_rfl
theorem dpb82 : factB [dpx78] dpx82 = true := by kernel_rfl
theorem dpb83 : factB [dpx78] dpx83 = true := by kernel_rfl
theorem dpb84 : factB [dpx78] dpx84 = true := by kernel_rfl
theorem dpb85 : factB [dpx78] dpx85 = true := by kernel_rfl
theorem dpb86 : factB [dpx78] dpx86 = true := by kernel_rfl
theorem dpb87 : factB [dpx78] dpx87 = true := by kernel_rfl
theorem dpb88 : factB [dpx78] dpx88 = true := by kernel_rfl
theorem dpb89 : factB [dpx78] dpx89 = true := by kernel_rfl
theorem dpb90 : factB [dpx78] dpx90 = true := by kernel_rfl
theorem dpb91 : factB [dpx78] dpx91 = true := by kernel_rfl
end
end Go.Ev
end
