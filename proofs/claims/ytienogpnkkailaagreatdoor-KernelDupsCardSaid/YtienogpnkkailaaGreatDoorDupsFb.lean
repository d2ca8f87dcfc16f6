import Derived.Test.YtienogpnkkailaaGreatDoorDupsD
section
set_option autoImplicit false
set_option maxRecDepth 100000
namespace Go.Ev
noncomputable section
theorem dpb17 : factB [dpx10] dpx17 = true := by kernel_rfl
theorem dpb18 : factB [dpx10] dpx18 = true := by kernel_rfl
theorem dpb19 : factB [dpx10] dpx19 = true := by kernel_rfl
theorem dpb20 : factB [dpx10] dpx20 = true := by kernel_rfl
theorem dpb21 : factB [dpx10] dpx21 = true := by kernel_rfl
theorem dpb22 : factB [dpx10] dpx22 = true := by kernel_rfl
theorem dpb23 : factB [dpx10] dpx23 = true := by kernel_rfl
theorem dpb24 : factB [] dpx24 = true := by kernel_rfl
theorem dpb25 : factB [dpx24] dpx25 = true := by kernel_rfl
theorem dpb26 : factB [dpx24] dpx26 = true := by kernel_rfl
theorem dpb27 : factB [dpx24] dpx27 = true := by kernel_rfl
theorem dpb28 : factB [dpx24] dpx28 = true := by kernel_rfl
theorem dpb29 : factB [dpx24] dpx29 = true := by kernel_rfl
theorem dpb30 : factB [dpx24] dpx30 = true := by kernel_rfl
theorem dpb31 : factB [dpx24] dpx31 = true := by kernel_rfl
theorem dpb32 : factB [dpx24] dpx32 = true := by kernel_rfl
theorem dpb33 : factB [dpx24] dpx33 = true := by kernel_rfl
theorem dpb34 : factB [dpx24] dpx34 = true := by kernel_rfl
theorem dpb35 : factB [dpx24] dpx35 = true := by kernel_rfl
end
end Go.Ev
end
