import Derived.Test.YtienogpnkkailaaGreatDoorDupsD
section
set_option autoImplicit false
set_option maxRecDepth 100000
namespace Go.Ev
noncomputable section
theorem dpb0 : factB [] dpx0 = true := by kernel_rfl
theorem dpb1 : factB [dpx0] dpx1 = true := by kernel_rfl
theorem dpb2 : factB [dpx0] dpx2 = true := by kernel_rfl
theorem dpb3 : factB [dpx0] dpx3 = true := by kernel_rfl
theorem dpb4 : factB [dpx0] dpx4 = true := by kernel_rfl
theorem dpb5 : factB [dpx0] dpx5 = true := by kernel_rfl
theorem dpb6 : factB [dpx0] dpx6 = true := by kernel_rfl
theorem dpb7 : factB [dpx0] dpx7 = true := by kernel_rfl
theorem dpb8 : factB [dpx0] dpx8 = true := by kernel_rfl
theorem dpb9 : factB [dpx1, dpx2, dpx3, dpx4, dpx5, dpx6, dpx7, dpx8, dpx0] dpx9 = true := by kernel_rfl
theorem dpb10 : factB [] dpx10 = true := by kernel_rfl
theorem dpb11 : factB [dpx10] dpx11 = true := by kernel_rfl
theorem dpb12 : factB [dpx10] dpx12 = true := by kernel_rfl
theorem dpb13 : factB [dpx10] dpx13 = true := by kernel_rfl
theorem dpb14 : factB [dpx10] dpx14 = true := by kernel_rfl
theorem dpb15 : factB [dpx10] dpx15 = true := by kernel_rfl
theorem dpb16 : factB [dpx10] dpx16 = true := by kernel_rfl
end
end Go.Ev
end
