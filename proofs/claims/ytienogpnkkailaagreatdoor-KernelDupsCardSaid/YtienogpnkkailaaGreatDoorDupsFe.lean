import Derived.Test.YtienogpnkkailaaGreatDoorDupsD
section
set_option autoImplicit false
set_option maxRecDepth 100000
namespace Go.Ev
noncomputable section
theorem dpb65 : factB [dpx64] dpx65 = true := by kernel_rfl
theorem dpb66 : factB [dpx64] dpx66 = true := by kernel_rfl
theorem dpb67 : factB [dpx64] dpx67 = true := by kernel_rfl
theorem dpb68 : factB [dpx64] dpx68 = true := by kernel_rfl
theorem dpb69 : factB [dpx64] dpx69 = true := by kernel_rfl
theorem dpb70 : factB [dpx64] dpx70 = true := by kernel_rfl
theorem dpb71 : factB [dpx64] dpx71 = true := by kernel_rfl
theorem dpb72 : factB [dpx64] dpx72 = true := by kernel_rfl
theorem dpb73 : factB [dpx64] dpx73 = true := by kernel_rfl
theorem dpb74 : factB [dpx64] dpx74 = true := by kernel_rfl
theorem dpb75 : factB [dpx64] dpx75 = true := by kernel_rfl
theorem dpb76 : factB [dpx64] dpx76 = true := by kernel_rfl
theorem dpb77 : factB [dpx64] dpx77 = true := by kernel_rfl
theorem dpb78 : factB [] dpx78 = true := by kernel_rfl
end
end Go.Ev
end
