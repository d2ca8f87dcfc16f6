import Derived.Test.YtienogpnkkailaaGreatDoorDupsD
section
set_option autoImplicit false
set_option maxRecDepth 100000
namespace Go.Ev
noncomputable section
theorem dpb36 : factB [] dpx36 = true := by kernel_rfl
theorem dpb37 : factB [dpx36] dpx37 = true := by kernel_rfl
theorem dpb38 : factB [dpx36] dpx38 = true := by kernel_rfl
theorem dpb39 : factB [dpx36] dpx39 = true := by kernel_rfl
theorem dpb40 : factB [dpx36] dpx40 = true := by kernel_rfl
theorem dpb41 : factB [dpx36] dpx41 = true := by kernel_rfl
theorem dpb42 : factB [dpx36] dpx42 = true := by kernel_rfl
theorem dpb43 : factB [dpx36] dpx43 = true := by kernel_rfl
theorem dpb44 : factB [dpx36] dpx44 = true := by kernel_rfl
theorem dpb45 : factB [dpx36] dpx45 = true := by kernel_rfl
theorem dpb46 : factB [dpx36] dpx46 = true := by kernel_rfl
theorem dpb47 : factB [dpx36] dpx47 = true := by kernel_rfl
theorem dpb48 : factB [dpx36] dpx48 = true := by kernel_rfl
theorem dpb49 : factB [dpx36] dpx49 = true := by kernel_rfl
theorem dpb50 : factB [] dpx50 = true := by kernel_rfl
end
end Go.Ev
end
