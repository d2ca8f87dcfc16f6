import Derived.Test.YtienogpnkkailaaGreatDoorDupsD
section
set_option autoImplicit false
set_option maxRecDepth 100000
namespace Go.Ev
noncomputable section
theorem dpb51 : factB [dpx50] dpx51 = true := by kernel_rfl
theorem dpb52 : factB [dpx50] dpx52 = true := by kernel_rfl
theorem dpb53 : factB [dpx50] dpx53 = true := by kernel_rfl
theorem dpb54 : factB [dpx50] dpx54 = true := by kernel_rfl
theorem dpb55 : factB [dpx50] dpx55 = true := by kernel_rfl
theorem dpb56 : factB [dpx50] dpx56 = true := by kernel_rfl
theorem dpb57 : factB [dpx50] dpx57 = true := by kernel_rfl
theorem dpb58 : factB [dpx50] dpx58 = true := by kernel_rfl
theorem dpb59 : factB [dpx50] dpx59 = true := by kernel_rfl
theorem dpb60 : factB [dpx50] dpx60 = true := by kernel_rfl
theorem dpb61 : factB [dpx50] dpx61 = true := by kernel_rfl
theorem dpb62 : factB [dpx50] dpx62 = true := by kernel_rfl
theorem dpb63 : factB [dpx50] dpx63 = true := by kernel_rfl
theorem dpb64 : factB [] dpx64 = true := by kernel_rfl
end
end Go.Ev
end
