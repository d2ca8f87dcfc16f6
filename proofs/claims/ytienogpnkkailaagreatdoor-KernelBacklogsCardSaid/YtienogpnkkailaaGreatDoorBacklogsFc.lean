import Derived.Test.YtienogpnkkailaaGreatDoorBacklogsDb
section
set_option autoImplicit false
set_option maxRecDepth 100000
namespace Go.Ev
open Go.Proofs
noncomputable section
theorem blb41 : factB [blx33] blx41 = true := by kernel_rfl
theorem blb42 : factB [blx33] blx42 = true := by kernel_rfl
theorem blb43 : factB [blx33] blx43 = true := by kernel_rfl
theorem blb44 : factB [blx33] blx44 = true := by kernel_rfl
theorem blb45 : factB [blx33] blx45 = true := by kernel_rfl
theorem blb46 : factB [blx33] blx46 = true := by kernel_rfl
theorem blb47 : factB [blx33] blx47 = true := by kernel_rfl
theorem blb48 : factB [blx33] blx48 = true := by kernel_rfl
theorem blb49 : factB [blx33] blx49 = true := by kernel_rfl
theorem blb50 : factB [blx33] blx50 = true := by kernel_rfl
theorem blb51 : factB [blx33] blx51 = true := by kernel_rfl
theorem blb52 : factB [blx33] blx52 = true := by kernel_rfl
end
end Go.Ev
end
