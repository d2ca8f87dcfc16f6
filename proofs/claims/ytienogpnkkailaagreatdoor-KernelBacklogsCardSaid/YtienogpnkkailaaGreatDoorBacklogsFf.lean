import Derived.Test.YtienogpnkkailaaGreatDoorBacklogsDb
section
set_option autoImplicit false
set_option maxRecDepth 100000
namespace Go.Ev
open Go.Proofs
noncomputable section
theorem blb71 : factB [blx33] blx71 = true := by kernel_rfl
theorem blb72 : factB [blx33] blx72 = true := by kernel_rfl
theorem blb73 : factB [blx33] blx73 = true := by kernel_rfl
theorem blb74 : factB [blx33] blx74 = true := by kernel_rfl
theorem blb75 : factB [blx33] blx75 = true := by kernel_rfl
theorem blb76 : factB [blx33] blx76 = true := by kernel_rfl
theorem blb77 : factB [blx33] blx77 = true := by kernel_rfl
end
end Go.Ev
end
