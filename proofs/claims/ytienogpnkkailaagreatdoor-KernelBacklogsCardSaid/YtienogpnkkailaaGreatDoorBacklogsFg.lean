import Derived.Test.YtienogpnkkailaaGreatDoorBacklogsDb
section
set_option autoImplicit false
set_option maxRecDepth 100000
namespace Go.Ev
open Go.Proofs
noncomputable section
theorem blb78 : factB [blx33] blx78 = true := by kernel_rfl
theorem blb79 : factB [blx33] blx79 = true := by kernel_rfl
theorem blb80 : factB [blx33] blx80 = true := by kernel_rfl
theorem blb81 : factB [blx33] blx81 = true := by kernel_rfl
theorem blb82 : factB [blx33] blx82 = true := by kernel_rfl
theorem blb83 : factB [blx33] blx83 = true := by kernel_rfl
theorem blb84 : factB [blx33] blx84 = true := by kernel_rfl
theorem blb85 : factB [blx33] blx85 = true := by kernel_rfl
theorem blb86 : factB [blx33] blx86 = true := by kernel_rfl
end
end Go.Ev
end
