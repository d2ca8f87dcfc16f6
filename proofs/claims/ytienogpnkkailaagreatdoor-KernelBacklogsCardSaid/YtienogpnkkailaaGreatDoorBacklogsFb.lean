import Derived.Test.YtienogpnkkailaaGreatDoorBacklogsDb
section
set_option autoImplicit false
set_option maxRecDepth 100000
namespace Go.Ev
open Go.Proofs
noncomputable section
theorem blb31 : factB [blx5, blx22, blx23, blx24, blx25, blx26, blx27, blx28, blx29, blx30] blx31 = true := by kernel_rfl
theorem blb32 : factB [] blx32 = true := by kernel_rfl
theorem blb33 : factB [] blx33 = true := by kernel_rfl
theorem blb34 : factB [blx33] blx34 = true := by kernel_rfl
theorem blb35 : factB [blx33] blx35 = true := by kernel_rfl
theorem blb36 : factB [blx33] blx36 = true := by kernel_rfl
theorem blb37 : factB [blx33] blx37 = true := by kernel_rfl
theorem blb38 : factB [blx33] blx38 = true := by kernel_rfl
theorem blb39 : factB [blx33] blx39 = true := by kernel_rfl
theorem blb40 : factB [blx33] blx40 = true := by kernel_rfl
end
end Go.Ev
end
