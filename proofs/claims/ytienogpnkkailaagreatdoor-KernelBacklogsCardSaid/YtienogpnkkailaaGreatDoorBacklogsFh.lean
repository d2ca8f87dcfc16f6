import Derived.Test.YtienogpnkkailaaGreatDoorBacklogsDb
section
set_option autoImplicit false
set_option maxRecDepth 100000
namespace Go.Ev
open Go.Proofs
noncomputable section
theorem blb87 : factB [blx33] blx87 = true := by kernel_rfl
theorem blb88 : factB [blx33] blx88 = true := by kernel_rfl
theorem blb89 : factB [blx33] blx89 = true := by kernel_rfl
theorem blb90 : factB [blx33] blx90 = true := by kernel_rfl
theorem blb91 : factB [blx33] blx91 = true := by kernel_rfl
theorem blb92 : factB [blx33] blx92 = true := by kernel_rfl
end
end Go.Ev
end
