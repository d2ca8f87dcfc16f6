import Derived.Test.YtienogpnkkailaaGreatDoorBacklogsDb
section
set_option autoImplicit false
set_option maxRecDepth 100000
namespace Go.Ev
open Go.Proofs
noncomputable section
theorem blb53 : factB [blx33] blx53 = true := by kernel_rfl
theorem blb54 : factB [blx33] blx54 = true := by kernel_rfl
theorem blb55 : factB [blx33] blx55 = true := by kernel_rfl
theorem blb56 : factB [blx33] blx56 = true := by kernel_rfl
theorem blb57 : factB [blx33] blx57 = true := by kernel_rfl
theorem blb58 : factB [blx33] blx58 = true := by kernel_rfl
theorem blb59 : factB [blx33] blx59 = true := by kernel_rfl
theorem blb60 : factB [blx33] blx60 = true := by kernel_rfl
theorem blb61 : factB [blx33] blx61 = true := by kernel_rfl
theorem blb62 : factB [blx33] blx62 = true := by kernel_rfl
end
end Go.Ev
end
