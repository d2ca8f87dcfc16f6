import Derived.Test.YtienogpnkkailaaGreatDoorBacklogsDb
section
set_option autoImplicit false
set_option maxRecDepth 100000
namespace Go.Ev
open Go.Proofs
noncomputable section
theorem blb63 : factB [blx33] blx63 = true := by kernel_rfl
theorem blb64 : factB [blx33] blx64 = true := by kernel_rfl
theorem blb65 : factB [blx33] blx65 = true := by kernel_rfl
theorem blb66 : factB [blx33] blx66 = true := by kernel_rfl
theorem blb67 : factB [blx33] blx67 = true := by kernel_rfl
theorem blb68 : factB [blx33] blx68 = true := by kernel_rfl
theorem blb69 : factB [blx33] blx69 = true := by kernel_rfl
theorem blb70 : factB [blx33] blx70 = true := by kernel_rfl
end
end Go.Ev
end
