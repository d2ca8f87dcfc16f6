import Derived.Test.YtienogpnkkailaaGreatDoorBacklogsDb
section
set_option autoImplicit false
set_option maxRecDepth 100000
namespace Go.Ev
open Go.Proofs
noncomputable section
theorem blb0 : factB [] blx0 = true := by kernel_rfl
theorem blb1 : factB [] blx1 = true := by kernel_rfl
theorem blb2 : factB [] blx2 = true := by kernel_rfl
theorem blb3 : factB [] blx3 = true := by kernel_rfl
theorem blb4 : factB [] blx4 = true := by kernel_rfl
theorem blb5 : factB [] blx5 = true := by kernel_rfl
theorem blb6 : factB [] blx6 = true := by kernel_rfl
theorem blb7 : factB [blx0, blx1, blx2, blx3, blx4, blx5, blx6] blx7 = true := by kernel_rfl
theorem blb8 : factB [] blx8 = true := by kernel_rfl
theorem blb9 : factB [] blx9 = true := by kernel_rfl
theorem blb10 : factB [blx9] blx10 = true := by kernel_rfl
theorem blb11 : factB [blx9] blx11 = true := by kernel_rfl
theorem blb12 : factB [blx9] blx12 = true := by kernel_rfl
theorem blb13 : factB [blx9] blx13 = true := by kernel_rfl
theorem blb14 : factB [blx9] blx14 = true := by kernel_rfl
theorem blb15 : factB [blx9] blx15 = true := by kernel_rfl
theorem blb16 : factB [blx9] blx16 = true := by kernel_rfl
theorem blb17 : factB [blx9] blx17 = true := by kernel_rfl
theorem blb18 : factB [blx11, blx12, blx13, blx14, blx15, blx16, blx17] blx18 = true := by kernel_rfl
theorem blb19 : factB [blx9] blx19 = true := by kernel_rfl
theorem blb20 : factB [blx7, blx8, blx10, blx18, blx19] blx20 = true := by kernel_rfl
theorem blb21 : factB [] blx21 = true := by kernel_rfl
theorem blb22 : factB [] blx22 = true := by kernel_rfl
theorem blb23 : factB [] blx23 = true := by kernel_rfl
theorem blb24 : factB [] blx24 = true := by kernel_rfl
theorem blb25 : factB [] blx25 = true := by kernel_rfl
theorem blb26 : factB [] blx26 = true := by kernel_rfl
theorem blb27 : factB [] blx27 = true := by kernel_rfl
theorem blb28 : factB [] blx28 = true := by kernel_rfl
theorem blb29 : factB [] blx29 = true := by kernel_rfl
theorem blb30 : factB [] blx30 = true := by kernel_rfl
end
end Go.Ev
end
