import Derived.Test.YtienogpnkkailaaGreatDoorOpensDa
section
set_option autoImplicit false
set_option maxRecDepth 100000
namespace Go.Ev
open Go.Proofs
noncomputable section
theorem opb0 : factB [] opx0 = true := by kernel_rfl
theorem opb1 : factB [] opx1 = true := by kernel_rfl
theorem opb2 : factB [] opx2 = true := by kernel_rfl
theorem opb3 : factB [] opx3 = true := by kernel_rfl
theorem opb4 : factB [] opx4 = true := by kernel_rfl
theorem opb5 : factB [] opx5 = true := by kernel_rfl
theorem opb6 : factB [] opx6 = true := by kernel_rfl
theorem opb7 : factB [opx0, opx1, opx2, opx3, opx4, opx5, opx6] opx7 = true := by kernel_rfl
theorem opb8 : factB [] opx8 = true := by kernel_rfl
theorem opb9 : factB [] opx9 = true := by kernel_rfl
theorem opb10 : factB [opx9] opx10 = true := by kernel_rfl
theorem opb11 : factB [opx9] opx11 = true := by kernel_rfl
theorem opb12 : factB [opx9] opx12 = true := by kernel_rfl
theorem opb13 : factB [opx9] opx13 = true := by kernel_rfl
theorem opb14 : factB [opx9] opx14 = true := by kernel_rfl
theorem opb15 : factB [opx9] opx15 = true := by kernel_rfl
theorem opb16 : factB [opx9] opx16 = true := by kernel_rfl
theorem opb17 : factB [opx9] opx17 = true := by kernel_rfl
theorem opb18 : factB [opx9] opx18 = true := by kernel_rfl
theorem opb19 : factB [opx7, opx8, opx10, opx11, opx12, opx13, opx14, opx15, opx16, opx17, opx18] opx19 = true := by kernel_rfl
theorem opb20 : factB [] opx20 = true := by kernel_rfl
theorem opb22 : factB [] opx22 = true := by kernel_rfl
theorem opb23 : factB [] opx23 = true := by kernel_rfl
theorem opb24 : factB [] opx24 = true := by kernel_rfl
theorem opb25 : factB [] opx25 = true := by kernel_rfl
theorem opb26 : factB [] opx26 = true := by kernel_rfl
theorem opb27 : factB [] opx27 = true := by kernel_rfl
theorem opb28 : factB [] opx28 = true := by kernel_rfl
theorem opb29 : factB [] opx29 = true := by kernel_rfl
theorem opb30 : factB [] opx30 = true := by kernel_rfl
theorem opb31 : factB [opx5, opx22, opx23, opx24, opx4, opx25, opx2, opx26, opx6, opx27, opx28, opx29, opx30] opx31 = true := by kernel_rfl
theorem opb33 : factB [] opx33 = true := by kernel_rfl
theorem opb34 : factB [] opx34 = true := by kernel_rfl
theorem opb35 : factB [opx34] opx35 = true := by kernel_rfl
theorem opb36 : factB [opx34] opx36 = true := by kernel_rfl
theorem opb37 : factB [opx34] opx37 = true := by kernel_rfl
end
end Go.Ev
end
