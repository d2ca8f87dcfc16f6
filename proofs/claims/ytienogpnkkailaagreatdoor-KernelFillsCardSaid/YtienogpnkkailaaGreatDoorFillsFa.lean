import Derived.Test.YtienogpnkkailaaGreatDoorFillsDc
section
set_option autoImplicit false
set_option maxRecDepth 100000
namespace Go.Ev
open Go.Proofs
noncomputable section
theorem flb0 : factB [] flx0 = true := by kernel_rfl
theorem flb1 : factB [] flx1 = true := by kernel_rfl
theorem flb2 : factB [] flx2 = true := by kernel_rfl
theorem flb3 : factB [] flx3 = true := by kernel_rfl
theorem flb4 : factB [] flx4 = true := by kernel_rfl
theorem flb5 : factB [] flx5 = true := by kernel_rfl
theorem flb6 : factB [] flx6 = true := by kernel_rfl
theorem flb7 : factB [flx0, flx1, flx2, flx3, flx4, flx5, flx6] flx7 = true := by kernel_rfl
theorem flb8 : factB [] flx8 = true := by kernel_rfl
theorem flb9 : factB [] flx9 = true := by kernel_rfl
theorem flb10 : factB [flx9] flx10 = true := by kernel_rfl
theorem flb11 : factB [flx9] flx11 = true := by kernel_rfl
theorem flb12 : factB [flx9] flx12 = true := by kernel_rfl
theorem flb13 : factB [flx9] flx13 = true := by kernel_rfl
theorem flb14 : factB [flx9] flx14 = true := by kernel_rfl
theorem flb15 : factB [flx9] flx15 = true := by kernel_rfl
theorem flb16 : factB [flx9] flx16 = true := by kernel_rfl
theorem flb17 : factB [flx9] flx17 = true := by kernel_rfl
theorem flb18 : factB [flx11, flx12, flx13, flx14, flx15, flx16, flx17] flx18 = true := by kernel_rfl
theorem flb19 : factB [flx9] flx19 = true := by kernel_rfl
theorem flb20 : factB [flx7, flx8, flx10, flx18, flx19] flx20 = true := by kernel_rfl
theorem flb21 : factB [] flx21 = true := by kernel_rfl
theorem flb23 : factB [] flx23 = true := by kernel_rfl
theorem flb24 : factB [] flx24 = true := by kernel_rfl
theorem flb25 : factB [flx0, flx2, flx23, flx4, flx24] flx25 = true := by kernel_rfl
theorem flb27 : factB [] flx27 = true := by kernel_rfl
theorem flb28 : factB [flx27] flx28 = true := by kernel_rfl
theorem flb29 : factB [flx27] flx29 = true := by kernel_rfl
theorem flb30 : factB [flx27] flx30 = true := by kernel_rfl
theorem flb31 : factB [flx27] flx31 = true := by kernel_rfl
theorem flb32 : factB [flx27] flx32 = true := by kernel_rfl
theorem flb33 : factB [flx27] flx33 = true := by kernel_rfl
theorem flb34 : factB [flx27] flx34 = true := by kernel_rfl
theorem flb35 : factB [flx27] flx35 = true := by kernel_rfl
theorem flb36 : factB [flx27] flx36 = true := by kernel_rfl
end
end Go.Ev
end
