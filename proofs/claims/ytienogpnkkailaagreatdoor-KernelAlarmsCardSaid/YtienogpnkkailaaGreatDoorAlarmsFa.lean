import Derived.Test.YtienogpnkkailaaGreatDoorAlarmsDa
section
set_option autoImplicit false
set_option maxRecDepth 100000
namespace Go.Ev
open Go.Proofs
noncomputable section
theorem alb0 : factB [] alx0 = true := by kernel_rfl
theorem alb1 : factB [] alx1 = true := by kernel_rfl
theorem alb2 : factB [] alx2 = true := by kernel_rfl
theorem alb3 : factB [] alx3 = true := by kernel_rfl
theorem alb4 : factB [] alx4 = true := by kernel_rfl
theorem alb5 : factB [] alx5 = true := by kernel_rfl
theorem alb6 : factB [] alx6 = true := by kernel_rfl
theorem alb7 : factB [alx0, alx1, alx2, alx3, alx4, alx5, alx6] alx7 = true := by kernel_rfl
theorem alb8 : factB [] alx8 = true := by kernel_rfl
theorem alb9 : factB [] alx9 = true := by kernel_rfl
theorem alb10 : factB [alx9] alx10 = true := by kernel_rfl
theorem alb11 : factB [alx9] alx11 = true := by kernel_rfl
theorem alb12 : factB [alx9] alx12 = true := by kernel_rfl
theorem alb13 : factB [alx9] alx13 = true := by kernel_rfl
theorem alb14 : factB [alx9] alx14 = true := by kernel_rfl
theorem alb15 : factB [alx9] alx15 = true := by kernel_rfl
theorem alb16 : factB [alx9] alx16 = true := by kernel_rfl
theorem alb17 : factB [alx9] alx17 = true := by kernel_rfl
theorem alb18 : factB [alx11, alx12, alx13, alx14, alx15, alx16, alx17] alx18 = true := by kernel_rfl
theorem alb19 : factB [alx9] alx19 = true := by kernel_rfl
theorem alb20 : factB [alx7, alx8, alx10, alx18, alx19] alx20 = true := by kernel_rfl
theorem alb21 : factB [] alx21 = true := by kernel_rfl
theorem alb23 : factB [] alx23 = true := by kernel_rfl
theorem alb24 : factB [] alx24 = true := by kernel_rfl
theorem alb25 : factB [] alx25 = true := by kernel_rfl
theorem alb26 : factB [] alx26 = true := by kernel_rfl
theorem alb27 : factB [] alx27 = true := by kernel_rfl
theorem alb28 : factB [] alx28 = true := by kernel_rfl
theorem alb29 : factB [] alx29 = true := by kernel_rfl
theorem alb30 : factB [alx23, alx24, alx25, alx26, alx27, alx28, alx29] alx30 = true := by kernel_rfl
theorem alb32 : factB [] alx32 = true := by kernel_rfl
theorem alb33 : factB [] alx33 = true := by kernel_rfl
theorem alb34 : factB [alx33] alx34 = true := by kernel_rfl
theorem alb35 : factB [alx33] alx35 = true := by kernel_rfl
theorem alb36 : factB [alx33] alx36 = true := by kernel_rfl
theorem alb37 : factB [alx33] alx37 = true := by kernel_rfl
theorem alb38 : factB [alx33] alx38 = true := by kernel_rfl
theorem alb39 : factB [alx33] alx39 = true := by kernel_rfl
theorem alb40 : factB [alx33] alx40 = true := by kernel_rfl
theorem alb41 : factB [] alx41 = true := by kernel_rfl
theorem alb42 : factB [alx33] alx42 = true := by kernel_rfl
theorem alb43 : factB [alx33] alx43 = true := by kernel_rfl
end
end Go.Ev
end
