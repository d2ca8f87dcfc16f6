import Derived.Test.YtienogpnkkailaaGreatDoorOpensDa
section
set_option autoImplicit false
set_option maxRecDepth 100000
namespace Go.Ev
open Go.Proofs
noncomputable section
theorem opb68 : factB [opx5, opx22, opx23, opx67, opx4, opx25, opx2, opx26, opx6, opx27, opx28, opx29, opx30] opx68 = true := by kernel_rfl
theorem opb70 : factB [] opx70 = true := by kernel_rfl
theorem opb72 : factB [] opx72 = true := by kernel_rfl
theorem opb73 : factB [opx5, opx22, opx23, opx72, opx4, opx25, opx2, opx26, opx6, opx27, opx28, opx29, opx30] opx73 = true := by kernel_rfl
theorem opb75 : factB [] opx75 = true := by kernel_rfl
theorem opb77 : factB [] opx77 = true := by kernel_rfl
theorem opb78 : factB [opx5, opx22, opx23, opx77, opx4, opx25, opx2, opx26, opx6, opx27, opx28, opx29, opx30] opx78 = true := by kernel_rfl
theorem opt0 : trueB (callM (memoOf [opx19, opx21, opx32, opx33, opx35, opx36, opx37, opx38, opx39, opx40, opx41, opx42, opx43, opx44, opx45, opx46, opx47, opx48, opx49, opx50, opx51, opx52, opx53, opx54, opx55, opx56, opx57, opx58, opx59]) 3 [.sym .u8 (.mk (.ofNat 0) [.mk (.ofNat 1) 0 (.ofNat 0) (.ofNat 255)])] emptyH) = true := by kernel_rfl
theorem opt1 : trueB (callM (memoOf [opx19, opx61, opx64, opx33, opx35, opx36, opx37, opx38, opx39, opx40, opx41, opx42, opx43, opx44, opx45, opx46, opx47, opx48, opx49, opx50, opx51, opx52, opx53, opx54, opx55, opx56, opx57, opx58, opx59]) 3 [.sym .u8 (.mk (.ofNat 0) [.mk (.ofNat 1) 0 (.ofNat 0) (.ofNat 255)])] emptyH) = true := by kernel_rfl
end
end Go.Ev
end
