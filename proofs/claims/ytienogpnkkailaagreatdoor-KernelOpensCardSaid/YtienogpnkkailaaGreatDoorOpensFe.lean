import Derived.Test.YtienogpnkkailaaGreatDoorOpensDa
section
set_option autoImplicit false
set_option maxRecDepth 100000
namespace Go.Ev
open Go.Proofs
noncomputable section
theorem opt2 : trueB (callM (memoOf [opx19, opx66, opx69, opx33, opx35, opx36, opx37, opx38, opx39, opx40, opx41, opx42, opx43, opx44, opx45, opx46, opx47, opx48, opx49, opx50, opx51, opx52, opx53, opx54, opx55, opx56, opx57, opx58, opx59]) 3 [.sym .u8 (.mk (.ofNat 0) [.mk (.ofNat 1) 0 (.ofNat 0) (.ofNat 255)])] emptyH) = true := by kernel_rfl
theorem opt3 : trueB (callM (memoOf [opx19, opx71, opx74, opx33, opx35, opx36, opx37, opx38, opx39, opx40, opx41, opx42, opx43, opx44, opx45, opx46, opx47, opx48, opx49, opx50, opx51, opx52, opx53, opx54, opx55, opx56, opx57, opx58, opx59]) 3 [.sym .u8 (.mk (.ofNat 0) [.mk (.ofNat 1) 0 (.ofNat 0) (.ofNat 255)])] emptyH) = true := by kernel_rfl
theorem opt4 : trueB (callM (memoOf [opx19, opx76, opx79, opx33, opx35, opx36, opx37, opx38, opx39, opx40, opx41, opx42, opx43, opx44, opx45, opx46, opx47, opx48, opx49, opx50, opx51, opx52, opx53, opx54, opx55, opx56, opx57, opx58, opx59]) 3 [.sym .u8 (.mk (.ofNat 0) [.mk (.ofNat 1) 0 (.ofNat 0) (.ofNat 255)])] emptyH) = true := by kernel_rfl
end
end Go.Ev
end
