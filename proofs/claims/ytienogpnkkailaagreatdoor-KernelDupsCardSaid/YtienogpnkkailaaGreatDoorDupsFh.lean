import Derived.Test.YtienogpnkkailaaGreatDoorDupsD
section
set_option autoImplicit false
set_option maxRecDepth 100000
namespace Go.Ev
noncomputable section
theorem dpt2 : trueB (callM (memoOf [dpx9, dpx51, dpx52, dpx53, dpx54, dpx55, dpx56, dpx57, dpx58, dpx59, dpx60, dpx61, dpx62, dpx63, dpx24, dpx25, dpx26, dpx27, dpx28, dpx29, dpx30, dpx31, dpx32, dpx33, dpx34, dpx35]) 12 [.sym .u8 (.mk (.ofNat 100) [.mk (.ofNat 10) 2 (.ofNat 0) (.ofNat 9), .mk (.ofNat 1) 1 (.ofNat 0) (.ofNat 9)])] emptyH) = true := by kernel_rfl
theorem dpt3 : trueB (callM (memoOf [dpx9, dpx65, dpx66, dpx67, dpx68, dpx69, dpx70, dpx71, dpx72, dpx73, dpx74, dpx75, dpx76, dpx77, dpx24, dpx25, dpx26, dpx27, dpx28, dpx29, dpx30, dpx31, dpx32, dpx33, dpx34, dpx35]) 12 [.sym .u8 (.mk (.ofNat 200) [.mk (.ofNat 10) 2 (.ofNat 0) (.ofNat 4), .mk (.ofNat 1) 1 (.ofNat 0) (.ofNat 9)])] emptyH) = true := by kernel_rfl
end
end Go.Ev
end
