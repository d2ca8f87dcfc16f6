import Derived.Test.YtienogpnkkailaaGreatDoorDupsD
section
set_option autoImplicit false
set_option maxRecDepth 100000
namespace Go.Ev
noncomputable section
theorem dpt0 : trueB (callM (memoOf [dpx9, dpx11, dpx12, dpx13, dpx14, dpx15, dpx16, dpx17, dpx18, dpx19, dpx20, dpx21, dpx22, dpx23, dpx24, dpx25, dpx26, dpx27, dpx28, dpx29, dpx30, dpx31, dpx32, dpx33, dpx34, dpx35]) 12 [.sym .u8 (.mk (.ofNat 0) [.mk (.ofNat 1) 1 (.ofNat 0) (.ofNat 9)])] emptyH) = true := by kernel_rfl
theorem dpt1 : trueB (callM (memoOf [dpx9, dpx37, dpx38, dpx39, dpx40, dpx41, dpx42, dpx43, dpx44, dpx45, dpx46, dpx47, dpx48, dpx49, dpx24, dpx25, dpx26, dpx27, dpx28, dpx29, dpx30, dpx31, dpx32, dpx33, dpx34, dpx35]) 12 [.sym .u8 (.mk (.ofNat 0) [.mk (.ofNat 10) 2 (.ofNat 1) (.ofNat 9), .mk (.ofNat 1) 1 (.ofNat 0) (.ofNat 9)])] emptyH) = true := by kernel_rfl
end
end Go.Ev
end
