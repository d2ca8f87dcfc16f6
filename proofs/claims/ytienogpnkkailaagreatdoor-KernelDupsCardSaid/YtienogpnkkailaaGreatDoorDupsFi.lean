import Derived.Test.YtienogpnkkailaaGreatDoorDupsD
section
set_option autoImplicit false
set_option maxRecDepth 100000
namespace Go.Ev
noncomputable section
theorem dpt4 : trueB (callM (memoOf [dpx9, dpx79, dpx80, dpx81, dpx82, dpx83, dpx84, dpx85, dpx86, dpx87, dpx88, dpx89, dpx90, dpx91, dpx24, dpx25, dpx26, dpx27, dpx28, dpx29, dpx30, dpx31, dpx32, dpx33, dpx34, dpx35]) 12 [.sym .u8 (.mk (.ofNat 250) [.mk (.ofNat 1) 1 (.ofNat 0) (.ofNat 5)])] emptyH) = true := by kernel_rfl
end
end Go.Ev
end
