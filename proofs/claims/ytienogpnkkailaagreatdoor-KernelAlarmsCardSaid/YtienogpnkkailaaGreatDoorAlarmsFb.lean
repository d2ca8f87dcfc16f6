import Derived.Test.YtienogpnkkailaaGreatDoorAlarmsDa
section
set_option autoImplicit false
set_option maxRecDepth 100000
namespace Go.Ev
open Go.Proofs
noncomputable section
theorem alb44 : factB [alx33] alx44 = true := by kernel_rfl
theorem alb45 : factB [alx42, alx43, alx44] alx45 = true := by kernel_rfl
theorem alb46 : factB [] alx46 = true := by kernel_rfl
theorem alb47 : factB [alx33] alx47 = true := by kernel_rfl
theorem alb48 : factB [alx33] alx48 = true := by kernel_rfl
theorem alb49 : factB [alx33] alx49 = true := by kernel_rfl
theorem alb50 : factB [alx33] alx50 = true := by kernel_rfl
theorem alb51 : factB [alx33] alx51 = true := by kernel_rfl
theorem alb52 : factB [alx33] alx52 = true := by kernel_rfl
theorem alb53 : factB [alx47, alx48, alx49, alx50, alx51, alx52] alx53 = true := by kernel_rfl
theorem alb54 : factB [] alx54 = true := by kernel_rfl
theorem alb56 : factB [] alx56 = true := by kernel_rfl
theorem alb57 : factB [alx56, alx24, alx25, alx26, alx27, alx28, alx29] alx57 = true := by kernel_rfl
theorem alb59 : factB [] alx59 = true := by kernel_rfl
theorem alb61 : factB [] alx61 = true := by kernel_rfl
theorem alb62 : factB [alx61, alx24, alx25, alx26, alx27, alx28, alx29] alx62 = true := by kernel_rfl
theorem alb64 : factB [] alx64 = true := by kernel_rfl
theorem alb66 : factB [] alx66 = true := by kernel_rfl
theorem alb67 : factB [alx66, alx24, alx25, alx26, alx27, alx28, alx29] alx67 = true := by kernel_rfl
theorem alb69 : factB [] alx69 = true := by kernel_rfl
theorem alb71 : factB [] alx71 = true := by kernel_rfl
theorem alb72 : factB [alx71, alx24, alx25, alx26, alx27, alx28, alx29] alx72 = true := by kernel_rfl
theorem alt0 : trueB (callM (memoOf [alx20, alx22, alx31, alx32, alx34, alx35, alx36, alx37, alx38, alx39, alx40, alx41, alx45, alx46, alx53]) 16 [.sym .u8 (.mk (.ofNat 0) [.mk (.ofNat 1) 0 (.ofNat 0) (.ofNat 255)])] emptyH) = true := by kernel_rfl
theorem alt1 : trueB (callM (memoOf [alx20, alx55, alx58, alx32, alx34, alx35, alx36, alx37, alx38, alx39, alx40, alx41, alx45, alx46, alx53]) 16 [.sym .u8 (.mk (.ofNat 0) [.mk (.ofNat 1) 0 (.ofNat 0) (.ofNat 255)])] emptyH) = true := by kernel_rfl
theorem alt2 : trueB (callM (memoOf [alx20, alx60, alx63, alx32, alx34, alx35, alx36, alx37, alx38, alx39, alx40, alx41, alx45, alx46, alx53]) 16 [.sym .u8 (.mk (.ofNat 0) [.mk (.ofNat 1) 0 (.ofNat 0) (.ofNat 255)])] emptyH) = true := by kernel_rfl
theorem alt3 : trueB (callM (memoOf [alx20, alx65, alx68, alx32, alx34, alx35, alx36, alx37, alx38, alx39, alx40, alx41, alx45, alx46, alx53]) 16 [.sym .u8 (.mk (.ofNat 0) [.mk (.ofNat 1) 0 (.ofNat 0) (.ofNat 255)])] emptyH) = true := by kernel_rfl
theorem alt4 : trueB (callM (memoOf [alx20, alx70, alx73, alx32, alx34, alx35, alx36, alx37, alx38, alx39, alx40, alx41, alx45, alx46, alx53]) 16 [.sym .u8 (.mk (.ofNat 0) [.mk (.ofNat 1) 0 (.ofNat 0) (.ofNat 255)])] emptyH) = true := by kernel_rfl
end
end Go.Ev
end
