import Derived.Test.YtienogpnkkailaaGreatDoorBacklogsDb
section
set_option autoImplicit false
set_option maxRecDepth 100000
namespace Go.Ev
open Go.Proofs
noncomputable section
theorem blt0 : trueB (callM (memoOf [blx20, blx21, blx31, blx32, blx34, blx35, blx36, blx37, blx38, blx39, blx40, blx41, blx42, blx43, blx44, blx45, blx46, blx47, blx48, blx49, blx50, blx51, blx52, blx53, blx54, blx55, blx56, blx57, blx58, blx59, blx60, blx61, blx62, blx63, blx64, blx65, blx66, blx67, blx68, blx69, blx70, blx71, blx72, blx73, blx74, blx75, blx76, blx77, blx78, blx79, blx80, blx81, blx82, blx83, blx84, blx85, blx86, blx87, blx88, blx89, blx90, blx91, blx92]) 13 [.sym .u8 (.mk (.ofNat 0) [.mk (.ofNat 4) 0 (.ofNat 0) (.ofNat 63)])] emptyH) = true := by kernel_rfl
theorem blt1 : trueB (callM (memoOf [blx20, blx21, blx31, blx32, blx34, blx35, blx36, blx37, blx38, blx39, blx40, blx41, blx42, blx43, blx44, blx45, blx46, blx47, blx48, blx49, blx50, blx51, blx52, blx53, blx54, blx55, blx56, blx57, blx58, blx59, blx60, blx61, blx62, blx63, blx64, blx65, blx66, blx67, blx68, blx69, blx70, blx71, blx72, blx73, blx74, blx75, blx76, blx77, blx78, blx79, blx80, blx81, blx82, blx83, blx84, blx85, blx86, blx87, blx88, blx89, blx90, blx91, blx92]) 13 [.sym .u8 (.mk (.ofNat 1) [.mk (.ofNat 4) 0 (.ofNat 0) (.ofNat 63)])] emptyH) = true := by kernel_rfl
end
end Go.Ev
end
