import Derived.Test.YtienogpnkkailaaGreatDoorFillsDc
section
set_option autoImplicit false
set_option maxRecDepth 100000
namespace Go.Ev
open Go.Proofs
noncomputable section
theorem flb160 : factB [flx29, flx30, flx31, flx32, flx33, flx34, flx35, flx36, flx37, flx38, flx39, flx40, flx41, flx42, flx43, flx44, flx45, flx46, flx47, flx48, flx49, flx50, flx51, flx52, flx53, flx54, flx55, flx56, flx57, flx58, flx59, flx60, flx61, flx62, flx63, flx64, flx65, flx66, flx67, flx68, flx69, flx70, flx71, flx72, flx73, flx74, flx75, flx76, flx77, flx78, flx79, flx80, flx81, flx82, flx83, flx84, flx85, flx86, flx87, flx88, flx89, flx90, flx91, flx92, flx93, flx94, flx95, flx96, flx97, flx98, flx99, flx100, flx101, flx102, flx103, flx104, flx105, flx106, flx107, flx108, flx109, flx110, flx111, flx112, flx113, flx114, flx115, flx116, flx117, flx118, flx119, flx120, flx121, flx122, flx123, flx124, flx125, flx126, flx127, flx128, flx129, flx130, flx131, flx132, flx133, flx134, flx135, flx136, flx137, flx138, flx139, flx140, flx141, flx142, flx143, flx144, flx145, flx146, flx147, flx148, flx149, flx150, flx151, flx152, flx153, flx154, flx155, flx156, flx157, flx158, flx159] flx160 = true := by kernel_rfl
theorem flb161 : factB [flx27] flx161 = true := by kernel_rfl
theorem flb162 : factB [] flx162 = true := by kernel_rfl
theorem flb164 : factB [] flx164 = true := by kernel_rfl
theorem flb165 : factB [flx0, flx2, flx164, flx4, flx24] flx165 = true := by kernel_rfl
theorem flb167 : factB [] flx167 = true := by kernel_rfl
theorem flb169 : factB [] flx169 = true := by kernel_rfl
end
end Go.Ev
end
