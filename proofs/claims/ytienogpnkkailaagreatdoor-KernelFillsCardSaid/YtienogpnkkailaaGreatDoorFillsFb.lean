import Derived.Test.YtienogpnkkailaaGreatDoorFillsDc
section
set_option autoImplicit false
set_option maxRecDepth 100000
namespace Go.Ev
open Go.Proofs
noncomputable section
theorem flb37 : factB [flx27] flx37 = true := by kernel_rfl
theorem flb38 : factB [flx27] flx38 = true := by kernel_rfl
theorem flb39 : factB [flx27] flx39 = true := by kernel_rfl
theorem flb40 : factB [flx27] flx40 = true := by kernel_rfl
theorem flb41 : factB [flx27] flx41 = true := by kernel_rfl
theorem flb42 : factB [flx27] flx42 = true := by kernel_rfl
theorem flb43 : factB [flx27] flx43 = true := by kernel_rfl
theorem flb44 : factB [flx27] flx44 = true := by kernel_rfl
theorem flb45 : factB [flx27] flx45 = true := by kernel_rfl
theorem flb46 : factB [flx27] flx46 = true := by kernel_rfl
theorem flb47 : factB [flx27] flx47 = true := by kernel_rfl
theorem flb48 : factB [flx27] flx48 = true := by kernel_rfl
theorem flb49 : factB [flx27] flx49 = true := by kernel_rfl
theorem flb50 : factB [flx27] flx50 = true := by kernel_rfl
theorem flb51 : factB [flx27] flx51 = true := by kernel_rfl
theorem flb52 : factB [flx27] flx52 = true := by kernel_rfl
theorem flb53 : factB [flx27] flx53 = true := by kernel_rfl
theorem flb54 : factB [flx27] flx54 = true := by kernel_rfl
theorem flb55 : factB [flx27] flx55 = true := by kernel_rfl
end
end Go.Ev
end
