import Derived.Test.YtienogpnkkailaaGreatDoorOpensDa
section
set_option autoImplicit false
set_option maxRecDepth 100000
namespace Go.Ev
open Go.Proofs
noncomputable section
theorem opb49 : factB [opx34] opx49 = true := by kernel_rfl
theorem opb50 : factB [opx34] opx50 = true := by kernel_rfl
theorem opb51 : factB [opx34] opx51 = true := by kernel_rfl
theorem opb52 : factB [opx34] opx52 = true := by kernel_rfl
theorem opb53 : factB [opx34] opx53 = true := by kernel_rfl
theorem opb54 : factB [opx34] opx54 = true := by kernel_rfl
theorem opb55 : factB [opx34] opx55 = true := by kernel_rfl
theorem opb56 : factB [opx34] opx56 = true := by kernel_rfl
theorem opb57 : factB [opx34] opx57 = true := by kernel_rfl
theorem opb58 : factB [opx34] opx58 = true := by kernel_rfl
theorem opb59 : factB [opx34] opx59 = true := by kernel_rfl
theorem opb60 : factB [] opx60 = true := by kernel_rfl
theorem opb62 : factB [] opx62 = true := by kernel_rfl
theorem opb63 : factB [opx5, opx22, opx23, opx62, opx4, opx25, opx2, opx26, opx6, opx27, opx28, opx29, opx30] opx63 = true := by kernel_rfl
theorem opb65 : factB [] opx65 = true := by kernel_rfl
theorem opb67 : factB [] opx67 = true := by kernel_rfl
end
end Go.Ev
end
