import Derived.Test.YtienogpnkkailaaGreatDoorOpensDa
section
set_option autoImplicit false
set_option maxRecDepth 100000
namespace Go.Ev
open Go.Proofs
noncomputable section
theorem opb38 : factB [opx34] opx38 = true := by kernel_rfl
theorem opb39 : factB [opx34] opx39 = true := by kernel_rfl
theorem opb40 : factB [opx34] opx40 = true := by kernel_rfl
theorem opb41 : factB [opx34] opx41 = true := by kernel_rfl
theorem opb42 : factB [opx34] opx42 = true := by kernel_rfl
theorem opb43 : factB [opx34] opx43 = true := by kernel_rfl
theorem opb44 : factB [opx34] opx44 = true := by kernel_rfl
theorem opb45 : factB [opx34] opx45 = true := by kernel_rfl
theorem opb46 : factB [opx34] opx46 = true := by kernel_rfl
theorem opb47 : factB [opx34] opx47 = true := by kernel_rfl
theorem opb48 : factB [opx34] opx48 = true := by kernel_rfl
end
end Go.Ev
end
