import Derived.Test.YtienogpnkkailaaGreatDoorFillsDc
section
set_option autoImplicit false
set_option maxRecDepth 100000
namespace Go.Ev
open Go.Proofs
noncomputable section
theorem flb95 : factB [flx27] flx95 = true := by kernel_rfl
theorem flb96 : factB [flx27] flx96 = true := by kernel_rfl
theorem flb97 : factB [flx27] flx97 = true := by kernel_rfl
theorem flb98 : factB [flx27] flx98 = true := by kernel_rfl
theorem flb99 : factB [flx27] flx99 = true := by kernel_rfl
theorem flb100 : factB [flx27] flx100 = true := by kernel_rfl
theorem flb101 : factB [flx27] flx101 = true := by kernel_rfl
theorem flb102 : factB [flx27] flx102 = true := by kernel_rfl
theorem flb103 : factB [flx27] flx103 = true := by kernel_rfl
theorem flb104 : factB [flx27] flx104 = true := by kernel_rfl
theorem flb105 : factB [flx27] flx105 = true := by kernel_rfl
theorem flb106 : factB [flx27] flx106 = true := by kernel_rfl
theorem flb107 : factB [flx27] flx107 = true := by kernel_rfl
theorem flb108 : factB [flx27] flx108 = true := by kernel_rfl
theorem flb109 : factB [flx27] flx109 = true := by kernel_rfl
theorem flb110 : factB [flx27] flx110 = true := by kernel_rfl
theorem flb111 : factB [flx27] flx111 = true := by kernel_rfl
theorem flb112 : factB [flx27] flx112 = true := by kernel_rfl
theorem flb113 : factB [flx27] flx113 = true := by kernel_rfl
theorem flb114 : factB [flx27] flx114 = true := by kernel_rfl
end
end Go.Ev
end
