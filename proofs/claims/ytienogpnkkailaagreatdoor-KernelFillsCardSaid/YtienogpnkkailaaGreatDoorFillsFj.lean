import Derived.Test.YtienogpnkkailaaGreatDoorFillsDc
section
set_option autoImplicit false
set_option maxRecDepth 100000
namespace Go.Ev
open Go.Proofs
noncomputable section
theorem flb170 : factB [flx0, flx2, flx169, flx4, flx24] flx170 = true := by kernel_rfl
theorem flb172 : factB [] flx172 = true := by kernel_rfl
theorem flb174 : factB [] flx174 = true := by kernel_rfl
theorem flb175 : factB [flx0, flx2, flx174, flx4, flx24] flx175 = true := by kernel_rfl
theorem flb177 : factB [] flx177 = true := by kernel_rfl
theorem flb179 : factB [] flx179 = true := by kernel_rfl
theorem flb180 : factB [flx0, flx2, flx179, flx4, flx24] flx180 = true := by kernel_rfl
theorem flt0 : trueB (callM (memoOf [flx20, flx22, flx26, flx8, flx28, flx160, flx161]) 9 [.sym .u8 (.mk (.ofNat 0) [.mk (.ofNat 1) 0 (.ofNat 0) (.ofNat 255)])] emptyH) = true := by kernel_rfl
theorem flt1 : trueB (callM (memoOf [flx20, flx163, flx166, flx8, flx28, flx160, flx161]) 9 [.sym .u8 (.mk (.ofNat 0) [.mk (.ofNat 1) 0 (.ofNat 0) (.ofNat 255)])] emptyH) = true := by kernel_rfl
theorem flt2 : trueB (callM (memoOf [flx20, flx168, flx171, flx8, flx28, flx160, flx161]) 9 [.sym .u8 (.mk (.ofNat 0) [.mk (.ofNat 1) 0 (.ofNat 0) (.ofNat 255)])] emptyH) = true := by kernel_rfl
theorem flt3 : trueB (callM (memoOf [flx20, flx173, flx176, flx8, flx28, flx160, flx161]) 9 [.sym .u8 (.mk (.ofNat 0) [.mk (.ofNat 1) 0 (.ofNat 0) (.ofNat 255)])] emptyH) = true := by kernel_rfl
theorem flt4 : trueB (callM (memoOf [flx20, flx178, flx181, flx8, flx28, flx160, flx161]) 9 [.sym .u8 (.mk (.ofNat 0) [.mk (.ofNat 1) 0 (.ofNat 0) (.ofNat 255)])] emptyH) = true := by kernel_rfl
end
end Go.Ev
end
