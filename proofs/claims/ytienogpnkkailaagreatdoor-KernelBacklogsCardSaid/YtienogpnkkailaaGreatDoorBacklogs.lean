import Derived.Test.YtienogpnkkailaaGreatDoorBacklogsL
import Derived.Test.YtienogpnkkailaaGreatDoorBacklogsJ
section
set_option autoImplicit false
set_option maxRecDepth 100000
namespace Go.Proofs.YtienogpnkkailaaGreatDoor
open Go Go.Ev Go.ChangeShapes Go.WideShapes Go.ChangeAt Go.RowKit
set_option maxHeartbeats 0 in
theorem backlogsHolds : Rows.KernelBacklogsSaid :=
  OpenClaim.holds_of_wide 13 Tryz.f13 rfl rfl rfl rfl rfl rfl rfl ⟨rfl, rfl, rfl, rfl, rfl⟩ rfl rfl rfl rfl rfl backlogsName Tryz.func13 backlogsClosed backlogsInst backlogsWrap
    (fun os started H enc _ => backlogsLifted os started H enc)
set_option maxHeartbeats 0 in
theorem backlogs_card : Rows.KernelBacklogsCardSaid :=
  Claim7.holds_tied_plain_at .later [] [.data, .widerDeep, .pinned] true (true, "77d9c3df0ced6d5fda87a92ddba398b4105772a51bd536b68bc792f1b826deb3") false backlogsHolds (fun _ h => by cases h) (by as_aux_lemma => kernel_rfl) (fun _ h => by cases h) kernelBacklogs_row_tie rfl ⟨rfl, rfl⟩ (by as_aux_lemma => kernel_rfl) rfl
    (fun f fn hf hfn => by
      obtain rfl : f = 13 := Option.some.inj (backlogsName.symm.trans hf) |>.symm
      obtain rfl : fn = Tryz.f13 := (Option.some.inj (Tryz.func13.symm.trans hfn)).symm
      exact ⟨by as_aux_lemma => kernel_rfl, fun j t ht => by
        rw [Tryz.params13] at ht
        have hm : t ∈ [5] := by simpa using Array.mem_of_getElem? ht
        have hall : ([5].all fun u => !Tryz.prog.wantsStandIn u) = true := by as_aux_lemma => kernel_rfl
        exact (show Tryz.prog.wantsStandIn t = false by simpa using List.all_eq_true.1 hall t hm)⟩)
    (by as_aux_lemma => kernel_rfl)
end Go.Proofs.YtienogpnkkailaaGreatDoor
end
