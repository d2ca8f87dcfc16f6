import Derived.Test.YtienogpnkkailaaGreatDoorBacklogsE
section
set_option autoImplicit false
set_option maxRecDepth 100000
namespace Go.Ev
open Go.Proofs
theorem backlogsWalk (a : Int) (h0 : 0 ≤ a) (h1 : a ≤ 255) (W : World) (hT : Lib.VarReads Tryz.prog W "clusterkernel/code.forms" YtienogpnkkailaaGreatDoor.Rows.laid_clusterkernel_code_forms) :
    Calls Tryz.prog 13 #[.int .u8 a] W fun e W' => e = .returned (.bool true) ∧ W.keptBut W' (fun _ => False) := by
  let θ : Nat → Int := fun _ => a / 4
  have e0 : θ 0 = a / 4 := rfl
  have ev : ∀ (r : Nat) (ρ : Ro), a % 4 = r → All2 (VRel θ ρ) [.sym .u8 (.mk (.ofNat r) [.mk (.ofNat 4) 0 (.ofNat 0) (.ofNat 63)])] [.int .u8 a] := fun r ρ hr =>
    .cons (v_sym (by simp [SE.eval, evT, ST.eval, e0]; omega) (by simp [SE.Ok, OkT, ST.Ok, e0]; omega)) .nil
  by_cases c0 : a % 4 = 0
  · exact walk_at (bltop0 eqs_nil) hT (fun ρ => ev 0 ρ (by omega))
  · by_cases c1 : a % 4 = 1
    · exact walk_at (bltop1 eqs_nil) hT (fun ρ => ev 1 ρ (by omega))
    · by_cases c2 : a % 4 = 2
      · exact walk_at (bltop2 eqs_nil) hT (fun ρ => ev 2 ρ (by omega))
      · exact walk_at (bltop3 eqs_nil) hT (fun ρ => ev 3 ρ (by omega))
end Go.Ev
end
