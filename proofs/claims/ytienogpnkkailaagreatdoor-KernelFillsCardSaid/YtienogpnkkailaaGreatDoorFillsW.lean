import Derived.Test.YtienogpnkkailaaGreatDoorFillsE
section
set_option autoImplicit false
set_option maxRecDepth 100000
namespace Go.Ev
open Go.Proofs
theorem fillsWalk (a : Int) (h0 : 0 ≤ a) (h1 : a ≤ 255) (W : World) (hT : Lib.VarReads Tryz.prog W "clusterkernel/code.forms" YtienogpnkkailaaGreatDoor.Rows.laid_clusterkernel_code_forms) :
    Calls Tryz.prog 9 #[.int .u8 a] W fun e W' => e = .returned (.bool true) ∧ W.keptBut W' (fun _ => False) := by
  let θ : Nat → Int := fun v => if v = 0 then a else if v = 1 then a % 10 else (a / 10) % 10
  have e0 : θ 0 = a := rfl
  have e1 : θ 1 = a % 10 := rfl
  have e2 : θ 2 = (a / 10) % 10 := rfl
  have ev : ∀ ρ : Ro, All2 (VRel θ ρ) [.sym .u8 (.mk (.ofNat 0) [.mk (.ofNat 1) 0 (.ofNat 0) (.ofNat 255)])] [.int .u8 a] := fun ρ =>
    .cons (v_sym (by simp [SE.eval, evT, ST.eval, e0]) (by simp [SE.Ok, OkT, ST.Ok, e0]; omega)) .nil
  by_cases c0 : a ≤ 9
  · exact walk_at (fltop0 (eqs_cons (by simp [SbOk, SE.Ok, OkT, ST.Ok, SE.eval, evT, ST.eval, e0, e1]; omega) eqs_nil)) hT ev
  · by_cases c1 : a ≤ 99
    · exact walk_at (fltop1 (eqs_cons (by simp [SbOk, SE.Ok, OkT, ST.Ok, SE.eval, evT, ST.eval, e0, e1, e2]; omega) eqs_nil)) hT ev
    · by_cases c2 : a ≤ 199
      · exact walk_at (fltop2 (eqs_cons (by simp [SbOk, SE.Ok, OkT, ST.Ok, SE.eval, evT, ST.eval, e0, e1, e2]; omega) eqs_nil)) hT ev
      · by_cases c3 : a ≤ 249
        · exact walk_at (fltop3 (eqs_cons (by simp [SbOk, SE.Ok, OkT, ST.Ok, SE.eval, evT, ST.eval, e0, e1, e2]; omega) eqs_nil)) hT ev
        · exact walk_at (fltop4 (eqs_cons (by simp [SbOk, SE.Ok, OkT, ST.Ok, SE.eval, evT, ST.eval, e0, e1]; omega) eqs_nil)) hT ev
end Go.Ev
end
