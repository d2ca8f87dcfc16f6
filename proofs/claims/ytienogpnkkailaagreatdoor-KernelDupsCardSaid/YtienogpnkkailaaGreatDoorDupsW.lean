import Derived.Test.YtienogpnkkailaaGreatDoorDupsE
section
set_option autoImplicit false
set_option maxRecDepth 100000
namespace Go.Ev
open Go.Proofs
theorem walk1 {f : FuncId} {k : IntKind} {c : Int} {ts : List ST} {a : Int} (θ : Nat → Int) (e : (SE.mk c ts).eval θ = a) (hok : (SE.mk c ts).Ok θ) {l : List Fact1} (ht : MemoOk θ Tryz.prog gl (memoOf l) ∧ trueB (callM (memoOf l) f [.sym k (.mk c ts)] emptyH) = true) {W : World}
    (hT : Lib.VarReads Tryz.prog W "clusterkernel/code.forms" YtienogpnkkailaaGreatDoor.Rows.laid_clusterkernel_code_forms) : Calls Tryz.prog f #[.int k a] W fun e W' => e = .returned (.bool true) ∧ W.keptBut W' (fun _ => False) := by
  obtain ⟨cs, ty, fr, hc, hz⟩ := forms_cells hT
  obtain ⟨hr, hg⟩ := start_ok (θ := θ) hc hz (q := 0) (c := #[]) (fun h => absurd rfl h)
  exact law_ok ht.1 (trueB_ok ht.2) hr hg (xs := [.int k a]) (.cons (show VRel θ _ _ _ from ⟨hok, by rw [e]⟩) .nil)
theorem dupsWalk (a : Int) (h0 : 0 ≤ a) (h1 : a ≤ 255) (W : World) (hT : Lib.VarReads Tryz.prog W "clusterkernel/code.forms" YtienogpnkkailaaGreatDoor.Rows.laid_clusterkernel_code_forms) :
    Calls Tryz.prog 12 #[.int .u8 a] W fun e W' => e = .returned (.bool true) ∧ W.keptBut W' (fun _ => False) := by
  let θ : Nat → Int := fun v => if v = 1 then a % 10 else (a / 10) % 10
  have e1 : θ 1 = a % 10 := rfl
  have e2 : θ 2 = (a / 10) % 10 := rfl
  have hok : ∀ {c : Int} {l : List ST}, (∀ t ∈ l, t.Ok θ) → (SE.mk c l).Ok θ := fun h => h
  by_cases c1 : a ≤ 9
  · exact walk1 θ (by simp [SE.eval, evT, ST.eval, e1]; omega) (by simp [SE.Ok, OkT, ST.Ok, e1]; omega) dptop0 hT
  · by_cases c2 : a ≤ 99
    · exact walk1 θ (by simp [SE.eval, evT, ST.eval, e1, e2]; omega) (by simp [SE.Ok, OkT, ST.Ok, e1, e2]; omega) dptop1 hT
    · by_cases c3 : a ≤ 199
      · exact walk1 θ (by simp [SE.eval, evT, ST.eval, e1, e2]; omega) (by simp [SE.Ok, OkT, ST.Ok, e1, e2]; omega) dptop2 hT
      · by_cases c4 : a ≤ 249
        · exact walk1 θ (by simp [SE.eval, evT, ST.eval, e1, e2]; omega) (by simp [SE.Ok, OkT, ST.Ok, e1, e2]; omega) dptop3 hT
        · exact walk1 θ (by simp [SE.eval, evT, ST.eval, e1]; omega) (by simp [SE.Ok, OkT, ST.Ok, e1]; omega) dptop4 hT
end Go.Ev
end
