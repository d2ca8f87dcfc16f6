import Derived.Test.YtienogpnkkailaaGreatDoorOpensFa
import Derived.Test.YtienogpnkkailaaGreatDoorOpensFb
import Derived.Test.YtienogpnkkailaaGreatDoorOpensFc
import Derived.Test.YtienogpnkkailaaGreatDoorOpensFd
import Derived.Test.YtienogpnkkailaaGreatDoorOpensFe
section
set_option autoImplicit false
set_option maxRecDepth 100000
namespace Go.Ev
open Go.Proofs
noncomputable section
theorem opok0 : FactOk opx0 := fact_ok fnil opb0
theorem opok1 : FactOk opx1 := fact_ok fnil opb1
theorem opok2 : FactOk opx2 := fact_ok fnil opb2
theorem opok3 : FactOk opx3 := fact_ok fnil opb3
theorem opok4 : FactOk opx4 := fact_ok fnil opb4
theorem opok5 : FactOk opx5 := fact_ok fnil opb5
theorem opok6 : FactOk opx6 := fact_ok fnil opb6
theorem opok7 : FactOk opx7 := fact_ok (fcons opok0 (fcons opok1 (fcons opok2 (fcons opok3 (fcons opok4 (fcons opok5 (fcons opok6 fnil))))))) opb7
theorem opok8 : FactOk opx8 := fact_ok fnil opb8
theorem opok9 : FactOk opx9 := fact_ok fnil opb9
theorem opok10 : FactOk opx10 := fact_ok (fcons opok9 fnil) opb10
theorem opok11 : FactOk opx11 := fact_ok (fcons opok9 fnil) opb11
theorem opok12 : FactOk opx12 := fact_ok (fcons opok9 fnil) opb12
theorem opok13 : FactOk opx13 := fact_ok (fcons opok9 fnil) opb13
theorem opok14 : FactOk opx14 := fact_ok (fcons opok9 fnil) opb14
theorem opok15 : FactOk opx15 := fact_ok (fcons opok9 fnil) opb15
theorem opok16 : FactOk opx16 := fact_ok (fcons opok9 fnil) opb16
theorem opok17 : FactOk opx17 := fact_ok (fcons opok9 fnil) opb17
theorem opok18 : FactOk opx18 := fact_ok (fcons opok9 fnil) opb18
theorem opok19 : FactOk opx19 := fact_ok (fcons opok7 (fcons opok8 (fcons opok10 (fcons opok11 (fcons opok12 (fcons opok13 (fcons opok14 (fcons opok15 (fcons opok16 (fcons opok17 (fcons opok18 fnil))))))))))) opb19
theorem opok20 : FactOk opx20 := fact_ok fnil opb20
theorem opok21 : FactAt opq0 opx21 := FactAt.args (opok20.at _) (by kernel_rfl) (by kernel_rfl)
theorem opok22 : FactOk opx22 := fact_ok fnil opb22
theorem opok23 : FactOk opx23 := fact_ok fnil opb23
theorem opok24 : FactOk opx24 := fact_ok fnil opb24
theorem opok25 : FactOk opx25 := fact_ok fnil opb25
theorem opok26 : FactOk opx26 := fact_ok fnil opb26
theorem opok27 : FactOk opx27 := fact_ok fnil opb27
theorem opok28 : FactOk opx28 := fact_ok fnil opb28
theorem opok29 : FactOk opx29 := fact_ok fnil opb29
theorem opok30 : FactOk opx30 := fact_ok fnil opb30
theorem opok31 : FactOk opx31 := fact_ok (fcons opok5 (fcons opok22 (fcons opok23 (fcons opok24 (fcons opok4 (fcons opok25 (fcons opok2 (fcons opok26 (fcons opok6 (fcons opok27 (fcons opok28 (fcons opok29 (fcons opok30 fnil))))))))))))) opb31
theorem opok32 : FactAt opq0 opx32 := FactAt.res (opok31.at _) (by kernel_rfl) (by kernel_rfl)
theorem opok33 : FactOk opx33 := fact_ok fnil opb33
theorem opok34 : FactOk opx34 := fact_ok fnil opb34
theorem opok35 : FactOk opx35 := fact_ok (fcons opok34 fnil) opb35
theorem opok36 : FactOk opx36 := fact_ok (fcons opok34 fnil) opb36
theorem opok37 : FactOk opx37 := fact_ok (fcons opok34 fnil) opb37
theorem opok38 : FactOk opx38 := fact_ok (fcons opok34 fnil) opb38
theorem opok39 : FactOk opx39 := fact_ok (fcons opok34 fnil) opb39
theorem opok40 : FactOk opx40 := fact_ok (fcons opok34 fnil) opb40
theorem opok41 : FactOk opx41 := fact_ok (fcons opok34 fnil) opb41
theorem opok42 : FactOk opx42 := fact_ok (fcons opok34 fnil) opb42
theorem opok43 : FactOk opx43 := fact_ok (fcons opok34 fnil) opb43
theorem opok44 : FactOk opx44 := fact_ok (fcons opok34 fnil) opb44
theorem opok45 : FactOk opx45 := fact_ok (fcons opok34 fnil) opb45
theorem opok46 : FactOk opx46 := fact_ok (fcons opok34 fnil) opb46
theorem opok47 : FactOk opx47 := fact_ok (fcons opok34 fnil) opb47
theorem opok48 : FactOk opx48 := fact_ok (fcons opok34 fnil) opb48
theorem opok49 : FactOk opx49 := fact_ok (fcons opok34 fnil) opb49
theorem opok50 : FactOk opx50 := fact_ok (fcons opok34 fnil) opb50
theorem opok51 : FactOk opx51 := fact_ok (fcons opok34 fnil) opb51
theorem opok52 : FactOk opx52 := fact_ok (fcons opok34 fnil) opb52
theorem opok53 : FactOk opx53 := fact_ok (fcons opok34 fnil) opb53
theorem opok54 : FactOk opx54 := fact_ok (fcons opok34 fnil) opb54
theorem opok55 : FactOk opx55 := fact_ok (fcons opok34 fnil) opb55
theorem opok56 : FactOk opx56 := fact_ok (fcons opok34 fnil) opb56
theorem opok57 : FactOk opx57 := fact_ok (fcons opok34 fnil) opb57
theorem opok58 : FactOk opx58 := fact_ok (fcons opok34 fnil) opb58
theorem opok59 : FactOk opx59 := fact_ok (fcons opok34 fnil) opb59
theorem opok60 : FactOk opx60 := fact_ok fnil opb60
theorem opok61 : FactAt opq1 opx61 := FactAt.args (opok60.at _) (by kernel_rfl) (by kernel_rfl)
theorem opok62 : FactOk opx62 := fact_ok fnil opb62
theorem opok63 : FactOk opx63 := fact_ok (fcons opok5 (fcons opok22 (fcons opok23 (fcons opok62 (fcons opok4 (fcons opok25 (fcons opok2 (fcons opok26 (fcons opok6 (fcons opok27 (fcons opok28 (fcons opok29 (fcons opok30 fnil))))))))))))) opb63
theorem opok64 : FactAt opq1 opx64 := FactAt.res (opok63.at _) (by kernel_rfl) (by kernel_rfl)
theorem opok65 : FactOk opx65 := fact_ok fnil opb65
theorem opok66 : FactAt opq2 opx66 := FactAt.args (opok65.at _) (by kernel_rfl) (by kernel_rfl)
theorem opok67 : FactOk opx67 := fact_ok fnil opb67
theorem opok68 : FactOk opx68 := fact_ok (fcons opok5 (fcons opok22 (fcons opok23 (fcons opok67 (fcons opok4 (fcons opok25 (fcons opok2 (fcons opok26 (fcons opok6 (fcons opok27 (fcons opok28 (fcons opok29 (fcons opok30 fnil))))))))))))) opb68
theorem opok69 : FactAt opq2 opx69 := FactAt.res (opok68.at _) (by kernel_rfl) (by kernel_rfl)
theorem opok70 : FactOk opx70 := fact_ok fnil opb70
theorem opok71 : FactAt opq3 opx71 := FactAt.args (opok70.at _) (by kernel_rfl) (by kernel_rfl)
theorem opok72 : FactOk opx72 := fact_ok fnil opb72
theorem opok73 : FactOk opx73 := fact_ok (fcons opok5 (fcons opok22 (fcons opok23 (fcons opok72 (fcons opok4 (fcons opok25 (fcons opok2 (fcons opok26 (fcons opok6 (fcons opok27 (fcons opok28 (fcons opok29 (fcons opok30 fnil))))))))))))) opb73
theorem opok74 : FactAt opq3 opx74 := FactAt.res (opok73.at _) (by kernel_rfl) (by kernel_rfl)
theorem opok75 : FactOk opx75 := fact_ok fnil opb75
theorem opok76 : FactAt opq4 opx76 := FactAt.args (opok75.at _) (by kernel_rfl) (by kernel_rfl)
theorem opok77 : FactOk opx77 := fact_ok fnil opb77
theorem opok78 : FactOk opx78 := fact_ok (fcons opok5 (fcons opok22 (fcons opok23 (fcons opok77 (fcons opok4 (fcons opok25 (fcons opok2 (fcons opok26 (fcons opok6 (fcons opok27 (fcons opok28 (fcons opok29 (fcons opok30 fnil))))))))))))) opb78
theorem opok79 : FactAt opq4 opx79 := FactAt.res (opok78.at _) (by kernel_rfl) (by kernel_rfl)
theorem optop0 {θ : Nat → Int} (hq : EqsOk θ opq0) : MemoOk θ Tryz.prog gl (memoOf [opx19, opx21, opx32, opx33, opx35, opx36, opx37, opx38, opx39, opx40, opx41, opx42, opx43, opx44, opx45, opx46, opx47, opx48, opx49, opx50, opx51, opx52, opx53, opx54, opx55, opx56, opx57, opx58, opx59]) ∧ trueB (callM (memoOf [opx19, opx21, opx32, opx33, opx35, opx36, opx37, opx38, opx39, opx40, opx41, opx42, opx43, opx44, opx45, opx46, opx47, opx48, opx49, opx50, opx51, opx52, opx53, opx54, opx55, opx56, opx57, opx58, opx59]) 3 [.sym .u8 (.mk (.ofNat 0) [.mk (.ofNat 1) 0 (.ofNat 0) (.ofNat 255)])] emptyH) = true := ⟨memo_at hq (acons (opok19.at _) (acons opok21 (acons opok32 (acons (opok33.at _) (acons (opok35.at _) (acons (opok36.at _) (acons (opok37.at _) (acons (opok38.at _) (acons (opok39.at _) (acons (opok40.at _) (acons (opok41.at _) (acons (opok42.at _) (acons (opok43.at _) (acons (opok44.at _) (acons (opok45.at _) (acons (opok46.at _) (acons (opok47.at _) (acons (opok48.at _) (acons (opok49.at _) (acons (opok50.at _) (acons (opok51.at _) (acons (opok52.at _) (acons (opok53.at _) (acons (opok54.at _) (acons (opok55.at _) (acons (opok56.at _) (acons (opok57.at _) (acons (opok58.at _) (acons (opok59.at _) anil))))))))))))))))))))))))))))), opt0⟩
theorem optop1 {θ : Nat → Int} (hq : EqsOk θ opq1) : MemoOk θ Tryz.prog gl (memoOf [opx19, opx61, opx64, opx33, opx35, opx36, opx37, opx38, opx39, opx40, opx41, opx42, opx43, opx44, opx45, opx46, opx47, opx48, opx49, opx50, opx51, opx52, opx53, opx54, opx55, opx56, opx57, opx58, opx59]) ∧ trueB (callM (memoOf [opx19, opx61, opx64, opx33, opx35, opx36, opx37, opx38, opx39, opx40, opx41, opx42, opx43, opx44, opx45, opx46, opx47, opx48, opx49, opx50, opx51, opx52, opx53, opx54, opx55, opx56, opx57, opx58, opx59]) 3 [.sym .u8 (.mk (.ofNat 0) [.mk (.ofNat 1) 0 (.ofNat 0) (.ofNat 255)])] emptyH) = true := ⟨memo_at hq (acons (opok19.at _) (acons opok61 (acons opok64 (acons (opok33.at _) (acons (opok35.at _) (acons (opok36.at _) (acons (opok37.at _) (acons (opok38.at _) (acons (opok39.at _) (acons (opok40.at _) (acons (opok41.at _) (acons (opok42.at _) (acons (opok43.at _) (acons (opok44.at _) (acons (opok45.at _) (acons (opok46.at _) (acons (opok47.at _) (acons (opok48.at _) (acons (opok49.at _) (acons (opok50.at _) (acons (opok51.at _) (acons (opok52.at _) (acons (opok53.at _) (acons (opok54.at _) (acons (opok55.at _) (acons (opok56.at _) (acons (opok57.at _) (acons (opok58.at _) (acons (opok59.at _) anil))))))))))))))))))))))))))))), opt1⟩
theorem optop2 {θ : Nat → Int} (hq : EqsOk θ opq2) : MemoOk θ Tryz.prog gl (memoOf [opx19, opx66, opx69, opx33, opx35, opx36, opx37, opx38, opx39, opx40, opx41, opx42, opx43, opx44, opx45, opx46, opx47, opx48, opx49, opx50, opx51, opx52, opx53, opx54, opx55, opx56, opx57, opx58, opx59]) ∧ trueB (callM (memoOf [opx19, opx66, opx69, opx33, opx35, opx36, opx37, opx38, opx39, opx40, opx41, opx42, opx43, opx44, opx45, opx46, opx47, opx48, opx49, opx50, opx51, opx52, opx53, opx54, opx55, opx56, opx57, opx58, opx59]) 3 [.sym .u8 (.mk (.ofNat 0) [.mk (.ofNat 1) 0 (.ofNat 0) (.ofNat 255)])] emptyH) = true := ⟨memo_at hq (acons (opok19.at _) (acons opok66 (acons opok69 (acons (opok33.at _) (acons (opok35.at _) (acons (opok36.at _) (acons (opok37.at _) (acons (opok38.at _) (acons (opok39.at _) (acons (opok40.at _) (acons (opok41.at _) (acons (opok42.at _) (acons (opok43.at _) (acons (opok44.at _) (acons (opok45.at _) (acons (opok46.at _) (acons (opok47.at _) (acons (opok48.at _) (acons (opok49.at _) (acons (opok50.at _) (acons (opok51.at _) (acons (opok52.at _) (acons (opok53.at _) (acons (opok54.at _) (acons (opok55.at _) (acons (opok56.at _) (acons (opok57.at _) (acons (opok58.at _) (acons (opok59.at _) anil))))))))))))))))))))))))))))), opt2⟩
theorem optop3 {θ : Nat → Int} (hq : EqsOk θ opq3) : MemoOk θ Tryz.prog gl (memoOf [opx19, opx71, opx74, opx33, opx35, opx36, opx37, opx38, opx39, opx40, opx41, opx42, opx43, opx44, opx45, opx46, opx47, opx48, opx49, opx50, opx51, opx52, opx53, opx54, opx55, opx56, opx57, opx58, opx59]) ∧ trueB (callM (memoOf [opx19, opx71, opx74, opx33, opx35, opx36, opx37, opx38, opx39, opx40, opx41, opx42, opx43, opx44, opx45, opx46, opx47, opx48, opx49, opx50, opx51, opx52, opx53, opx54, opx55, opx56, opx57, opx58, opx59]) 3 [.sym .u8 (.mk (.ofNat 0) [.mk (.ofNat 1) 0 (.ofNat 0) (.ofNat 255)])] emptyH) = true := ⟨memo_at hq (acons (opok19.at _) (acons opok71 (acons opok74 (acons (opok33.at _) (acons (opok35.at _) (acons (opok36.at _) (acons (opok37.at _) (acons (opok38.at _) (acons (opok39.at _) (acons (opok40.at _) (acons (opok41.at _) (acons (opok42.at _) (acons (opok43.at _) (acons (opok44.at _) (acons (opok45.at _) (acons (opok46.at _) (acons (opok47.at _) (acons (opok48.at _) (acons (opok49.at _) (acons (opok50.at _) (acons (opok51.at _) (acons (opok52.at _) (acons (opok53.at _) (acons (opok54.at _) (acons (opok55.at _) (acons (opok56.at _) (acons (opok57.at _) (acons (opok58.at _) (acons (opok59.at _) anil))))))))))))))))))))))))))))), opt3⟩
theorem optop4 {θ : Nat → Int} (hq : EqsOk θ opq4) : MemoOk θ Tryz.prog gl (memoOf [opx19, opx76, opx79, opx33, opx35, opx36, opx37, opx38, opx39, opx40, opx41, opx42, opx43, opx44, opx45, opx46, opx47, opx48, opx49, opx50, opx51, opx52, opx53, opx54, opx55, opx56, opx57, opx58, opx59]) ∧ trueB (callM (memoOf [opx19, opx76, opx79, opx33, opx35, opx36, opx37, opx38, opx39, opx40, opx41, opx42, opx43, opx44, opx45, opx46, opx47, opx48, opx49, opx50, opx51, opx52, opx53, opx54, opx55, opx56, opx57, opx58, opx59]) 3 [.sym .u8 (.mk (.ofNat 0) [.mk (.ofNat 1) 0 (.ofNat 0) (.ofNat 255)])] emptyH) = true := ⟨memo_at hq (acons (opok19.at _) (acons opok76 (acons opok79 (acons (opok33.at _) (acons (opok35.at _) (acons (opok36.at _) (acons (opok37.at _) (acons (opok38.at _) (acons (opok39.at _) (acons (opok40.at _) (acons (opok41.at _) (acons (opok42.at _) (acons (opok43.at _) (acons (opok44.at _) (acons (opok45.at _) (acons (opok46.at _) (acons (opok47.at _) (acons (opok48.at _) (acons (opok49.at _) (acons (opok50.at _) (acons (opok51.at _) (acons (opok52.at _) (acons (opok53.at _) (acons (opok54.at _) (acons (opok55.at _) (acons (opok56.at _) (acons (opok57.at _) (acons (opok58.at _) (acons (opok59.at _) anil))))))))))))))))))))))))))))), opt4⟩
end
end Go.Ev
end
