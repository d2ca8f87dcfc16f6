import Derived.Test.YtienogpnkkailaaGreatDoorAlarmsFa
import Derived.Test.YtienogpnkkailaaGreatDoorAlarmsFb
section
set_option autoImplicit false
set_option maxRecDepth 100000
namespace Go.Ev
open Go.Proofs
noncomputable section
theorem alok0 : FactOk alx0 := fact_ok fnil alb0
theorem alok1 : FactOk alx1 := fact_ok fnil alb1
theorem alok2 : FactOk alx2 := fact_ok fnil alb2
theorem alok3 : FactOk alx3 := fact_ok fnil alb3
theorem alok4 : FactOk alx4 := fact_ok fnil alb4
theorem alok5 : FactOk alx5 := fact_ok fnil alb5
theorem alok6 : FactOk alx6 := fact_ok fnil alb6
theorem alok7 : FactOk alx7 := fact_ok (fcons alok0 (fcons alok1 (fcons alok2 (fcons alok3 (fcons alok4 (fcons alok5 (fcons alok6 fnil))))))) alb7
theorem alok8 : FactOk alx8 := fact_ok fnil alb8
theorem alok9 : FactOk alx9 := fact_ok fnil alb9
theorem alok10 : FactOk alx10 := fact_ok (fcons alok9 fnil) alb10
theorem alok11 : FactOk alx11 := fact_ok (fcons alok9 fnil) alb11
theorem alok12 : FactOk alx12 := fact_ok (fcons alok9 fnil) alb12
theorem alok13 : FactOk alx13 := fact_ok (fcons alok9 fnil) alb13
theorem alok14 : FactOk alx14 := fact_ok (fcons alok9 fnil) alb14
theorem alok15 : FactOk alx15 := fact_ok (fcons alok9 fnil) alb15
theorem alok16 : FactOk alx16 := fact_ok (fcons alok9 fnil) alb16
theorem alok17 : FactOk alx17 := fact_ok (fcons alok9 fnil) alb17
theorem alok18 : FactOk alx18 := fact_ok (fcons alok11 (fcons alok12 (fcons alok13 (fcons alok14 (fcons alok15 (fcons alok16 (fcons alok17 fnil))))))) alb18
theorem alok19 : FactOk alx19 := fact_ok (fcons alok9 fnil) alb19
theorem alok20 : FactOk alx20 := fact_ok (fcons alok7 (fcons alok8 (fcons alok10 (fcons alok18 (fcons alok19 fnil))))) alb20
theorem alok21 : FactOk alx21 := fact_ok fnil alb21
theorem alok22 : FactAt alq0 alx22 := FactAt.args (alok21.at _) (by kernel_rfl) (by kernel_rfl)
theorem alok23 : FactOk alx23 := fact_ok fnil alb23
theorem alok24 : FactOk alx24 := fact_ok fnil alb24
theorem alok25 : FactOk alx25 := fact_ok fnil alb25
theorem alok26 : FactOk alx26 := fact_ok fnil alb26
theorem alok27 : FactOk alx27 := fact_ok fnil alb27
theorem alok28 : FactOk alx28 := fact_ok fnil alb28
theorem alok29 : FactOk alx29 := fact_ok fnil alb29
theorem alok30 : FactOk alx30 := fact_ok (fcons alok23 (fcons alok24 (fcons alok25 (fcons alok26 (fcons alok27 (fcons alok28 (fcons alok29 fnil))))))) alb30
theorem alok31 : FactAt alq0 alx31 := FactAt.res (alok30.at _) (by kernel_rfl) (by kernel_rfl)
theorem alok32 : FactOk alx32 := fact_ok fnil alb32
theorem alok33 : FactOk alx33 := fact_ok fnil alb33
theorem alok34 : FactOk alx34 := fact_ok (fcons alok33 fnil) alb34
theorem alok35 : FactOk alx35 := fact_ok (fcons alok33 fnil) alb35
theorem alok36 : FactOk alx36 := fact_ok (fcons alok33 fnil) alb36
theorem alok37 : FactOk alx37 := fact_ok (fcons alok33 fnil) alb37
theorem alok38 : FactOk alx38 := fact_ok (fcons alok33 fnil) alb38
theorem alok39 : FactOk alx39 := fact_ok (fcons alok33 fnil) alb39
theorem alok40 : FactOk alx40 := fact_ok (fcons alok33 fnil) alb40
theorem alok41 : FactOk alx41 := fact_ok fnil alb41
theorem alok42 : FactOk alx42 := fact_ok (fcons alok33 fnil) alb42
theorem alok43 : FactOk alx43 := fact_ok (fcons alok33 fnil) alb43
theorem alok44 : FactOk alx44 := fact_ok (fcons alok33 fnil) alb44
theorem alok45 : FactOk alx45 := fact_ok (fcons alok42 (fcons alok43 (fcons alok44 fnil))) alb45
theorem alok46 : FactOk alx46 := fact_ok fnil alb46
theorem alok47 : FactOk alx47 := fact_ok (fcons alok33 fnil) alb47
theorem alok48 : FactOk alx48 := fact_ok (fcons alok33 fnil) alb48
theorem alok49 : FactOk alx49 := fact_ok (fcons alok33 fnil) alb49
theorem alok50 : FactOk alx50 := fact_ok (fcons alok33 fnil) alb50
theorem alok51 : FactOk alx51 := fact_ok (fcons alok33 fnil) alb51
theorem alok52 : FactOk alx52 := fact_ok (fcons alok33 fnil) alb52
theorem alok53 : FactOk alx53 := fact_ok (fcons alok47 (fcons alok48 (fcons alok49 (fcons alok50 (fcons alok51 (fcons alok52 fnil)))))) alb53
theorem alok54 : FactOk alx54 := fact_ok fnil alb54
theorem alok55 : FactAt alq1 alx55 := FactAt.args (alok54.at _) (by kernel_rfl) (by kernel_rfl)
theorem alok56 : FactOk alx56 := fact_ok fnil alb56
theorem alok57 : FactOk alx57 := fact_ok (fcons alok56 (fcons alok24 (fcons alok25 (fcons alok26 (fcons alok27 (fcons alok28 (fcons alok29 fnil))))))) alb57
theorem alok58 : FactAt alq1 alx58 := FactAt.res (alok57.at _) (by kernel_rfl) (by kernel_rfl)
theorem alok59 : FactOk alx59 := fact_ok fnil alb59
theorem alok60 : FactAt alq2 alx60 := FactAt.args (alok59.at _) (by kernel_rfl) (by kernel_rfl)
theorem alok61 : FactOk alx61 := fact_ok fnil alb61
theorem alok62 : FactOk alx62 := fact_ok (fcons alok61 (fcons alok24 (fcons alok25 (fcons alok26 (fcons alok27 (fcons alok28 (fcons alok29 fnil))))))) alb62
theorem alok63 : FactAt alq2 alx63 := FactAt.res (alok62.at _) (by kernel_rfl) (by kernel_rfl)
theorem alok64 : FactOk alx64 := fact_ok fnil alb64
theorem alok65 : FactAt alq3 alx65 := FactAt.args (alok64.at _) (by kernel_rfl) (by kernel_rfl)
theorem alok66 : FactOk alx66 := fact_ok fnil alb66
theorem alok67 : FactOk alx67 := fact_ok (fcons alok66 (fcons alok24 (fcons alok25 (fcons alok26 (fcons alok27 (fcons alok28 (fcons alok29 fnil))))))) alb67
theorem alok68 : FactAt alq3 alx68 := FactAt.res (alok67.at _) (by kernel_rfl) (by kernel_rfl)
theorem alok69 : FactOk alx69 := fact_ok fnil alb69
theorem alok70 : FactAt alq4 alx70 := FactAt.args (alok69.at _) (by kernel_rfl) (by kernel_rfl)
theorem alok71 : FactOk alx71 := fact_ok fnil alb71
theorem alok72 : FactOk alx72 := fact_ok (fcons alok71 (fcons alok24 (fcons alok25 (fcons alok26 (fcons alok27 (fcons alok28 (fcons alok29 fnil))))))) alb72
theorem alok73 : FactAt alq4 alx73 := FactAt.res (alok72.at _) (by kernel_rfl) (by kernel_rfl)
theorem altop0 {θ : Nat → Int} (hq : EqsOk θ alq0) : MemoOk θ Tryz.prog gl (memoOf [alx20, alx22, alx31, alx32, alx34, alx35, alx36, alx37, alx38, alx39, alx40, alx41, alx45, alx46, alx53]) ∧ trueB (callM (memoOf [alx20, alx22, alx31, alx32, alx34, alx35, alx36, alx37, alx38, alx39, alx40, alx41, alx45, alx46, alx53]) 16 [.sym .u8 (.mk (.ofNat 0) [.mk (.ofNat 1) 0 (.ofNat 0) (.ofNat 255)])] emptyH) = true := ⟨memo_at hq (acons (alok20.at _) (acons alok22 (acons alok31 (acons (alok32.at _) (acons (alok34.at _) (acons (alok35.at _) (acons (alok36.at _) (acons (alok37.at _) (acons (alok38.at _) (acons (alok39.at _) (acons (alok40.at _) (acons (alok41.at _) (acons (alok45.at _) (acons (alok46.at _) (acons (alok53.at _) anil))))))))))))))), alt0⟩
theorem altop1 {θ : Nat → Int} (hq : EqsOk θ alq1) : MemoOk θ Tryz.prog gl (memoOf [alx20, alx55, alx58, alx32, alx34, alx35, alx36, alx37, alx38, alx39, alx40, alx41, alx45, alx46, alx53]) ∧ trueB (callM (memoOf [alx20, alx55, alx58, alx32, alx34, alx35, alx36, alx37, alx38, alx39, alx40, alx41, alx45, alx46, alx53]) 16 [.sym .u8 (.mk (.ofNat 0) [.mk (.ofNat 1) 0 (.ofNat 0) (.ofNat 255)])] emptyH) = true := ⟨memo_at hq (acons (alok20.at _) (acons alok55 (acons alok58 (acons (alok32.at _) (acons (alok34.at _) (acons (alok35.at _) (acons (alok36.at _) (acons (alok37.at _) (acons (alok38.at _) (acons (alok39.at _) (acons (alok40.at _) (acons (alok41.at _) (acons (alok45.at _) (acons (alok46.at _) (acons (alok53.at _) anil))))))))))))))), alt1⟩
theorem altop2 {θ : Nat → Int} (hq : EqsOk θ alq2) : MemoOk θ Tryz.prog gl (memoOf [alx20, alx60, alx63, alx32, alx34, alx35, alx36, alx37, alx38, alx39, alx40, alx41, alx45, alx46, alx53]) ∧ trueB (callM (memoOf [alx20, alx60, alx63, alx32, alx34, alx35, alx36, alx37, alx38, alx39, alx40, alx41, alx45, alx46, alx53]) 16 [.sym .u8 (.mk (.ofNat 0) [.mk (.ofNat 1) 0 (.ofNat 0) (.ofNat 255)])] emptyH) = true := ⟨memo_at hq (acons (alok20.at _) (acons alok60 (acons alok63 (acons (alok32.at _) (acons (alok34.at _) (acons (alok35.at _) (acons (alok36.at _) (acons (alok37.at _) (acons (alok38.at _) (acons (alok39.at _) (acons (alok40.at _) (acons (alok41.at _) (acons (alok45.at _) (acons (alok46.at _) (acons (alok53.at _) anil))))))))))))))), alt2⟩
theorem altop3 {θ : Nat → Int} (hq : EqsOk θ alq3) : MemoOk θ Tryz.prog gl (memoOf [alx20, alx65, alx68, alx32, alx34, alx35, alx36, alx37, alx38, alx39, alx40, alx41, alx45, alx46, alx53]) ∧ trueB (callM (memoOf [alx20, alx65, alx68, alx32, alx34, alx35, alx36, alx37, alx38, alx39, alx40, alx41, alx45, alx46, alx53]) 16 [.sym .u8 (.mk (.ofNat 0) [.mk (.ofNat 1) 0 (.ofNat 0) (.ofNat 255)])] emptyH) = true := ⟨memo_at hq (acons (alok20.at _) (acons alok65 (acons alok68 (acons (alok32.at _) (acons (alok34.at _) (acons (alok35.at _) (acons (alok36.at _) (acons (alok37.at _) (acons (alok38.at _) (acons (alok39.at _) (acons (alok40.at _) (acons (alok41.at _) (acons (alok45.at _) (acons (alok46.at _) (acons (alok53.at _) anil))))))))))))))), alt3⟩
theorem altop4 {θ : Nat → Int} (hq : EqsOk θ alq4) : MemoOk θ Tryz.prog gl (memoOf [alx20, alx70, alx73, alx32, alx34, alx35, alx36, alx37, alx38, alx39, alx40, alx41, alx45, alx46, alx53]) ∧ trueB (callM (memoOf [alx20, alx70, alx73, alx32, alx34, alx35, alx36, alx37, alx38, alx39, alx40, alx41, alx45, alx46, alx53]) 16 [.sym .u8 (.mk (.ofNat 0) [.mk (.ofNat 1) 0 (.ofNat 0) (.ofNat 255)])] emptyH) = true := ⟨memo_at hq (acons (alok20.at _) (acons alok70 (acons alok73 (acons (alok32.at _) (acons (alok34.at _) (acons (alok35.at _) (acons (alok36.at _) (acons (alok37.at _) (acons (alok38.at _) (acons (alok39.at _) (acons (alok40.at _) (acons (alok41.at _) (acons (alok45.at _) (acons (alok46.at _) (acons (alok53.at _) anil))))))))))))))), alt4⟩
end
end Go.Ev
end
