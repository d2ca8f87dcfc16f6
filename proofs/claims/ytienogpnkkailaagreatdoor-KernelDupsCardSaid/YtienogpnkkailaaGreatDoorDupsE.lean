import Derived.Test.YtienogpnkkailaaGreatDoorDupsFa
import Derived.Test.YtienogpnkkailaaGreatDoorDupsFb
import Derived.Test.YtienogpnkkailaaGreatDoorDupsFc
import Derived.Test.YtienogpnkkailaaGreatDoorDupsFd
import Derived.Test.YtienogpnkkailaaGreatDoorDupsFe
import Derived.Test.YtienogpnkkailaaGreatDoorDupsFf
import Derived.Test.YtienogpnkkailaaGreatDoorDupsFg
import Derived.Test.YtienogpnkkailaaGreatDoorDupsFh
import Derived.Test.YtienogpnkkailaaGreatDoorDupsFi
section
set_option autoImplicit false
set_option maxRecDepth 100000
namespace Go.Ev
open Go.Proofs
noncomputable section
theorem dpok0 : FactOk dpx0 := fact_ok fnil dpb0
theorem dpok1 : FactOk dpx1 := fact_ok (fcons dpok0 fnil) dpb1
theorem dpok2 : FactOk dpx2 := fact_ok (fcons dpok0 fnil) dpb2
theorem dpok3 : FactOk dpx3 := fact_ok (fcons dpok0 fnil) dpb3
theorem dpok4 : FactOk dpx4 := fact_ok (fcons dpok0 fnil) dpb4
theorem dpok5 : FactOk dpx5 := fact_ok (fcons dpok0 fnil) dpb5
theorem dpok6 : FactOk dpx6 := fact_ok (fcons dpok0 fnil) dpb6
theorem dpok7 : FactOk dpx7 := fact_ok (fcons dpok0 fnil) dpb7
theorem dpok8 : FactOk dpx8 := fact_ok (fcons dpok0 fnil) dpb8
theorem dpok9 : FactOk dpx9 := fact_ok (fcons dpok1 (fcons dpok2 (fcons dpok3 (fcons dpok4 (fcons dpok5 (fcons dpok6 (fcons dpok7 (fcons dpok8 (fcons dpok0 fnil))))))))) dpb9
theorem dpok10 : FactOk dpx10 := fact_ok fnil dpb10
theorem dpok11 : FactOk dpx11 := fact_ok (fcons dpok10 fnil) dpb11
theorem dpok12 : FactOk dpx12 := fact_ok (fcons dpok10 fnil) dpb12
theorem dpok13 : FactOk dpx13 := fact_ok (fcons dpok10 fnil) dpb13
theorem dpok14 : FactOk dpx14 := fact_ok (fcons dpok10 fnil) dpb14
theorem dpok15 : FactOk dpx15 := fact_ok (fcons dpok10 fnil) dpb15
theorem dpok16 : FactOk dpx16 := fact_ok (fcons dpok10 fnil) dpb16
theorem dpok17 : FactOk dpx17 := fact_ok (fcons dpok10 fnil) dpb17
theorem dpok18 : FactOk dpx18 := fact_ok (fcons dpok10 fnil) dpb18
theorem dpok19 : FactOk dpx19 := fact_ok (fcons dpok10 fnil) dpb19
theorem dpok20 : FactOk dpx20 := fact_ok (fcons dpok10 fnil) dpb20
theorem dpok21 : FactOk dpx21 := fact_ok (fcons dpok10 fnil) dpb21
theorem dpok22 : FactOk dpx22 := fact_ok (fcons dpok10 fnil) dpb22
theorem dpok23 : FactOk dpx23 := fact_ok (fcons dpok10 fnil) dpb23
theorem dpok24 : FactOk dpx24 := fact_ok fnil dpb24
theorem dpok25 : FactOk dpx25 := fact_ok (fcons dpok24 fnil) dpb25
theorem dpok26 : FactOk dpx26 := fact_ok (fcons dpok24 fnil) dpb26
theorem dpok27 : FactOk dpx27 := fact_ok (fcons dpok24 fnil) dpb27
theorem dpok28 : FactOk dpx28 := fact_ok (fcons dpok24 fnil) dpb28
theorem dpok29 : FactOk dpx29 := fact_ok (fcons dpok24 fnil) dpb29
theorem dpok30 : FactOk dpx30 := fact_ok (fcons dpok24 fnil) dpb30
theorem dpok31 : FactOk dpx31 := fact_ok (fcons dpok24 fnil) dpb31
theorem dpok32 : FactOk dpx32 := fact_ok (fcons dpok24 fnil) dpb32
theorem dpok33 : FactOk dpx33 := fact_ok (fcons dpok24 fnil) dpb33
theorem dpok34 : FactOk dpx34 := fact_ok (fcons dpok24 fnil) dpb34
theorem dpok35 : FactOk dpx35 := fact_ok (fcons dpok24 fnil) dpb35
theorem dpok36 : FactOk dpx36 := fact_ok fnil dpb36
theorem dpok37 : FactOk dpx37 := fact_ok (fcons dpok36 fnil) dpb37
theorem dpok38 : FactOk dpx38 := fact_ok (fcons dpok36 fnil) dpb38
theorem dpok39 : FactOk dpx39 := fact_ok (fcons dpok36 fnil) dpb39
theorem dpok40 : FactOk dpx40 := fact_ok (fcons dpok36 fnil) dpb40
theorem dpok41 : FactOk dpx41 := fact_ok (fcons dpok36 fnil) dpb41
theorem dpok42 : FactOk dpx42 := fact_ok (fcons dpok36 fnil) dpb42
theorem dpok43 : FactOk dpx43 := fact_ok (fcons dpok36 fnil) dpb43
theorem dpok44 : FactOk dpx44 := fact_ok (fcons dpok36 fnil) dpb44
theorem dpok45 : FactOk dpx45 := fact_ok (fcons dpok36 fnil) dpb45
theorem dpok46 : FactOk dpx46 := fact_ok (fcons dpok36 fnil) dpb46
theorem dpok47 : FactOk dpx47 := fact_ok (fcons dpok36 fnil) dpb47
theorem dpok48 : FactOk dpx48 := fact_ok (fcons dpok36 fnil) dpb48
theorem dpok49 : FactOk dpx49 := fact_ok (fcons dpok36 fnil) dpb49
theorem dpok50 : FactOk dpx50 := fact_ok fnil dpb50
theorem dpok51 : FactOk dpx51 := fact_ok (fcons dpok50 fnil) dpb51
theorem dpok52 : FactOk dpx52 := fact_ok (fcons dpok50 fnil) dpb52
theorem dpok53 : FactOk dpx53 := fact_ok (fcons dpok50 fnil) dpb53
theorem dpok54 : FactOk dpx54 := fact_ok (fcons dpok50 fnil) dpb54
theorem dpok55 : FactOk dpx55 := fact_ok (fcons dpok50 fnil) dpb55
theorem dpok56 : FactOk dpx56 := fact_ok (fcons dpok50 fnil) dpb56
theorem dpok57 : FactOk dpx57 := fact_ok (fcons dpok50 fnil) dpb57
theorem dpok58 : FactOk dpx58 := fact_ok (fcons dpok50 fnil) dpb58
theorem dpok59 : FactOk dpx59 := fact_ok (fcons dpok50 fnil) dpb59
theorem dpok60 : FactOk dpx60 := fact_ok (fcons dpok50 fnil) dpb60
theorem dpok61 : FactOk dpx61 := fact_ok (fcons dpok50 fnil) dpb61
theorem dpok62 : FactOk dpx62 := fact_ok (fcons dpok50 fnil) dpb62
theorem dpok63 : FactOk dpx63 := fact_ok (fcons dpok50 fnil) dpb63
theorem dpok64 : FactOk dpx64 := fact_ok fnil dpb64
theorem dpok65 : FactOk dpx65 := fact_ok (fcons dpok64 fnil) dpb65
theorem dpok66 : FactOk dpx66 := fact_ok (fcons dpok64 fnil) dpb66
theorem dpok67 : FactOk dpx67 := fact_ok (fcons dpok64 fnil) dpb67
theorem dpok68 : FactOk dpx68 := fact_ok (fcons dpok64 fnil) dpb68
theorem dpok69 : FactOk dpx69 := fact_ok (fcons dpok64 fnil) dpb69
theorem dpok70 : FactOk dpx70 := fact_ok (fcons dpok64 fnil) dpb70
theorem dpok71 : FactOk dpx71 := fact_ok (fcons dpok64 fnil) dpb71
theorem dpok72 : FactOk dpx72 := fact_ok (fcons dpok64 fnil) dpb72
theorem dpok73 : FactOk dpx73 := fact_ok (fcons dpok64 fnil) dpb73
theorem dpok74 : FactOk dpx74 := fact_ok (fcons dpok64 fnil) dpb74
theorem dpok75 : FactOk dpx75 := fact_ok (fcons dpok64 fnil) dpb75
theorem dpok76 : FactOk dpx76 := fact_ok (fcons dpok64 fnil) dpb76
theorem dpok77 : FactOk dpx77 := fact_ok (fcons dpok64 fnil) dpb77
theorem dpok78 : FactOk dpx78 := fact_ok fnil dpb78
theorem dpok79 : FactOk dpx79 := fact_ok (fcons dpok78 fnil) dpb79
theorem dpok80 : FactOk dpx80 := fact_ok (fcons dpok78 fnil) dpb80
theorem dpok81 : FactOk dpx81 := fact_ok (fcons dpok78 fnil) dpb81
theorem dpok82 : FactOk dpx82 := fact_ok (fcons dpok78 fnil) dpb82
theorem dpok83 : FactOk dpx83 := fact_ok (fcons dpok78 fnil) dpb83
theorem dpok84 : FactOk dpx84 := fact_ok (fcons dpok78 fnil) dpb84
theorem dpok85 : FactOk dpx85 := fact_ok (fcons dpok78 fnil) dpb85
theorem dpok86 : FactOk dpx86 := fact_ok (fcons dpok78 fnil) dpb86
theorem dpok87 : FactOk dpx87 := fact_ok (fcons dpok78 fnil) dpb87
theorem dpok88 : FactOk dpx88 := fact_ok (fcons dpok78 fnil) dpb88
theorem dpok89 : FactOk dpx89 := fact_ok (fcons dpok78 fnil) dpb89
theorem dpok90 : FactOk dpx90 := fact_ok (fcons dpok78 fnil) dpb90
theorem dpok91 : FactOk dpx91 := fact_ok (fcons dpok78 fnil) dpb91
theorem dptop0 {θ : Nat → Int} : MemoOk θ Tryz.prog gl (memoOf [dpx9, dpx11, dpx12, dpx13, dpx14, dpx15, dpx16, dpx17, dpx18, dpx19, dpx20, dpx21, dpx22, dpx23, dpx24, dpx25, dpx26, dpx27, dpx28, dpx29, dpx30, dpx31, dpx32, dpx33, dpx34, dpx35]) ∧ trueB (callM (memoOf [dpx9, dpx11, dpx12, dpx13, dpx14, dpx15, dpx16, dpx17, dpx18, dpx19, dpx20, dpx21, dpx22, dpx23, dpx24, dpx25, dpx26, dpx27, dpx28, dpx29, dpx30, dpx31, dpx32, dpx33, dpx34, dpx35]) 12 [.sym .u8 (.mk (.ofNat 0) [.mk (.ofNat 1) 1 (.ofNat 0) (.ofNat 9)])] emptyH) = true := ⟨memo_facts (fcons dpok9 (fcons dpok11 (fcons dpok12 (fcons dpok13 (fcons dpok14 (fcons dpok15 (fcons dpok16 (fcons dpok17 (fcons dpok18 (fcons dpok19 (fcons dpok20 (fcons dpok21 (fcons dpok22 (fcons dpok23 (fcons dpok24 (fcons dpok25 (fcons dpok26 (fcons dpok27 (fcons dpok28 (fcons dpok29 (fcons dpok30 (fcons dpok31 (fcons dpok32 (fcons dpok33 (fcons dpok34 (fcons dpok35 fnil)))))))))))))))))))))))))), dpt0⟩
theorem dptop1 {θ : Nat → Int} : MemoOk θ Tryz.prog gl (memoOf [dpx9, dpx37, dpx38, dpx39, dpx40, dpx41, dpx42, dpx43, dpx44, dpx45, dpx46, dpx47, dpx48, dpx49, dpx24, dpx25, dpx26, dpx27, dpx28, dpx29, dpx30, dpx31, dpx32, dpx33, dpx34, dpx35]) ∧ trueB (callM (memoOf [dpx9, dpx37, dpx38, dpx39, dpx40, dpx41, dpx42, dpx43, dpx44, dpx45, dpx46, dpx47, dpx48, dpx49, dpx24, dpx25, dpx26, dpx27, dpx28, dpx29, dpx30, dpx31, dpx32, dpx33, dpx34, dpx35]) 12 [.sym .u8 (.mk (.ofNat 0) [.mk (.ofNat 10) 2 (.ofNat 1) (.ofNat 9), .mk (.ofNat 1) 1 (.ofNat 0) (.ofNat 9)])] emptyH) = true := ⟨memo_facts (fcons dpok9 (fcons dpok37 (fcons dpok38 (fcons dpok39 (fcons dpok40 (fcons dpok41 (fcons dpok42 (fcons dpok43 (fcons dpok44 (fcons dpok45 (fcons dpok46 (fcons dpok47 (fcons dpok48 (fcons dpok49 (fcons dpok24 (fcons dpok25 (fcons dpok26 (fcons dpok27 (fcons dpok28 (fcons dpok29 (fcons dpok30 (fcons dpok31 (fcons dpok32 (fcons dpok33 (fcons dpok34 (fcons dpok35 fnil)))))))))))))))))))))))))), dpt1⟩
theorem dptop2 {θ : Nat → Int} : MemoOk θ Tryz.prog gl (memoOf [dpx9, dpx51, dpx52, dpx53, dpx54, dpx55, dpx56, dpx57, dpx58, dpx59, dpx60, dpx61, dpx62, dpx63, dpx24, dpx25, dpx26, dpx27, dpx28, dpx29, dpx30, dpx31, dpx32, dpx33, dpx34, dpx35]) ∧ trueB (callM (memoOf [dpx9, dpx51, dpx52, dpx53, dpx54, dpx55, dpx56, dpx57, dpx58, dpx59, dpx60, dpx61, dpx62, dpx63, dpx24, dpx25, dpx26, dpx27, dpx28, dpx29, dpx30, dpx31, dpx32, dpx33, dpx34, dpx35]) 12 [.sym .u8 (.mk (.ofNat 100) [.mk (.ofNat 10) 2 (.ofNat 0) (.ofNat 9), .mk (.ofNat 1) 1 (.ofNat 0) (.ofNat 9)])] emptyH) = true := ⟨memo_facts (fcons dpok9 (fcons dpok51 (fcons dpok52 (fcons dpok53 (fcons dpok54 (fcons dpok55 (fcons dpok56 (fcons dpok57 (fcons dpok58 (fcons dpok59 (fcons dpok60 (fcons dpok61 (fcons dpok62 (fcons dpok63 (fcons dpok24 (fcons dpok25 (fcons dpok26 (fcons dpok27 (fcons dpok28 (fcons dpok29 (fcons dpok30 (fcons dpok31 (fcons dpok32 (fcons dpok33 (fcons dpok34 (fcons dpok35 fnil)))))))))))))))))))))))))), dpt2⟩
theorem dptop3 {θ : Nat → Int} : MemoOk θ Tryz.prog gl (memoOf [dpx9, dpx65, dpx66, dpx67, dpx68, dpx69, dpx70, dpx71, dpx72, dpx73, dpx74, dpx75, dpx76, dpx77, dpx24, dpx25, dpx26, dpx27, dpx28, dpx29, dpx30, dpx31, dpx32, dpx33, dpx34, dpx35]) ∧ trueB (callM (memoOf [dpx9, dpx65, dpx66, dpx67, dpx68, dpx69, dpx70, dpx71, dpx72, dpx73, dpx74, dpx75, dpx76, dpx77, dpx24, dpx25, dpx26, dpx27, dpx28, dpx29, dpx30, dpx31, dpx32, dpx33, dpx34, dpx35]) 12 [.sym .u8 (.mk (.ofNat 200) [.mk (.ofNat 10) 2 (.ofNat 0) (.ofNat 4), .mk (.ofNat 1) 1 (.ofNat 0) (.ofNat 9)])] emptyH) = true := ⟨memo_facts (fcons dpok9 (fcons dpok65 (fcons dpok66 (fcons dpok67 (fcons dpok68 (fcons dpok69 (fcons dpok70 (fcons dpok71 (fcons dpok72 (fcons dpok73 (fcons dpok74 (fcons dpok75 (fcons dpok76 (fcons dpok77 (fcons dpok24 (fcons dpok25 (fcons dpok26 (fcons dpok27 (fcons dpok28 (fcons dpok29 (fcons dpok30 (fcons dpok31 (fcons dpok32 (fcons dpok33 (fcons dpok34 (fcons dpok35 fnil)))))))))))))))))))))))))), dpt3⟩
theorem dptop4 {θ : Nat → Int} : MemoOk θ Tryz.prog gl (memoOf [dpx9, dpx79, dpx80, dpx81, dpx82, dpx83, dpx84, dpx85, dpx86, dpx87, dpx88, dpx89, dpx90, dpx91, dpx24, dpx25, dpx26, dpx27, dpx28, dpx29, dpx30, dpx31, dpx32, dpx33, dpx34, dpx35]) ∧ trueB (callM (memoOf [dpx9, dpx79, dpx80, dpx81, dpx82, dpx83, dpx84, dpx85, dpx86, dpx87, dpx88, dpx89, dpx90, dpx91, dpx24, dpx25, dpx26, dpx27, dpx28, dpx29, dpx30, dpx31, dpx32, dpx33, dpx34, dpx35]) 12 [.sym .u8 (.mk (.ofNat 250) [.mk (.ofNat 1) 1 (.ofNat 0) (.ofNat 5)])] emptyH) = true := ⟨memo_facts (fcons dpok9 (fcons dpok79 (fcons dpok80 (fcons dpok81 (fcons dpok82 (fcons dpok83 (fcons dpok84 (fcons dpok85 (fcons dpok86 (fcons dpok87 (fcons dpok88 (fcons dpok89 (fcons dpok90 (fcons dpok91 (fcons dpok24 (fcons dpok25 (fcons dpok26 (fcons dpok27 (fcons dpok28 (fcons dpok29 (fcons dpok30 (fcons dpok31 (fcons dpok32 (fcons dpok33 (fcons dpok34 (fcons dpok35 fnil)))))))))))))))))))))))))), dpt4⟩
end
end Go.Ev
end
