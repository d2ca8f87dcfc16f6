import Derived.Test.YtienogpnkkailaaGreatDoorBacklogsFa
import Derived.Test.YtienogpnkkailaaGreatDoorBacklogsFb
import Derived.Test.YtienogpnkkailaaGreatDoorBacklogsFc
import Derived.Test.YtienogpnkkailaaGreatDoorBacklogsFd
import Derived.Test.YtienogpnkkailaaGreatDoorBacklogsFe
import Derived.Test.YtienogpnkkailaaGreatDoorBacklogsFf
import Derived.Test.YtienogpnkkailaaGreatDoorBacklogsFg
import Derived.Test.YtienogpnkkailaaGreatDoorBacklogsFh
import Derived.Test.YtienogpnkkailaaGreatDoorBacklogsFi
import Derived.Test.YtienogpnkkailaaGreatDoorBacklogsFj
section
set_option autoImplicit false
set_option maxRecDepth 100000
namespace Go.Ev
open Go.Proofs
noncomputable section
theorem blok0 : FactOk blx0 := fact_ok fnil blb0
theorem blok1 : FactOk blx1 := fact_ok fnil blb1
theorem blok2 : FactOk blx2 := fact_ok fnil blb2
theorem blok3 : FactOk blx3 := fact_ok fnil blb3
theorem blok4 : FactOk blx4 := fact_ok fnil blb4
theorem blok5 : FactOk blx5 := fact_ok fnil blb5
theorem blok6 : FactOk blx6 := fact_ok fnil blb6
theorem blok7 : FactOk blx7 := fact_ok (fcons blok0 (fcons blok1 (fcons blok2 (fcons blok3 (fcons blok4 (fcons blok5 (fcons blok6 fnil))))))) blb7
theorem blok8 : FactOk blx8 := fact_ok fnil blb8
theorem blok9 : FactOk blx9 := fact_ok fnil blb9
theorem blok10 : FactOk blx10 := fact_ok (fcons blok9 fnil) blb10
theorem blok11 : FactOk blx11 := fact_ok (fcons blok9 fnil) blb11
theorem blok12 : FactOk blx12 := fact_ok (fcons blok9 fnil) blb12
theorem blok13 : FactOk blx13 := fact_ok (fcons blok9 fnil) blb13
theorem blok14 : FactOk blx14 := fact_ok (fcons blok9 fnil) blb14
theorem blok15 : FactOk blx15 := fact_ok (fcons blok9 fnil) blb15
theorem blok16 : FactOk blx16 := fact_ok (fcons blok9 fnil) blb16
theorem blok17 : FactOk blx17 := fact_ok (fcons blok9 fnil) blb17
theorem blok18 : FactOk blx18 := fact_ok (fcons blok11 (fcons blok12 (fcons blok13 (fcons blok14 (fcons blok15 (fcons blok16 (fcons blok17 fnil))))))) blb18
theorem blok19 : FactOk blx19 := fact_ok (fcons blok9 fnil) blb19
theorem blok20 : FactOk blx20 := fact_ok (fcons blok7 (fcons blok8 (fcons blok10 (fcons blok18 (fcons blok19 fnil))))) blb20
theorem blok21 : FactOk blx21 := fact_ok fnil blb21
theorem blok22 : FactOk blx22 := fact_ok fnil blb22
theorem blok23 : FactOk blx23 := fact_ok fnil blb23
theorem blok24 : FactOk blx24 := fact_ok fnil blb24
theorem blok25 : FactOk blx25 := fact_ok fnil blb25
theorem blok26 : FactOk blx26 := fact_ok fnil blb26
theorem blok27 : FactOk blx27 := fact_ok fnil blb27
theorem blok28 : FactOk blx28 := fact_ok fnil blb28
theorem blok29 : FactOk blx29 := fact_ok fnil blb29
theorem blok30 : FactOk blx30 := fact_ok fnil blb30
theorem blok31 : FactOk blx31 := fact_ok (fcons blok5 (fcons blok22 (fcons blok23 (fcons blok24 (fcons blok25 (fcons blok26 (fcons blok27 (fcons blok28 (fcons blok29 (fcons blok30 fnil)))))))))) blb31
theorem blok32 : FactOk blx32 := fact_ok fnil blb32
theorem blok33 : FactOk blx33 := fact_ok fnil blb33
theorem blok34 : FactOk blx34 := fact_ok (fcons blok33 fnil) blb34
theorem blok35 : FactOk blx35 := fact_ok (fcons blok33 fnil) blb35
theorem blok36 : FactOk blx36 := fact_ok (fcons blok33 fnil) blb36
theorem blok37 : FactOk blx37 := fact_ok (fcons blok33 fnil) blb37
theorem blok38 : FactOk blx38 := fact_ok (fcons blok33 fnil) blb38
theorem blok39 : FactOk blx39 := fact_ok (fcons blok33 fnil) blb39
theorem blok40 : FactOk blx40 := fact_ok (fcons blok33 fnil) blb40
theorem blok41 : FactOk blx41 := fact_ok (fcons blok33 fnil) blb41
theorem blok42 : FactOk blx42 := fact_ok (fcons blok33 fnil) blb42
theorem blok43 : FactOk blx43 := fact_ok (fcons blok33 fnil) blb43
theorem blok44 : FactOk blx44 := fact_ok (fcons blok33 fnil) blb44
theorem blok45 : FactOk blx45 := fact_ok (fcons blok33 fnil) blb45
theorem blok46 : FactOk blx46 := fact_ok (fcons blok33 fnil) blb46
theorem blok47 : FactOk blx47 := fact_ok (fcons blok33 fnil) blb47
theorem blok48 : FactOk blx48 := fact_ok (fcons blok33 fnil) blb48
theorem blok49 : FactOk blx49 := fact_ok (fcons blok33 fnil) blb49
theorem blok50 : FactOk blx50 := fact_ok (fcons blok33 fnil) blb50
theorem blok51 : FactOk blx51 := fact_ok (fcons blok33 fnil) blb51
theorem blok52 : FactOk blx52 := fact_ok (fcons blok33 fnil) blb52
theorem blok53 : FactOk blx53 := fact_ok (fcons blok33 fnil) blb53
theorem blok54 : FactOk blx54 := fact_ok (fcons blok33 fnil) blb54
theorem blok55 : FactOk blx55 := fact_ok (fcons blok33 fnil) blb55
theorem blok56 : FactOk blx56 := fact_ok (fcons blok33 fnil) blb56
theorem blok57 : FactOk blx57 := fact_ok (fcons blok33 fnil) blb57
theorem blok58 : FactOk blx58 := fact_ok (fcons blok33 fnil) blb58
theorem blok59 : FactOk blx59 := fact_ok (fcons blok33 fnil) blb59
theorem blok60 : FactOk blx60 := fact_ok (fcons blok33 fnil) blb60
theorem blok61 : FactOk blx61 := fact_ok (fcons blok33 fnil) blb61
theorem blok62 : FactOk blx62 := fact_ok (fcons blok33 fnil) blb62
theorem blok63 : FactOk blx63 := fact_ok (fcons blok33 fnil) blb63
theorem blok64 : FactOk blx64 := fact_ok (fcons blok33 fnil) blb64
theorem blok65 : FactOk blx65 := fact_ok (fcons blok33 fnil) blb65
theorem blok66 : FactOk blx66 := fact_ok (fcons blok33 fnil) blb66
theorem blok67 : FactOk blx67 := fact_ok (fcons blok33 fnil) blb67
theorem blok68 : FactOk blx68 := fact_ok (fcons blok33 fnil) blb68
theorem blok69 : FactOk blx69 := fact_ok (fcons blok33 fnil) blb69
theorem blok70 : FactOk blx70 := fact_ok (fcons blok33 fnil) blb70
theorem blok71 : FactOk blx71 := fact_ok (fcons blok33 fnil) blb71
theorem blok72 : FactOk blx72 := fact_ok (fcons blok33 fnil) blb72
theorem blok73 : FactOk blx73 := fact_ok (fcons blok33 fnil) blb73
theorem blok74 : FactOk blx74 := fact_ok (fcons blok33 fnil) blb74
theorem blok75 : FactOk blx75 := fact_ok (fcons blok33 fnil) blb75
theorem blok76 : FactOk blx76 := fact_ok (fcons blok33 fnil) blb76
theorem blok77 : FactOk blx77 := fact_ok (fcons blok33 fnil) blb77
theorem blok78 : FactOk blx78 := fact_ok (fcons blok33 fnil) blb78
theorem blok79 : FactOk blx79 := fact_ok (fcons blok33 fnil) blb79
theorem blok80 : FactOk blx80 := fact_ok (fcons blok33 fnil) blb80
theorem blok81 : FactOk blx81 := fact_ok (fcons blok33 fnil) blb81
theorem blok82 : FactOk blx82 := fact_ok (fcons blok33 fnil) blb82
theorem blok83 : FactOk blx83 := fact_ok (fcons blok33 fnil) blb83
theorem blok84 : FactOk blx84 := fact_ok (fcons blok33 fnil) blb84
theorem blok85 : FactOk blx85 := fact_ok (fcons blok33 fnil) blb85
theorem blok86 : FactOk blx86 := fact_ok (fcons blok33 fnil) blb86
theorem blok87 : FactOk blx87 := fact_ok (fcons blok33 fnil) blb87
theorem blok88 : FactOk blx88 := fact_ok (fcons blok33 fnil) blb88
theorem blok89 : FactOk blx89 := fact_ok (fcons blok33 fnil) blb89
theorem blok90 : FactOk blx90 := fact_ok (fcons blok33 fnil) blb90
theorem blok91 : FactOk blx91 := fact_ok (fcons blok33 fnil) blb91
theorem blok92 : FactOk blx92 := fact_ok (fcons blok33 fnil) blb92
theorem bltop0 {θ : Nat → Int} (hq : EqsOk θ blq0) : MemoOk θ Tryz.prog gl (memoOf [blx20, blx21, blx31, blx32, blx34, blx35, blx36, blx37, blx38, blx39, blx40, blx41, blx42, blx43, blx44, blx45, blx46, blx47, blx48, blx49, blx50, blx51, blx52, blx53, blx54, blx55, blx56, blx57, blx58, blx59, blx60, blx61, blx62, blx63, blx64, blx65, blx66, blx67, blx68, blx69, blx70, blx71, blx72, blx73, blx74, blx75, blx76, blx77, blx78, blx79, blx80, blx81, blx82, blx83, blx84, blx85, blx86, blx87, blx88, blx89, blx90, blx91, blx92]) ∧ trueB (callM (memoOf [blx20, blx21, blx31, blx32, blx34, blx35, blx36, blx37, blx38, blx39, blx40, blx41, blx42, blx43, blx44, blx45, blx46, blx47, blx48, blx49, blx50, blx51, blx52, blx53, blx54, blx55, blx56, blx57, blx58, blx59, blx60, blx61, blx62, blx63, blx64, blx65, blx66, blx67, blx68, blx69, blx70, blx71, blx72, blx73, blx74, blx75, blx76, blx77, blx78, blx79, blx80, blx81, blx82, blx83, blx84, blx85, blx86, blx87, blx88, blx89, blx90, blx91, blx92]) 13 [.sym .u8 (.mk (.ofNat 0) [.mk (.ofNat 4) 0 (.ofNat 0) (.ofNat 63)])] emptyH) = true := ⟨memo_at hq (acons (blok20.at _) (acons (blok21.at _) (acons (blok31.at _) (acons (blok32.at _) (acons (blok34.at _) (acons (blok35.at _) (acons (blok36.at _) (acons (blok37.at _) (acons (blok38.at _) (acons (blok39.at _) (acons (blok40.at _) (acons (blok41.at _) (acons (blok42.at _) (acons (blok43.at _) (acons (blok44.at _) (acons (blok45.at _) (acons (blok46.at _) (acons (blok47.at _) (acons (blok48.at _) (acons (blok49.at _) (acons (blok50.at _) (acons (blok51.at _) (acons (blok52.at _) (acons (blok53.at _) (acons (blok54.at _) (acons (blok55.at _) (acons (blok56.at _) (acons (blok57.at _) (acons (blok58.at _) (acons (blok59.at _) (acons (blok60.at _) (acons (blok61.at _) (acons (blok62.at _) (acons (blok63.at _) (acons (blok64.at _) (acons (blok65.at _) (acons (blok66.at _) (acons (blok67.at _) (acons (blok68.at _) (acons (blok69.at _) (acons (blok70.at _) (acons (blok71.at _) (acons (blok72.at _) (acons (blok73.at _) (acons (blok74.at _) (acons (blok75.at _) (acons (blok76.at _) (acons (blok77.at _) (acons (blok78.at _) (acons (blok79.at _) (acons (blok80.at _) (acons (blok81.at _) (acons (blok82.at _) (acons (blok83.at _) (acons (blok84.at _) (acons (blok85.at _) (acons (blok86.at _) (acons (blok87.at _) (acons (blok88.at _) (acons (blok89.at _) (acons (blok90.at _) (acons (blok91.at _) (acons (blok92.at _) anil))))))))))))))))))))))))))))))))))))))))))))))))))))))))))))))), blt0⟩
theorem bltop1 {θ : Nat → Int} (hq : EqsOk θ blq1) : MemoOk θ Tryz.prog gl (memoOf [blx20, blx21, blx31, blx32, blx34, blx35, blx36, blx37, blx38, blx39, blx40, blx41, blx42, blx43, blx44, blx45, blx46, blx47, blx48, blx49, blx50, blx51, blx52, blx53, blx54, blx55, blx56, blx57, blx58, blx59, blx60, blx61, blx62, blx63, blx64, blx65, blx66, blx67, blx68, blx69, blx70, blx71, blx72, blx73, blx74, blx75, blx76, blx77, blx78, blx79, blx80, blx81, blx82, blx83, blx84, blx85, blx86, blx87, blx88, blx89, blx90, blx91, blx92]) ∧ trueB (callM (memoOf [blx20, blx21, blx31, blx32, blx34, blx35, blx36, blx37, blx38, blx39, blx40, blx41, blx42, blx43, blx44, blx45, blx46, blx47, blx48, blx49, blx50, blx51, blx52, blx53, blx54, blx55, blx56, blx57, blx58, blx59, blx60, blx61, blx62, blx63, blx64, blx65, blx66, blx67, blx68, blx69, blx70, blx71, blx72, blx73, blx74, blx75, blx76, blx77, blx78, blx79, blx80, blx81, blx82, blx83, blx84, blx85, blx86, blx87, blx88, blx89, blx90, blx91, blx92]) 13 [.sym .u8 (.mk (.ofNat 1) [.mk (.ofNat 4) 0 (.ofNat 0) (.ofNat 63)])] emptyH) = true := ⟨memo_at hq (acons (blok20.at _) (acons (blok21.at _) (acons (blok31.at _) (acons (blok32.at _) (acons (blok34.at _) (acons (blok35.at _) (acons (blok36.at _) (acons (blok37.at _) (acons (blok38.at _) (acons (blok39.at _) (acons (blok40.at _) (acons (blok41.at _) (acons (blok42.at _) (acons (blok43.at _) (acons (blok44.at _) (acons (blok45.at _) (acons (blok46.at _) (acons (blok47.at _) (acons (blok48.at _) (acons (blok49.at _) (acons (blok50.at _) (acons (blok51.at _) (acons (blok52.at _) (acons (blok53.at _) (acons (blok54.at _) (acons (blok55.at _) (acons (blok56.at _) (acons (blok57.at _) (acons (blok58.at _) (acons (blok59.at _) (acons (blok60.at _) (acons (blok61.at _) (acons (blok62.at _) (acons (blok63.at _) (acons (blok64.at _) (acons (blok65.at _) (acons (blok66.at _) (acons (blok67.at _) (acons (blok68.at _) (acons (blok69.at _) (acons (blok70.at _) (acons (blok71.at _) (acons (blok72.at _) (acons (blok73.at _) (acons (blok74.at _) (acons (blok75.at _) (acons (blok76.at _) (acons (blok77.at _) (acons (blok78.at _) (acons (blok79.at _) (acons (blok80.at _) (acons (blok81.at _) (acons (blok82.at _) (acons (blok83.at _) (acons (blok84.at _) (acons (blok85.at _) (acons (blok86.at _) (acons (blok87.at _) (acons (blok88.at _) (acons (blok89.at _) (acons (blok90.at _) (acons (blok91.at _) (acons (blok92.at _) anil))))))))))))))))))))))))))))))))))))))))))))))))))))))))))))))), blt1⟩
theorem bltop2 {θ : Nat → Int} (hq : EqsOk θ blq2) : MemoOk θ Tryz.prog gl (memoOf [blx20, blx21, blx31, blx32, blx34, blx35, blx36, blx37, blx38, blx39, blx40, blx41, blx42, blx43, blx44, blx45, blx46, blx47, blx48, blx49, blx50, blx51, blx52, blx53, blx54, blx55, blx56, blx57, blx58, blx59, blx60, blx61, blx62, blx63, blx64, blx65, blx66, blx67, blx68, blx69, blx70, blx71, blx72, blx73, blx74, blx75, blx76, blx77, blx78, blx79, blx80, blx81, blx82, blx83, blx84, blx85, blx86, blx87, blx88, blx89, blx90, blx91, blx92]) ∧ trueB (callM (memoOf [blx20, blx21, blx31, blx32, blx34, blx35, blx36, blx37, blx38, blx39, blx40, blx41, blx42, blx43, blx44, blx45, blx46, blx47, blx48, blx49, blx50, blx51, blx52, blx53, blx54, blx55, blx56, blx57, blx58, blx59, blx60, blx61, blx62, blx63, blx64, blx65, blx66, blx67, blx68, blx69, blx70, blx71, blx72, blx73, blx74, blx75, blx76, blx77, blx78, blx79, blx80, blx81, blx82, blx83, blx84, blx85, blx86, blx87, blx88, blx89, blx90, blx91, blx92]) 13 [.sym .u8 (.mk (.ofNat 2) [.mk (.ofNat 4) 0 (.ofNat 0) (.ofNat 63)])] emptyH) = true := ⟨memo_at hq (acons (blok20.at _) (acons (blok21.at _) (acons (blok31.at _) (acons (blok32.at _) (acons (blok34.at _) (acons (blok35.at _) (acons (blok36.at _) (acons (blok37.at _) (acons (blok38.at _) (acons (blok39.at _) (acons (blok40.at _) (acons (blok41.at _) (acons (blok42.at _) (acons (blok43.at _) (acons (blok44.at _) (acons (blok45.at _) (acons (blok46.at _) (acons (blok47.at _) (acons (blok48.at _) (acons (blok49.at _) (acons (blok50.at _) (acons (blok51.at _) (acons (blok52.at _) (acons (blok53.at _) (acons (blok54.at _) (acons (blok55.at _) (acons (blok56.at _) (acons (blok57.at _) (acons (blok58.at _) (acons (blok59.at _) (acons (blok60.at _) (acons (blok61.at _) (acons (blok62.at _) (acons (blok63.at _) (acons (blok64.at _) (acons (blok65.at _) (acons (blok66.at _) (acons (blok67.at _) (acons (blok68.at _) (acons (blok69.at _) (acons (blok70.at _) (acons (blok71.at _) (acons (blok72.at _) (acons (blok73.at _) (acons (blok74.at _) (acons (blok75.at _) (acons (blok76.at _) (acons (blok77.at _) (acons (blok78.at _) (acons (blok79.at _) (acons (blok80.at _) (acons (blok81.at _) (acons (blok82.at _) (acons (blok83.at _) (acons (blok84.at _) (acons (blok85.at _) (acons (blok86.at _) (acons (blok87.at _) (acons (blok88.at _) (acons (blok89.at _) (acons (blok90.at _) (acons (blok91.at _) (acons (blok92.at _) anil))))))))))))))))))))))))))))))))))))))))))))))))))))))))))))))), blt2⟩
theorem bltop3 {θ : Nat → Int} (hq : EqsOk θ blq3) : MemoOk θ Tryz.prog gl (memoOf [blx20, blx21, blx31, blx32, blx34, blx35, blx36, blx37, blx38, blx39, blx40, blx41, blx42, blx43, blx44, blx45, blx46, blx47, blx48, blx49, blx50, blx51, blx52, blx53, blx54, blx55, blx56, blx57, blx58, blx59, blx60, blx61, blx62, blx63, blx64, blx65, blx66, blx67, blx68, blx69, blx70, blx71, blx72, blx73, blx74, blx75, blx76, blx77, blx78, blx79, blx80, blx81, blx82, blx83, blx84, blx85, blx86, blx87, blx88, blx89, blx90, blx91, blx92]) ∧ trueB (callM (memoOf [blx20, blx21, blx31, blx32, blx34, blx35, blx36, blx37, blx38, blx39, blx40, blx41, blx42, blx43, blx44, blx45, blx46, blx47, blx48, blx49, blx50, blx51, blx52, blx53, blx54, blx55, blx56, blx57, blx58, blx59, blx60, blx61, blx62, blx63, blx64, blx65, blx66, blx67, blx68, blx69, blx70, blx71, blx72, blx73, blx74, blx75, blx76, blx77, blx78, blx79, blx80, blx81, blx82, blx83, blx84, blx85, blx86, blx87, blx88, blx89, blx90, blx91, blx92]) 13 [.sym .u8 (.mk (.ofNat 3) [.mk (.ofNat 4) 0 (.ofNat 0) (.ofNat 63)])] emptyH) = true := ⟨memo_at hq (acons (blok20.at _) (acons (blok21.at _) (acons (blok31.at _) (acons (blok32.at _) (acons (blok34.at _) (acons (blok35.at _) (acons (blok36.at _) (acons (blok37.at _) (acons (blok38.at _) (acons (blok39.at _) (acons (blok40.at _) (acons (blok41.at _) (acons (blok42.at _) (acons (blok43.at _) (acons (blok44.at _) (acons (blok45.at _) (acons (blok46.at _) (acons (blok47.at _) (acons (blok48.at _) (acons (blok49.at _) (acons (blok50.at _) (acons (blok51.at _) (acons (blok52.at _) (acons (blok53.at _) (acons (blok54.at _) (acons (blok55.at _) (acons (blok56.at _) (acons (blok57.at _) (acons (blok58.at _) (acons (blok59.at _) (acons (blok60.at _) (acons (blok61.at _) (acons (blok62.at _) (acons (blok63.at _) (acons (blok64.at _) (acons (blok65.at _) (acons (blok66.at _) (acons (blok67.at _) (acons (blok68.at _) (acons (blok69.at _) (acons (blok70.at _) (acons (blok71.at _) (acons (blok72.at _) (acons (blok73.at _) (acons (blok74.at _) (acons (blok75.at _) (acons (blok76.at _) (acons (blok77.at _) (acons (blok78.at _) (acons (blok79.at _) (acons (blok80.at _) (acons (blok81.at _) (acons (blok82.at _) (acons (blok83.at _) (acons (blok84.at _) (acons (blok85.at _) (acons (blok86.at _) (acons (blok87.at _) (acons (blok88.at _) (acons (blok89.at _) (acons (blok90.at _) (acons (blok91.at _) (acons (blok92.at _) anil))))))))))))))))))))))))))))))))))))))))))))))))))))))))))))))), blt3⟩
end
end Go.Ev
end
