import Derived.Test.YtienogpnkkailaaGreatDoorFillsFa
import Derived.Test.YtienogpnkkailaaGreatDoorFillsFb
import Derived.Test.YtienogpnkkailaaGreatDoorFillsFc
import Derived.Test.YtienogpnkkailaaGreatDoorFillsFd
import Derived.Test.YtienogpnkkailaaGreatDoorFillsFe
import Derived.Test.YtienogpnkkailaaGreatDoorFillsFf
import Derived.Test.YtienogpnkkailaaGreatDoorFillsFg
import Derived.Test.YtienogpnkkailaaGreatDoorFillsFh
import Derived.Test.YtienogpnkkailaaGreatDoorFillsFi
import Derived.Test.YtienogpnkkailaaGreatDoorFillsFj
section
set_option autoImplicit false
set_option maxRecDepth 100000
namespace Go.Ev
open Go.Proofs
noncomputable section
theorem flok0 : FactOk flx0 := fact_ok fnil flb0
theorem flok1 : FactOk flx1 := fact_ok fnil flb1
theorem flok2 : FactOk flx2 := fact_ok fnil flb2
theorem flok3 : FactOk flx3 := fact_ok fnil flb3
theorem flok4 : FactOk flx4 := fact_ok fnil flb4
theorem flok5 : FactOk flx5 := fact_ok fnil flb5
theorem flok6 : FactOk flx6 := fact_ok fnil flb6
theorem flok7 : FactOk flx7 := fact_ok (fcons flok0 (fcons flok1 (fcons flok2 (fcons flok3 (fcons flok4 (fcons flok5 (fcons flok6 fnil))))))) flb7
theorem flok8 : FactOk flx8 := fact_ok fnil flb8
theorem flok9 : FactOk flx9 := fact_ok fnil flb9
theorem flok10 : FactOk flx10 := fact_ok (fcons flok9 fnil) flb10
theorem flok11 : FactOk flx11 := fact_ok (fcons flok9 fnil) flb11
theorem flok12 : FactOk flx12 := fact_ok (fcons flok9 fnil) flb12
theorem flok13 : FactOk flx13 := fact_ok (fcons flok9 fnil) flb13
theorem flok14 : FactOk flx14 := fact_ok (fcons flok9 fnil) flb14
theorem flok15 : FactOk flx15 := fact_ok (fcons flok9 fnil) flb15
theorem flok16 : FactOk flx16 := fact_ok (fcons flok9 fnil) flb16
theorem flok17 : FactOk flx17 := fact_ok (fcons flok9 fnil) flb17
theorem flok18 : FactOk flx18 := fact_ok (fcons flok11 (fcons flok12 (fcons flok13 (fcons flok14 (fcons flok15 (fcons flok16 (fcons flok17 fnil))))))) flb18
theorem flok19 : FactOk flx19 := fact_ok (fcons flok9 fnil) flb19
theorem flok20 : FactOk flx20 := fact_ok (fcons flok7 (fcons flok8 (fcons flok10 (fcons flok18 (fcons flok19 fnil))))) flb20
theorem flok21 : FactOk flx21 := fact_ok fnil flb21
theorem flok22 : FactAt flq0 flx22 := FactAt.args (flok21.at _) (by kernel_rfl) (by kernel_rfl)
theorem flok23 : FactOk flx23 := fact_ok fnil flb23
theorem flok24 : FactOk flx24 := fact_ok fnil flb24
theorem flok25 : FactOk flx25 := fact_ok (fcons flok0 (fcons flok2 (fcons flok23 (fcons flok4 (fcons flok24 fnil))))) flb25
theorem flok26 : FactAt flq0 flx26 := FactAt.res (flok25.at _) (by kernel_rfl) (by kernel_rfl)
theorem flok27 : FactOk flx27 := fact_ok fnil flb27
theorem flok28 : FactOk flx28 := fact_ok (fcons flok27 fnil) flb28
theorem flok29 : FactOk flx29 := fact_ok (fcons flok27 fnil) flb29
theorem flok30 : FactOk flx30 := fact_ok (fcons flok27 fnil) flb30
theorem flok31 : FactOk flx31 := fact_ok (fcons flok27 fnil) flb31
theorem flok32 : FactOk flx32 := fact_ok (fcons flok27 fnil) flb32
theorem flok33 : FactOk flx33 := fact_ok (fcons flok27 fnil) flb33
theorem flok34 : FactOk flx34 := fact_ok (fcons flok27 fnil) flb34
theorem flok35 : FactOk flx35 := fact_ok (fcons flok27 fnil) flb35
theorem flok36 : FactOk flx36 := fact_ok (fcons flok27 fnil) flb36
theorem flok37 : FactOk flx37 := fact_ok (fcons flok27 fnil) flb37
theorem flok38 : FactOk flx38 := fact_ok (fcons flok27 fnil) flb38
theorem flok39 : FactOk flx39 := fact_ok (fcons flok27 fnil) flb39
theorem flok40 : FactOk flx40 := fact_ok (fcons flok27 fnil) flb40
theorem flok41 : FactOk flx41 := fact_ok (fcons flok27 fnil) flb41
theorem flok42 : FactOk flx42 := fact_ok (fcons flok27 fnil) flb42
theorem flok43 : FactOk flx43 := fact_ok (fcons flok27 fnil) flb43
theorem flok44 : FactOk flx44 := fact_ok (fcons flok27 fnil) flb44
theorem flok45 : FactOk flx45 := fact_ok (fcons flok27 fnil) flb45
theorem flok46 : FactOk flx46 := fact_ok (fcons flok27 fnil) flb46
theorem flok47 : FactOk flx47 := fact_ok (fcons flok27 fnil) flb47
theorem flok48 : FactOk flx48 := fact_ok (fcons flok27 fnil) flb48
theorem flok49 : FactOk flx49 := fact_ok (fcons flok27 fnil) flb49
theorem flok50 : FactOk flx50 := fact_ok (fcons flok27 fnil) flb50
theorem flok51 : FactOk flx51 := fact_ok (fcons flok27 fnil) flb51
theorem flok52 : FactOk flx52 := fact_ok (fcons flok27 fnil) flb52
theorem flok53 : FactOk flx53 := fact_ok (fcons flok27 fnil) flb53
theorem flok54 : FactOk flx54 := fact_ok (fcons flok27 fnil) flb54
theorem flok55 : FactOk flx55 := fact_ok (fcons flok27 fnil) flb55
theorem flok56 : FactOk flx56 := fact_ok (fcons flok27 fnil) flb56
theorem flok57 : FactOk flx57 := fact_ok (fcons flok27 fnil) flb57
theorem flok58 : FactOk flx58 := fact_ok (fcons flok27 fnil) flb58
theorem flok59 : FactOk flx59 := fact_ok (fcons flok27 fnil) flb59
theorem flok60 : FactOk flx60 := fact_ok (fcons flok27 fnil) flb60
theorem flok61 : FactOk flx61 := fact_ok (fcons flok27 fnil) flb61
theorem flok62 : FactOk flx62 := fact_ok (fcons flok27 fnil) flb62
theorem flok63 : FactOk flx63 := fact_ok (fcons flok27 fnil) flb63
theorem flok64 : FactOk flx64 := fact_ok (fcons flok27 fnil) flb64
theorem flok65 : FactOk flx65 := fact_ok (fcons flok27 fnil) flb65
theorem flok66 : FactOk flx66 := fact_ok (fcons flok27 fnil) flb66
theorem flok67 : FactOk flx67 := fact_ok (fcons flok27 fnil) flb67
theorem flok68 : FactOk flx68 := fact_ok (fcons flok27 fnil) flb68
theorem flok69 : FactOk flx69 := fact_ok (fcons flok27 fnil) flb69
theorem flok70 : FactOk flx70 := fact_ok (fcons flok27 fnil) flb70
theorem flok71 : FactOk flx71 := fact_ok (fcons flok27 fnil) flb71
theorem flok72 : FactOk flx72 := fact_ok (fcons flok27 fnil) flb72
theorem flok73 : FactOk flx73 := fact_ok (fcons flok27 fnil) flb73
theorem flok74 : FactOk flx74 := fact_ok (fcons flok27 fnil) flb74
theorem flok75 : FactOk flx75 := fact_ok (fcons flok27 fnil) flb75
theorem flok76 : FactOk flx76 := fact_ok (fcons flok27 fnil) flb76
theorem flok77 : FactOk flx77 := fact_ok (fcons flok27 fnil) flb77
theorem flok78 : FactOk flx78 := fact_ok (fcons flok27 fnil) flb78
theorem flok79 : FactOk flx79 := fact_ok (fcons flok27 fnil) flb79
theorem flok80 : FactOk flx80 := fact_ok (fcons flok27 fnil) flb80
theorem flok81 : FactOk flx81 := fact_ok (fcons flok27 fnil) flb81
theorem flok82 : FactOk flx82 := fact_ok (fcons flok27 fnil) flb82
theorem flok83 : FactOk flx83 := fact_ok (fcons flok27 fnil) flb83
theorem flok84 : FactOk flx84 := fact_ok (fcons flok27 fnil) flb84
theorem flok85 : FactOk flx85 := fact_ok (fcons flok27 fnil) flb85
theorem flok86 : FactOk flx86 := fact_ok (fcons flok27 fnil) flb86
theorem flok87 : FactOk flx87 := fact_ok (fcons flok27 fnil) flb87
theorem flok88 : FactOk flx88 := fact_ok (fcons flok27 fnil) flb88
theorem flok89 : FactOk flx89 := fact_ok (fcons flok27 fnil) flb89
theorem flok90 : FactOk flx90 := fact_ok (fcons flok27 fnil) flb90
theorem flok91 : FactOk flx91 := fact_ok (fcons flok27 fnil) flb91
theorem flok92 : FactOk flx92 := fact_ok (fcons flok27 fnil) flb92
theorem flok93 : FactOk flx93 := fact_ok (fcons flok27 fnil) flb93
theorem flok94 : FactOk flx94 := fact_ok (fcons flok27 fnil) flb94
theorem flok95 : FactOk flx95 := fact_ok (fcons flok27 fnil) flb95
theorem flok96 : FactOk flx96 := fact_ok (fcons flok27 fnil) flb96
theorem flok97 : FactOk flx97 := fact_ok (fcons flok27 fnil) flb97
theorem flok98 : FactOk flx98 := fact_ok (fcons flok27 fnil) flb98
theorem flok99 : FactOk flx99 := fact_ok (fcons flok27 fnil) flb99
theorem flok100 : FactOk flx100 := fact_ok (fcons flok27 fnil) flb100
theorem flok101 : FactOk flx101 := fact_ok (fcons flok27 fnil) flb101
theorem flok102 : FactOk flx102 := fact_ok (fcons flok27 fnil) flb102
theorem flok103 : FactOk flx103 := fact_ok (fcons flok27 fnil) flb103
theorem flok104 : FactOk flx104 := fact_ok (fcons flok27 fnil) flb104
theorem flok105 : FactOk flx105 := fact_ok (fcons flok27 fnil) flb105
theorem flok106 : FactOk flx106 := fact_ok (fcons flok27 fnil) flb106
theorem flok107 : FactOk flx107 := fact_ok (fcons flok27 fnil) flb107
theorem flok108 : FactOk flx108 := fact_ok (fcons flok27 fnil) flb108
theorem flok109 : FactOk flx109 := fact_ok (fcons flok27 fnil) flb109
theorem flok110 : FactOk flx110 := fact_ok (fcons flok27 fnil) flb110
theorem flok111 : FactOk flx111 := fact_ok (fcons flok27 fnil) flb111
theorem flok112 : FactOk flx112 := fact_ok (fcons flok27 fnil) flb112
theorem flok113 : FactOk flx113 := fact_ok (fcons flok27 fnil) flb113
theorem flok114 : FactOk flx114 := fact_ok (fcons flok27 fnil) flb114
theorem flok115 : FactOk flx115 := fact_ok (fcons flok27 fnil) flb115
theorem flok116 : FactOk flx116 := fact_ok (fcons flok27 fnil) flb116
theorem flok117 : FactOk flx117 := fact_ok (fcons flok27 fnil) flb117
theorem flok118 : FactOk flx118 := fact_ok (fcons flok27 fnil) flb118
theorem flok119 : FactOk flx119 := fact_ok (fcons flok27 fnil) flb119
theorem flok120 : FactOk flx120 := fact_ok (fcons flok27 fnil) flb120
theorem flok121 : FactOk flx121 := fact_ok (fcons flok27 fnil) flb121
theorem flok122 : FactOk flx122 := fact_ok (fcons flok27 fnil) flb122
theorem flok123 : FactOk flx123 := fact_ok (fcons flok27 fnil) flb123
theorem flok124 : FactOk flx124 := fact_ok (fcons flok27 fnil) flb124
theorem flok125 : FactOk flx125 := fact_ok (fcons flok27 fnil) flb125
theorem flok126 : FactOk flx126 := fact_ok (fcons flok27 fnil) flb126
theorem flok127 : FactOk flx127 := fact_ok (fcons flok27 fnil) flb127
theorem flok128 : FactOk flx128 := fact_ok (fcons flok27 fnil) flb128
theorem flok129 : FactOk flx129 := fact_ok (fcons flok27 fnil) flb129
theorem flok130 : FactOk flx130 := fact_ok (fcons flok27 fnil) flb130
theorem flok131 : FactOk flx131 := fact_ok (fcons flok27 fnil) flb131
theorem flok132 : FactOk flx132 := fact_ok (fcons flok27 fnil) flb132
theorem flok133 : FactOk flx133 := fact_ok (fcons flok27 fnil) flb133
theorem flok134 : FactOk flx134 := fact_ok (fcons flok27 fnil) flb134
theorem flok135 : FactOk flx135 := fact_ok (fcons flok27 fnil) flb135
theorem flok136 : FactOk flx136 := fact_ok (fcons flok27 fnil) flb136
theorem flok137 : FactOk flx137 := fact_ok (fcons flok27 fnil) flb137
theorem flok138 : FactOk flx138 := fact_ok (fcons flok27 fnil) flb138
theorem flok139 : FactOk flx139 := fact_ok (fcons flok27 fnil) flb139
theorem flok140 : FactOk flx140 := fact_ok (fcons flok27 fnil) flb140
theorem flok141 : FactOk flx141 := fact_ok (fcons flok27 fnil) flb141
theorem flok142 : FactOk flx142 := fact_ok (fcons flok27 fnil) flb142
theorem flok143 : FactOk flx143 := fact_ok (fcons flok27 fnil) flb143
theorem flok144 : FactOk flx144 := fact_ok (fcons flok27 fnil) flb144
theorem flok145 : FactOk flx145 := fact_ok (fcons flok27 fnil) flb145
theorem flok146 : FactOk flx146 := fact_ok (fcons flok27 fnil) flb146
theorem flok147 : FactOk flx147 := fact_ok (fcons flok27 fnil) flb147
theorem flok148 : FactOk flx148 := fact_ok (fcons flok27 fnil) flb148
theorem flok149 : FactOk flx149 := fact_ok (fcons flok27 fnil) flb149
theorem flok150 : FactOk flx150 := fact_ok (fcons flok27 fnil) flb150
theorem flok151 : FactOk flx151 := fact_ok (fcons flok27 fnil) flb151
theorem flok152 : FactOk flx152 := fact_ok (fcons flok27 fnil) flb152
theorem flok153 : FactOk flx153 := fact_ok (fcons flok27 fnil) flb153
theorem flok154 : FactOk flx154 := fact_ok (fcons flok27 fnil) flb154
theorem flok155 : FactOk flx155 := fact_ok (fcons flok27 fnil) flb155
theorem flok156 : FactOk flx156 := fact_ok (fcons flok27 fnil) flb156
theorem flok157 : FactOk flx157 := fact_ok (fcons flok27 fnil) flb157
theorem flok158 : FactOk flx158 := fact_ok (fcons flok27 fnil) flb158
theorem flok159 : FactOk flx159 := fact_ok (fcons flok27 fnil) flb159
theorem flok160 : FactOk flx160 := fact_ok (fcons flok29 (fcons flok30 (fcons flok31 (fcons flok32 (fcons flok33 (fcons flok34 (fcons flok35 (fcons flok36 (fcons flok37 (fcons flok38 (fcons flok39 (fcons flok40 (fcons flok41 (fcons flok42 (fcons flok43 (fcons flok44 (fcons flok45 (fcons flok46 (fcons flok47 (fcons flok48 (fcons flok49 (fcons flok50 (fcons flok51 (fcons flok52 (fcons flok53 (fcons flok54 (fcons flok55 (fcons flok56 (fcons flok57 (fcons flok58 (fcons flok59 (fcons flok60 (fcons flok61 (fcons flok62 (fcons flok63 (fcons flok64 (fcons flok65 (fcons flok66 (fcons flok67 (fcons flok68 (fcons flok69 (fcons flok70 (fcons flok71 (fcons flok72 (fcons flok73 (fcons flok74 (fcons flok75 (fcons flok76 (fcons flok77 (fcons flok78 (fcons flok79 (fcons flok80 (fcons flok81 (fcons flok82 (fcons flok83 (fcons flok84 (fcons flok85 (fcons flok86 (fcons flok87 (fcons flok88 (fcons flok89 (fcons flok90 (fcons flok91 (fcons flok92 (fcons flok93 (fcons flok94 (fcons flok95 (fcons flok96 (fcons flok97 (fcons flok98 (fcons flok99 (fcons flok100 (fcons flok101 (fcons flok102 (fcons flok103 (fcons flok104 (fcons flok105 (fcons flok106 (fcons flok107 (fcons flok108 (fcons flok109 (fcons flok110 (fcons flok111 (fcons flok112 (fcons flok113 (fcons flok114 (fcons flok115 (fcons flok116 (fcons flok117 (fcons flok118 (fcons flok119 (fcons flok120 (fcons flok121 (fcons flok122 (fcons flok123 (fcons flok124 (fcons flok125 (fcons flok126 (fcons flok127 (fcons flok128 (fcons flok129 (fcons flok130 (fcons flok131 (fcons flok132 (fcons flok133 (fcons flok134 (fcons flok135 (fcons flok136 (fcons flok137 (fcons flok138 (fcons flok139 (fcons flok140 (fcons flok141 (fcons flok142 (fcons flok143 (fcons flok144 (fcons flok145 (fcons flok146 (fcons flok147 (fcons flok148 (fcons flok149 (fcons flok150 (fcons flok151 (fcons flok152 (fcons flok153 (fcons flok154 (fcons flok155 (fcons flok156 (fcons flok157 (fcons flok158 (fcons flok159 fnil))))))))))))))))))))))))))))))))))))))))))))))))))))))))))))))))))))))))))))))))))))))))))))))))))))))))))))))))))))))))))))))))))) flb160
theorem flok161 : FactOk flx161 := fact_ok (fcons flok27 fnil) flb161
theorem flok162 : FactOk flx162 := fact_ok fnil flb162
theorem flok163 : FactAt flq1 flx163 := FactAt.args (flok162.at _) (by kernel_rfl) (by kernel_rfl)
theorem flok164 : FactOk flx164 := fact_ok fnil flb164
theorem flok165 : FactOk flx165 := fact_ok (fcons flok0 (fcons flok2 (fcons flok164 (fcons flok4 (fcons flok24 fnil))))) flb165
theorem flok166 : FactAt flq1 flx166 := FactAt.res (flok165.at _) (by kernel_rfl) (by kernel_rfl)
theorem flok167 : FactOk flx167 := fact_ok fnil flb167
theorem flok168 : FactAt flq2 flx168 := FactAt.args (flok167.at _) (by kernel_rfl) (by kernel_rfl)
theorem flok169 : FactOk flx169 := fact_ok fnil flb169
theorem flok170 : FactOk flx170 := fact_ok (fcons flok0 (fcons flok2 (fcons flok169 (fcons flok4 (fcons flok24 fnil))))) flb170
theorem flok171 : FactAt flq2 flx171 := FactAt.res (flok170.at _) (by kernel_rfl) (by kernel_rfl)
theorem flok172 : FactOk flx172 := fact_ok fnil flb172
theorem flok173 : FactAt flq3 flx173 := FactAt.args (flok172.at _) (by kernel_rfl) (by kernel_rfl)
theorem flok174 : FactOk flx174 := fact_ok fnil flb174
theorem flok175 : FactOk flx175 := fact_ok (fcons flok0 (fcons flok2 (fcons flok174 (fcons flok4 (fcons flok24 fnil))))) flb175
theorem flok176 : FactAt flq3 flx176 := FactAt.res (flok175.at _) (by kernel_rfl) (by kernel_rfl)
theorem flok177 : FactOk flx177 := fact_ok fnil flb177
theorem flok178 : FactAt flq4 flx178 := FactAt.args (flok177.at _) (by kernel_rfl) (by kernel_rfl)
theorem flok179 : FactOk flx179 := fact_ok fnil flb179
theorem flok180 : FactOk flx180 := fact_ok (fcons flok0 (fcons flok2 (fcons flok179 (fcons flok4 (fcons flok24 fnil))))) flb180
theorem flok181 : FactAt flq4 flx181 := FactAt.res (flok180.at _) (by kernel_rfl) (by kernel_rfl)
theorem fltop0 {θ : Nat → Int} (hq : EqsOk θ flq0) : MemoOk θ Tryz.prog gl (memoOf [flx20, flx22, flx26, flx8, flx28, flx160, flx161]) ∧ trueB (callM (memoOf [flx20, flx22, flx26, flx8, flx28, flx160, flx161]) 9 [.sym .u8 (.mk (.ofNat 0) [.mk (.ofNat 1) 0 (.ofNat 0) (.ofNat 255)])] emptyH) = true := ⟨memo_at hq (acons (flok20.at _) (acons flok22 (acons flok26 (acons (flok8.at _) (acons (flok28.at _) (acons (flok160.at _) (acons (flok161.at _) anil))))))), flt0⟩
theorem fltop1 {θ : Nat → Int} (hq : EqsOk θ flq1) : MemoOk θ Tryz.prog gl (memoOf [flx20, flx163, flx166, flx8, flx28, flx160, flx161]) ∧ trueB (callM (memoOf [flx20, flx163, flx166, flx8, flx28, flx160, flx161]) 9 [.sym .u8 (.mk (.ofNat 0) [.mk (.ofNat 1) 0 (.ofNat 0) (.ofNat 255)])] emptyH) = true := ⟨memo_at hq (acons (flok20.at _) (acons flok163 (acons flok166 (acons (flok8.at _) (acons (flok28.at _) (acons (flok160.at _) (acons (flok161.at _) anil))))))), flt1⟩
theorem fltop2 {θ : Nat → Int} (hq : EqsOk θ flq2) : MemoOk θ Tryz.prog gl (memoOf [flx20, flx168, flx171, flx8, flx28, flx160, flx161]) ∧ trueB (callM (memoOf [flx20, flx168, flx171, flx8, flx28, flx160, flx161]) 9 [.sym .u8 (.mk (.ofNat 0) [.mk (.ofNat 1) 0 (.ofNat 0) (.ofNat 255)])] emptyH) = true := ⟨memo_at hq (acons (flok20.at _) (acons flok168 (acons flok171 (acons (flok8.at _) (acons (flok28.at _) (acons (flok160.at _) (acons (flok161.at _) anil))))))), flt2⟩
theorem fltop3 {θ : Nat → Int} (hq : EqsOk θ flq3) : MemoOk θ Tryz.prog gl (memoOf [flx20, flx173, flx176, flx8, flx28, flx160, flx161]) ∧ trueB (callM (memoOf [flx20, flx173, flx176, flx8, flx28, flx160, flx161]) 9 [.sym .u8 (.mk (.ofNat 0) [.mk (.ofNat 1) 0 (.ofNat 0) (.ofNat 255)])] emptyH) = true := ⟨memo_at hq (acons (flok20.at _) (acons flok173 (acons flok176 (acons (flok8.at _) (acons (flok28.at _) (acons (flok160.at _) (acons (flok161.at _) anil))))))), flt3⟩
theorem fltop4 {θ : Nat → Int} (hq : EqsOk θ flq4) : MemoOk θ Tryz.prog gl (memoOf [flx20, flx178, flx181, flx8, flx28, flx160, flx161]) ∧ trueB (callM (memoOf [flx20, flx178, flx181, flx8, flx28, flx160, flx161]) 9 [.sym .u8 (.mk (.ofNat 0) [.mk (.ofNat 1) 0 (.ofNat 0) (.ofNat 255)])] emptyH) = true := ⟨memo_at hq (acons (flok20.at _) (acons flok178 (acons flok181 (acons (flok8.at _) (acons (flok28.at _) (acons (flok160.at _) (acons (flok161.at _) anil))))))), flt4⟩
end
end Go.Ev
end
