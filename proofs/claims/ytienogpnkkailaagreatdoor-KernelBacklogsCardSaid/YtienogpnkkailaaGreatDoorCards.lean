/-
  DERIVED. GIVEN WITH THE SEED: THE CARDS: each row of YtienogpnkkailaaGreatDoorRows.lean that lists a variable, with what it lists TIED to the program's text (the seventh form; the later family's looks); each row that meets fmt, with fmt's text TOLD by the authors' own Lean function (tested against real Go, not proved from fmt's source: count such statements apart). THE CARD IS WHAT COUNTS. Prove the row's statement (the work); the ties are given (YtienogpnkkailaaGreatDoorTie.lean); close each card by the builder's one call (the guide's Derived/Test/ToyasCard.lean, 'card_holds'). Laid BY PROGRAM, IN A SANDBOX (cutbox-door.mjs). By AI agents, Wed Nov 11 2026. No macro, syntax, notation, axiom, sorry.
-/
import Derived.Test.YtienogpnkkailaaGreatDoorRows
import GoSem.ClaimSeven
namespace Go.Proofs.YtienogpnkkailaaGreatDoor
namespace Rows

/-- THE TIED CARD OF 'clusterkernellaw20.KernelOpens'. -/
def kernelOpensCard : Claim7 := { stood := { row := kernelOpensRow, standIns := [], harness := (true, "77d9c3df0ced6d5fda87a92ddba398b4105772a51bd536b68bc792f1b826deb3"), looks := false }, kinds := [], alts := [], laidByText := true, laidKinds := [.data, .widerDeep, .pinned], laidTests := true, laidLooks := .later }
def KernelOpensCardSaid : Prop := Claim7.holds Tryz.pinned (.plain (OpenSpec.ofChange kernelOpensSpec)) kernelOpensCard

/-- THE TIED CARD OF 'clusterkernellaw20.KernelSignals'. -/
def kernelSignalsCard : Claim7 := { stood := { row := kernelSignalsRow, standIns := [], harness := (true, "77d9c3df0ced6d5fda87a92ddba398b4105772a51bd536b68bc792f1b826deb3"), looks := false }, kinds := [], alts := [], laidByText := true, laidKinds := [.data, .widerDeep, .pinned], laidTests := true, laidLooks := .later }
def KernelSignalsCardSaid : Prop := Claim7.holds Tryz.pinned (.plain (OpenSpec.ofChange kernelSignalsSpec)) kernelSignalsCard

/-- THE TIED CARD OF 'clusterkernellaw20.KernelCalls'. -/
def kernelCallsCard : Claim7 := { stood := { row := kernelCallsRow, standIns := [], harness := (true, "77d9c3df0ced6d5fda87a92ddba398b4105772a51bd536b68bc792f1b826deb3"), looks := false }, kinds := [], alts := [], laidByText := true, laidKinds := [.data, .widerDeep, .pinned], laidTests := true, laidLooks := .later }
def KernelCallsCardSaid : Prop := Claim7.holds Tryz.pinned (.plain (OpenSpec.ofChange kernelCallsSpec)) kernelCallsCard

/-- THE TIED CARD OF 'clusterkernellaw20.KernelOrphans'. -/
def kernelOrphansCard : Claim7 := { stood := { row := kernelOrphansRow, standIns := [], harness := (true, "77d9c3df0ced6d5fda87a92ddba398b4105772a51bd536b68bc792f1b826deb3"), looks := false }, kinds := [], alts := [], laidByText := true, laidKinds := [.data, .widerDeep, .pinned], laidTests := true, laidLooks := .later }
def KernelOrphansCardSaid : Prop := Claim7.holds Tryz.pinned (.plain (OpenSpec.ofChange kernelOrphansSpec)) kernelOrphansCard

/-- THE TIED CARD OF 'clusterkernellaw20.KernelFaults'. -/
def kernelFaultsCard : Claim7 := { stood := { row := kernelFaultsRow, standIns := [], harness := (true, "77d9c3df0ced6d5fda87a92ddba398b4105772a51bd536b68bc792f1b826deb3"), looks := false }, kinds := [], alts := [], laidByText := true, laidKinds := [.data, .widerDeep, .pinned], laidTests := true, laidLooks := .later }
def KernelFaultsCardSaid : Prop := Claim7.holds Tryz.pinned (.plain (OpenSpec.ofChange kernelFaultsSpec)) kernelFaultsCard

/-- THE TIED CARD OF 'clusterkernellaw20.KernelErrors'. -/
def kernelErrorsCard : Claim7 := { stood := { row := kernelErrorsRow, standIns := [], harness := (true, "77d9c3df0ced6d5fda87a92ddba398b4105772a51bd536b68bc792f1b826deb3"), looks := false }, kinds := [], alts := [], laidByText := true, laidKinds := [.data, .widerDeep, .pinned], laidTests := true, laidLooks := .later }
def KernelErrorsCardSaid : Prop := Claim7.holds Tryz.pinned (.plain (OpenSpec.ofChange kernelErrorsSpec)) kernelErrorsCard

/-- THE TIED CARD OF 'clusterkernellaw20.KernelFills'. -/
def kernelFillsCard : Claim7 := { stood := { row := kernelFillsRow, standIns := [], harness := (true, "77d9c3df0ced6d5fda87a92ddba398b4105772a51bd536b68bc792f1b826deb3"), looks := false }, kinds := [], alts := [], laidByText := true, laidKinds := [.data, .widerDeep, .pinned], laidTests := true, laidLooks := .later }
def KernelFillsCardSaid : Prop := Claim7.holds Tryz.pinned (.plain (OpenSpec.ofChange kernelFillsSpec)) kernelFillsCard

/-- THE TIED CARD OF 'clusterkernellaw20.KernelAsks'. -/
def kernelAsksCard : Claim7 := { stood := { row := kernelAsksRow, standIns := [], harness := (true, "77d9c3df0ced6d5fda87a92ddba398b4105772a51bd536b68bc792f1b826deb3"), looks := false }, kinds := [], alts := [], laidByText := true, laidKinds := [.data, .widerDeep, .pinned], laidTests := true, laidLooks := .later }
def KernelAsksCardSaid : Prop := Claim7.holds Tryz.pinned (.plain (OpenSpec.ofChange kernelAsksSpec)) kernelAsksCard

/-- THE TIED CARD OF 'clusterkernellaw20.KernelPids'. -/
def kernelPidsCard : Claim7 := { stood := { row := kernelPidsRow, standIns := [], harness := (true, "77d9c3df0ced6d5fda87a92ddba398b4105772a51bd536b68bc792f1b826deb3"), looks := false }, kinds := [], alts := [], laidByText := true, laidKinds := [.data, .widerDeep, .pinned], laidTests := true, laidLooks := .later }
def KernelPidsCardSaid : Prop := Claim7.holds Tryz.pinned (.plain (OpenSpec.ofChange kernelPidsSpec)) kernelPidsCard

/-- THE TIED CARD OF 'clusterkernellaw20.KernelDups'. -/
def kernelDupsCard : Claim7 := { stood := { row := kernelDupsRow, standIns := [], harness := (true, "77d9c3df0ced6d5fda87a92ddba398b4105772a51bd536b68bc792f1b826deb3"), looks := false }, kinds := [], alts := [], laidByText := true, laidKinds := [.data, .widerDeep, .pinned], laidTests := true, laidLooks := .later }
def KernelDupsCardSaid : Prop := Claim7.holds Tryz.pinned (.plain (OpenSpec.ofChange kernelDupsSpec)) kernelDupsCard

/-- THE TIED CARD OF 'clusterkernellaw20.KernelBacklogs'. -/
def kernelBacklogsCard : Claim7 := { stood := { row := kernelBacklogsRow, standIns := [], harness := (true, "77d9c3df0ced6d5fda87a92ddba398b4105772a51bd536b68bc792f1b826deb3"), looks := false }, kinds := [], alts := [], laidByText := true, laidKinds := [.data, .widerDeep, .pinned], laidTests := true, laidLooks := .later }
def KernelBacklogsCardSaid : Prop := Claim7.holds Tryz.pinned (.plain (OpenSpec.ofChange kernelBacklogsSpec)) kernelBacklogsCard

/-- THE TIED CARD OF 'clusterkernellaw20.KernelSeeks'. -/
def kernelSeeksCard : Claim7 := { stood := { row := kernelSeeksRow, standIns := [], harness := (true, "77d9c3df0ced6d5fda87a92ddba398b4105772a51bd536b68bc792f1b826deb3"), looks := false }, kinds := [], alts := [], laidByText := true, laidKinds := [.data, .widerDeep, .pinned], laidTests := true, laidLooks := .later }
def KernelSeeksCardSaid : Prop := Claim7.holds Tryz.pinned (.plain (OpenSpec.ofChange kernelSeeksSpec)) kernelSeeksCard

/-- THE TIED CARD OF 'clusterkernellaw20.KernelGrand'. -/
def kernelGrandCard : Claim7 := { stood := { row := kernelGrandRow, standIns := [], harness := (true, "77d9c3df0ced6d5fda87a92ddba398b4105772a51bd536b68bc792f1b826deb3"), looks := false }, kinds := [], alts := [], laidByText := true, laidKinds := [.data, .widerDeep, .pinned], laidTests := true, laidLooks := .later }
def KernelGrandCardSaid : Prop := Claim7.holds Tryz.pinned (.plain (OpenSpec.ofChange kernelGrandSpec)) kernelGrandCard

/-- THE TIED CARD OF 'clusterkernellaw20.KernelAlarms'. -/
def kernelAlarmsCard : Claim7 := { stood := { row := kernelAlarmsRow, standIns := [], harness := (true, "77d9c3df0ced6d5fda87a92ddba398b4105772a51bd536b68bc792f1b826deb3"), looks := false }, kinds := [], alts := [], laidByText := true, laidKinds := [.data, .widerDeep, .pinned], laidTests := true, laidLooks := .later }
def KernelAlarmsCardSaid : Prop := Claim7.holds Tryz.pinned (.plain (OpenSpec.ofChange kernelAlarmsSpec)) kernelAlarmsCard

/-- THE SECOND FORM's CARD OF 'clusterkernellaw20.KernelOpens'. -/
def kernelOpensUptoCard : Claim7 := { stood := { row := kernelOpensUptoRow, standIns := [], harness := (true, "77d9c3df0ced6d5fda87a92ddba398b4105772a51bd536b68bc792f1b826deb3"), looks := false }, kinds := [], alts := [], laidByText := true, laidKinds := [.data, .widerDeep, .pinned], laidTests := true, laidLooks := .later }
def KernelOpensUptoCardSaid : Prop := Claim7.holds Tryz.pinned (.plain (OpenSpec.upto kernelOpensSpec)) kernelOpensUptoCard

/-- THE SECOND FORM's CARD OF 'clusterkernellaw20.KernelSignals'. -/
def kernelSignalsUptoCard : Claim7 := { stood := { row := kernelSignalsUptoRow, standIns := [], harness := (true, "77d9c3df0ced6d5fda87a92ddba398b4105772a51bd536b68bc792f1b826deb3"), looks := false }, kinds := [], alts := [], laidByText := true, laidKinds := [.data, .widerDeep, .pinned], laidTests := true, laidLooks := .later }
def KernelSignalsUptoCardSaid : Prop := Claim7.holds Tryz.pinned (.plain (OpenSpec.upto kernelSignalsSpec)) kernelSignalsUptoCard

/-- THE SECOND FORM's CARD OF 'clusterkernellaw20.KernelCalls'. -/
def kernelCallsUptoCard : Claim7 := { stood := { row := kernelCallsUptoRow, standIns := [], harness := (true, "77d9c3df0ced6d5fda87a92ddba398b4105772a51bd536b68bc792f1b826deb3"), looks := false }, kinds := [], alts := [], laidByText := true, laidKinds := [.data, .widerDeep, .pinned], laidTests := true, laidLooks := .later }
def KernelCallsUptoCardSaid : Prop := Claim7.holds Tryz.pinned (.plain (OpenSpec.upto kernelCallsSpec)) kernelCallsUptoCard

/-- THE SECOND FORM's CARD OF 'clusterkernellaw20.KernelOrphans'. -/
def kernelOrphansUptoCard : Claim7 := { stood := { row := kernelOrphansUptoRow, standIns := [], harness := (true, "77d9c3df0ced6d5fda87a92ddba398b4105772a51bd536b68bc792f1b826deb3"), looks := false }, kinds := [], alts := [], laidByText := true, laidKinds := [.data, .widerDeep, .pinned], laidTests := true, laidLooks := .later }
def KernelOrphansUptoCardSaid : Prop := Claim7.holds Tryz.pinned (.plain (OpenSpec.upto kernelOrphansSpec)) kernelOrphansUptoCard

/-- THE SECOND FORM's CARD OF 'clusterkernellaw20.KernelFaults'. -/
def kernelFaultsUptoCard : Claim7 := { stood := { row := kernelFaultsUptoRow, standIns := [], harness := (true, "77d9c3df0ced6d5fda87a92ddba398b4105772a51bd536b68bc792f1b826deb3"), looks := false }, kinds := [], alts := [], laidByText := true, laidKinds := [.data, .widerDeep, .pinned], laidTests := true, laidLooks := .later }
def KernelFaultsUptoCardSaid : Prop := Claim7.holds Tryz.pinned (.plain (OpenSpec.upto kernelFaultsSpec)) kernelFaultsUptoCard

/-- THE SECOND FORM's CARD OF 'clusterkernellaw20.KernelErrors'. -/
def kernelErrorsUptoCard : Claim7 := { stood := { row := kernelErrorsUptoRow, standIns := [], harness := (true, "77d9c3df0ced6d5fda87a92ddba398b4105772a51bd536b68bc792f1b826deb3"), looks := false }, kinds := [], alts := [], laidByText := true, laidKinds := [.data, .widerDeep, .pinned], laidTests := true, laidLooks := .later }
def KernelErrorsUptoCardSaid : Prop := Claim7.holds Tryz.pinned (.plain (OpenSpec.upto kernelErrorsSpec)) kernelErrorsUptoCard

/-- THE SECOND FORM's CARD OF 'clusterkernellaw20.KernelFills'. -/
def kernelFillsUptoCard : Claim7 := { stood := { row := kernelFillsUptoRow, standIns := [], harness := (true, "77d9c3df0ced6d5fda87a92ddba398b4105772a51bd536b68bc792f1b826deb3"), looks := false }, kinds := [], alts := [], laidByText := true, laidKinds := [.data, .widerDeep, .pinned], laidTests := true, laidLooks := .later }
def KernelFillsUptoCardSaid : Prop := Claim7.holds Tryz.pinned (.plain (OpenSpec.upto kernelFillsSpec)) kernelFillsUptoCard

/-- THE SECOND FORM's CARD OF 'clusterkernellaw20.KernelAsks'. -/
def kernelAsksUptoCard : Claim7 := { stood := { row := kernelAsksUptoRow, standIns := [], harness := (true, "77d9c3df0ced6d5fda87a92ddba398b4105772a51bd536b68bc792f1b826deb3"), looks := false }, kinds := [], alts := [], laidByText := true, laidKinds := [.data, .widerDeep, .pinned], laidTests := true, laidLooks := .later }
def KernelAsksUptoCardSaid : Prop := Claim7.holds Tryz.pinned (.plain (OpenSpec.upto kernelAsksSpec)) kernelAsksUptoCard

/-- THE SECOND FORM's CARD OF 'clusterkernellaw20.KernelPids'. -/
def kernelPidsUptoCard : Claim7 := { stood := { row := kernelPidsUptoRow, standIns := [], harness := (true, "77d9c3df0ced6d5fda87a92ddba398b4105772a51bd536b68bc792f1b826deb3"), looks := false }, kinds := [], alts := [], laidByText := true, laidKinds := [.data, .widerDeep, .pinned], laidTests := true, laidLooks := .later }
def KernelPidsUptoCardSaid : Prop := Claim7.holds Tryz.pinned (.plain (OpenSpec.upto kernelPidsSpec)) kernelPidsUptoCard

/-- THE SECOND FORM's CARD OF 'clusterkernellaw20.KernelDups'. -/
def kernelDupsUptoCard : Claim7 := { stood := { row := kernelDupsUptoRow, standIns := [], harness := (true, "77d9c3df0ced6d5fda87a92ddba398b4105772a51bd536b68bc792f1b826deb3"), looks := false }, kinds := [], alts := [], laidByText := true, laidKinds := [.data, .widerDeep, .pinned], laidTests := true, laidLooks := .later }
def KernelDupsUptoCardSaid : Prop := Claim7.holds Tryz.pinned (.plain (OpenSpec.upto kernelDupsSpec)) kernelDupsUptoCard

/-- THE SECOND FORM's CARD OF 'clusterkernellaw20.KernelBacklogs'. -/
def kernelBacklogsUptoCard : Claim7 := { stood := { row := kernelBacklogsUptoRow, standIns := [], harness := (true, "77d9c3df0ced6d5fda87a92ddba398b4105772a51bd536b68bc792f1b826deb3"), looks := false }, kinds := [], alts := [], laidByText := true, laidKinds := [.data, .widerDeep, .pinned], laidTests := true, laidLooks := .later }
def KernelBacklogsUptoCardSaid : Prop := Claim7.holds Tryz.pinned (.plain (OpenSpec.upto kernelBacklogsSpec)) kernelBacklogsUptoCard

/-- THE SECOND FORM's CARD OF 'clusterkernellaw20.KernelSeeks'. -/
def kernelSeeksUptoCard : Claim7 := { stood := { row := kernelSeeksUptoRow, standIns := [], harness := (true, "77d9c3df0ced6d5fda87a92ddba398b4105772a51bd536b68bc792f1b826deb3"), looks := false }, kinds := [], alts := [], laidByText := true, laidKinds := [.data, .widerDeep, .pinned], laidTests := true, laidLooks := .later }
def KernelSeeksUptoCardSaid : Prop := Claim7.holds Tryz.pinned (.plain (OpenSpec.upto kernelSeeksSpec)) kernelSeeksUptoCard

/-- THE SECOND FORM's CARD OF 'clusterkernellaw20.KernelGrand'. -/
def kernelGrandUptoCard : Claim7 := { stood := { row := kernelGrandUptoRow, standIns := [], harness := (true, "77d9c3df0ced6d5fda87a92ddba398b4105772a51bd536b68bc792f1b826deb3"), looks := false }, kinds := [], alts := [], laidByText := true, laidKinds := [.data, .widerDeep, .pinned], laidTests := true, laidLooks := .later }
def KernelGrandUptoCardSaid : Prop := Claim7.holds Tryz.pinned (.plain (OpenSpec.upto kernelGrandSpec)) kernelGrandUptoCard

/-- THE SECOND FORM's CARD OF 'clusterkernellaw20.KernelAlarms'. -/
def kernelAlarmsUptoCard : Claim7 := { stood := { row := kernelAlarmsUptoRow, standIns := [], harness := (true, "77d9c3df0ced6d5fda87a92ddba398b4105772a51bd536b68bc792f1b826deb3"), looks := false }, kinds := [], alts := [], laidByText := true, laidKinds := [.data, .widerDeep, .pinned], laidTests := true, laidLooks := .later }
def KernelAlarmsUptoCardSaid : Prop := Claim7.holds Tryz.pinned (.plain (OpenSpec.upto kernelAlarmsSpec)) kernelAlarmsUptoCard
end Rows
end Go.Proofs.YtienogpnkkailaaGreatDoor
