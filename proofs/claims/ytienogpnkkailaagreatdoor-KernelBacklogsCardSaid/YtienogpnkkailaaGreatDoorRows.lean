/-
  NARROWER THAN 'FOR EVERY INPUT', by the rows' own cells (each row's printed sentence says how): KernelOpens: laid · KernelSignals: laid · KernelCalls: laid · KernelOrphans: laid · KernelFaults: laid · KernelErrors: laid · KernelFills: laid · KernelAsks: laid · KernelPids: laid · KernelDups: laid · KernelBacklogs: laid · KernelSeeks: laid · KernelGrand: laid · KernelAlarms: laid.
  DERIVED. THE GIVEN ROWS OF THIS SEAT. 14 by the template 'for every input the law returns true; each argument reads behind the call as it read before'; 0 by the template 'total and deterministic' (their statements: YtienogpnkkailaaGreatDoorTotals.lean).
  GIVEN WITH THE SEED: the statements are not yours to turn. If you find one false, say at which input.
  Laid BY PROGRAM, IN A SANDBOX (cutbox-rows.mjs): the forced cells as the released guide's own fill.sh prints them over the translation 752ddf2a72aa9a2a… (all of the seat's roots in one cut). By AI agents, Wed Nov 11 2026. No macro, syntax, notation, axiom, sorry.
-/
import Derived.Test.YtienogpnkkailaaGreatDoorChecked
import GoSem.PinnedTables
import GoSem.Claim
import GoSem.ClaimJoined
import GoSem.ClaimMapViews
import Derived.JoinedTies
import Derived.KernelRfl
namespace Go.Proofs.YtienogpnkkailaaGreatDoor
/- THE CELL 'sum', in the pinned program and in every row, IS THE sha256 OF THE DUMP (.gsa) THAT YtienogpnkkailaaGreatDoorProg.lean LOADS. Nothing in Lean hashes anything: it is a label: what it is worth is what the hold of that sum in a sandbox is worth. -/
noncomputable def Tryz.pinned : Pinned := { name := "ytienogpnkkailaagreatdoor", sum := "752ddf2a72aa9a2a08bfc97628a7ffd6fb36f8efa8b8956fae054c09039bdf26", checked := Tryz.checked }
namespace Rows
def none {H : Type} : Left H := { results := [], args := [] }

/- WHAT THE LISTED PACKAGE-LEVEL VARIABLES READ AS WHEN THE CALL BEGINS. Each datum BY PROGRAM (the guide's laid-datum.mjs) off the statement by which the dump's own 'gosem.cut.vars' lays the variable. In a bare row this is a premise. The card (YtienogpnkkailaaGreatDoorCards.lean) ties it to the program's text. -/
def laid_unicode_utf8_acceptRanges {H : Type} : DataW H := .agg [.agg [.lit (.int .u8 128), .lit (.int .u8 191)], .agg [.lit (.int .u8 160), .lit (.int .u8 191)], .agg [.lit (.int .u8 128), .lit (.int .u8 159)], .agg [.lit (.int .u8 144), .lit (.int .u8 191)], .agg [.lit (.int .u8 128), .lit (.int .u8 143)], .agg [.lit (.int .u8 0), .lit (.int .u8 0)], .agg [.lit (.int .u8 0), .lit (.int .u8 0)], .agg [.lit (.int .u8 0), .lit (.int .u8 0)], .agg [.lit (.int .u8 0), .lit (.int .u8 0)], .agg [.lit (.int .u8 0), .lit (.int .u8 0)], .agg [.lit (.int .u8 0), .lit (.int .u8 0)], .agg [.lit (.int .u8 0), .lit (.int .u8 0)], .agg [.lit (.int .u8 0), .lit (.int .u8 0)], .agg [.lit (.int .u8 0), .lit (.int .u8 0)], .agg [.lit (.int .u8 0), .lit (.int .u8 0)], .agg [.lit (.int .u8 0), .lit (.int .u8 0)]]
def laid_clusterkernel_code_forms {H : Type} : DataW H := .agg [.agg [.lit (.string [110, 111, 112]), .lit (.string [])], .agg [.lit (.string [115, 101, 116]), .lit (.string [114, 110])], .agg [.lit (.string [109, 111, 118, 101]), .lit (.string [114, 114])], .agg [.lit (.string [97, 100, 100]), .lit (.string [114, 114, 114])], .agg [.lit (.string [115, 117, 98]), .lit (.string [114, 114, 114])], .agg [.lit (.string [109, 117, 108]), .lit (.string [114, 114, 114])], .agg [.lit (.string [108, 101, 115, 115]), .lit (.string [114, 114, 114])], .agg [.lit (.string [101, 113, 117, 97, 108]), .lit (.string [114, 114, 114])], .agg [.lit (.string [106, 117, 109, 112]), .lit (.string [116])], .agg [.lit (.string [105, 102]), .lit (.string [114, 116])], .agg [.lit (.string [108, 111, 97, 100]), .lit (.string [114, 114, 111])], .agg [.lit (.string [115, 116, 111, 114, 101]), .lit (.string [114, 114, 111])], .agg [.lit (.string [99, 97, 108, 108]), .lit (.string [99])]]
/-- One of Go's own tables, pinned by name: the form's constant. -/
def laid_unicode_utf8_first : DataW Unit := Go.Pinned.utf8First

/-- 'clusterkernellaw20.KernelOpens': WHATEVER THE INPUT: true; the input reads as it did. -/
def kernelOpensSpec : ChangeSpec := { name := "kernelOpens", fn := fun _ => fun
  | [d] => { results := [.lit (.bool true)], args := [d] }
  | _ => none }
def kernelOpensRow : OpenClaim := { program := "ytienogpnkkailaagreatdoor", sum := "752ddf2a72aa9a2a08bfc97628a7ffd6fb36f8efa8b8956fae054c09039bdf26", func := "clusterkernel/clusterkernellaw20.KernelOpens", spec := "kernelOpens", inPlace := ["internal/bytealg.CountString", "internal/bytealg.IndexByteString", "internal/bytealg.IndexString", "slices.overlaps[clusterkernel/api.Name]", "slices.overlaps[clusterkernel/api.Object]"], unfollowed := true, recurses := true, named := ["unicode/utf8.first", "unicode/utf8.acceptRanges", "internal/bytealg.MaxLen", "clusterkernel/code.forms"], apart := false, laid := [("unicode/utf8.acceptRanges", laid_unicode_utf8_acceptRanges), ("clusterkernel/code.forms", laid_clusterkernel_code_forms), ("unicode/utf8.first", laid_unicode_utf8_first)] }
def KernelOpensSaid : Prop := kernelOpensRow.holds Tryz.pinned (OpenSpec.ofChange kernelOpensSpec)

/-- ITS FALSE NEIGHBOUR: 'it returns false'. Refute it at one input. -/
def kernelOpensWrong : ChangeSpec := { name := "kernelOpens", fn := fun _ => fun
  | [d] => { results := [.lit (.bool false)], args := [d] }
  | _ => none }
def KernelOpensWrongFalsely : Prop := kernelOpensRow.holds Tryz.pinned (OpenSpec.ofChange kernelOpensWrong)

/-- 'clusterkernellaw20.KernelSignals': WHATEVER THE INPUT: true; the input reads as it did. -/
def kernelSignalsSpec : ChangeSpec := { name := "kernelSignals", fn := fun _ => fun
  | [d1, d2] => { results := [.lit (.bool true)], args := [d1, d2] }
  | _ => none }
def kernelSignalsRow : OpenClaim := { program := "ytienogpnkkailaagreatdoor", sum := "752ddf2a72aa9a2a08bfc97628a7ffd6fb36f8efa8b8956fae054c09039bdf26", func := "clusterkernel/clusterkernellaw20.KernelSignals", spec := "kernelSignals", inPlace := ["internal/bytealg.CountString", "internal/bytealg.IndexByteString", "internal/bytealg.IndexString", "slices.overlaps[clusterkernel/api.Name]", "slices.overlaps[clusterkernel/api.Object]"], unfollowed := true, recurses := true, named := ["unicode/utf8.first", "unicode/utf8.acceptRanges", "internal/bytealg.MaxLen", "clusterkernel/code.forms"], apart := false, laid := [("unicode/utf8.acceptRanges", laid_unicode_utf8_acceptRanges), ("clusterkernel/code.forms", laid_clusterkernel_code_forms), ("unicode/utf8.first", laid_unicode_utf8_first)] }
def KernelSignalsSaid : Prop := kernelSignalsRow.holds Tryz.pinned (OpenSpec.ofChange kernelSignalsSpec)

/-- ITS FALSE NEIGHBOUR: 'it returns false'. Refute it at one input. -/
def kernelSignalsWrong : ChangeSpec := { name := "kernelSignals", fn := fun _ => fun
  | [d1, d2] => { results := [.lit (.bool false)], args := [d1, d2] }
  | _ => none }
def KernelSignalsWrongFalsely : Prop := kernelSignalsRow.holds Tryz.pinned (OpenSpec.ofChange kernelSignalsWrong)

/-- 'clusterkernellaw20.KernelCalls': WHATEVER THE INPUT: true; the input reads as it did. -/
def kernelCallsSpec : ChangeSpec := { name := "kernelCalls", fn := fun _ => fun
  | [d1, d2] => { results := [.lit (.bool true)], args := [d1, d2] }
  | _ => none }
def kernelCallsRow : OpenClaim := { program := "ytienogpnkkailaagreatdoor", sum := "752ddf2a72aa9a2a08bfc97628a7ffd6fb36f8efa8b8956fae054c09039bdf26", func := "clusterkernel/clusterkernellaw20.KernelCalls", spec := "kernelCalls", inPlace := ["internal/bytealg.CountString", "internal/bytealg.IndexByteString", "internal/bytealg.IndexString", "slices.overlaps[clusterkernel/api.Name]", "slices.overlaps[clusterkernel/api.Object]"], unfollowed := true, recurses := true, named := ["unicode/utf8.first", "unicode/utf8.acceptRanges", "internal/bytealg.MaxLen", "clusterkernel/code.forms"], apart := false, laid := [("unicode/utf8.acceptRanges", laid_unicode_utf8_acceptRanges), ("clusterkernel/code.forms", laid_clusterkernel_code_forms), ("unicode/utf8.first", laid_unicode_utf8_first)] }
def KernelCallsSaid : Prop := kernelCallsRow.holds Tryz.pinned (OpenSpec.ofChange kernelCallsSpec)

/-- ITS FALSE NEIGHBOUR: 'it returns false'. Refute it at one input. -/
def kernelCallsWrong : ChangeSpec := { name := "kernelCalls", fn := fun _ => fun
  | [d1, d2] => { results := [.lit (.bool false)], args := [d1, d2] }
  | _ => none }
def KernelCallsWrongFalsely : Prop := kernelCallsRow.holds Tryz.pinned (OpenSpec.ofChange kernelCallsWrong)

/-- 'clusterkernellaw20.KernelOrphans': WHATEVER THE INPUT: true; the input reads as it did. -/
def kernelOrphansSpec : ChangeSpec := { name := "kernelOrphans", fn := fun _ => fun
  | [d] => { results := [.lit (.bool true)], args := [d] }
  | _ => none }
def kernelOrphansRow : OpenClaim := { program := "ytienogpnkkailaagreatdoor", sum := "752ddf2a72aa9a2a08bfc97628a7ffd6fb36f8efa8b8956fae054c09039bdf26", func := "clusterkernel/clusterkernellaw20.KernelOrphans", spec := "kernelOrphans", inPlace := ["internal/bytealg.CountString", "internal/bytealg.IndexByteString", "internal/bytealg.IndexString", "slices.overlaps[clusterkernel/api.Name]", "slices.overlaps[clusterkernel/api.Object]"], unfollowed := true, recurses := true, named := ["unicode/utf8.first", "unicode/utf8.acceptRanges", "internal/bytealg.MaxLen", "clusterkernel/code.forms"], apart := false, laid := [("unicode/utf8.acceptRanges", laid_unicode_utf8_acceptRanges), ("clusterkernel/code.forms", laid_clusterkernel_code_forms), ("unicode/utf8.first", laid_unicode_utf8_first)] }
def KernelOrphansSaid : Prop := kernelOrphansRow.holds Tryz.pinned (OpenSpec.ofChange kernelOrphansSpec)

/-- ITS FALSE NEIGHBOUR: 'it returns false'. Refute it at one input. -/
def kernelOrphansWrong : ChangeSpec := { name := "kernelOrphans", fn := fun _ => fun
  | [d] => { results := [.lit (.bool false)], args := [d] }
  | _ => none }
def KernelOrphansWrongFalsely : Prop := kernelOrphansRow.holds Tryz.pinned (OpenSpec.ofChange kernelOrphansWrong)

/-- 'clusterkernellaw20.KernelFaults': WHATEVER THE INPUT: true; the input reads as it did. -/
def kernelFaultsSpec : ChangeSpec := { name := "kernelFaults", fn := fun _ => fun
  | [d1, d2] => { results := [.lit (.bool true)], args := [d1, d2] }
  | _ => none }
def kernelFaultsRow : OpenClaim := { program := "ytienogpnkkailaagreatdoor", sum := "752ddf2a72aa9a2a08bfc97628a7ffd6fb36f8efa8b8956fae054c09039bdf26", func := "clusterkernel/clusterkernellaw20.KernelFaults", spec := "kernelFaults", inPlace := ["internal/bytealg.CountString", "internal/bytealg.IndexByteString", "internal/bytealg.IndexString", "slices.overlaps[clusterkernel/api.Name]", "slices.overlaps[clusterkernel/api.Object]"], unfollowed := true, recurses := true, named := ["unicode/utf8.first", "unicode/utf8.acceptRanges", "internal/bytealg.MaxLen", "clusterkernel/code.forms"], apart := false, laid := [("unicode/utf8.acceptRanges", laid_unicode_utf8_acceptRanges), ("clusterkernel/code.forms", laid_clusterkernel_code_forms), ("unicode/utf8.first", laid_unicode_utf8_first)] }
def KernelFaultsSaid : Prop := kernelFaultsRow.holds Tryz.pinned (OpenSpec.ofChange kernelFaultsSpec)

/-- ITS FALSE NEIGHBOUR: 'it returns false'. Refute it at one input. -/
def kernelFaultsWrong : ChangeSpec := { name := "kernelFaults", fn := fun _ => fun
  | [d1, d2] => { results := [.lit (.bool false)], args := [d1, d2] }
  | _ => none }
def KernelFaultsWrongFalsely : Prop := kernelFaultsRow.holds Tryz.pinned (OpenSpec.ofChange kernelFaultsWrong)

/-- 'clusterkernellaw20.KernelErrors': WHATEVER THE INPUT: true; the input reads as it did. -/
def kernelErrorsSpec : ChangeSpec := { name := "kernelErrors", fn := fun _ => fun
  | [d1, d2, d3] => { results := [.lit (.bool true)], args := [d1, d2, d3] }
  | _ => none }
def kernelErrorsRow : OpenClaim := { program := "ytienogpnkkailaagreatdoor", sum := "752ddf2a72aa9a2a08bfc97628a7ffd6fb36f8efa8b8956fae054c09039bdf26", func := "clusterkernel/clusterkernellaw20.KernelErrors", spec := "kernelErrors", inPlace := ["internal/bytealg.CountString", "internal/bytealg.IndexByteString", "internal/bytealg.IndexString", "slices.overlaps[clusterkernel/api.Name]", "slices.overlaps[clusterkernel/api.Object]"], unfollowed := true, recurses := true, named := ["unicode/utf8.first", "unicode/utf8.acceptRanges", "internal/bytealg.MaxLen", "clusterkernel/code.forms"], apart := false, laid := [("unicode/utf8.acceptRanges", laid_unicode_utf8_acceptRanges), ("clusterkernel/code.forms", laid_clusterkernel_code_forms), ("unicode/utf8.first", laid_unicode_utf8_first)] }
def KernelErrorsSaid : Prop := kernelErrorsRow.holds Tryz.pinned (OpenSpec.ofChange kernelErrorsSpec)

/-- ITS FALSE NEIGHBOUR: 'it returns false'. Refute it at one input. -/
def kernelErrorsWrong : ChangeSpec := { name := "kernelErrors", fn := fun _ => fun
  | [d1, d2, d3] => { results := [.lit (.bool false)], args := [d1, d2, d3] }
  | _ => none }
def KernelErrorsWrongFalsely : Prop := kernelErrorsRow.holds Tryz.pinned (OpenSpec.ofChange kernelErrorsWrong)

/-- 'clusterkernellaw20.KernelFills': WHATEVER THE INPUT: true; the input reads as it did. -/
def kernelFillsSpec : ChangeSpec := { name := "kernelFills", fn := fun _ => fun
  | [d] => { results := [.lit (.bool true)], args := [d] }
  | _ => none }
def kernelFillsRow : OpenClaim := { program := "ytienogpnkkailaagreatdoor", sum := "752ddf2a72aa9a2a08bfc97628a7ffd6fb36f8efa8b8956fae054c09039bdf26", func := "clusterkernel/clusterkernellaw20.KernelFills", spec := "kernelFills", inPlace := ["internal/bytealg.CountString", "internal/bytealg.IndexByteString", "internal/bytealg.IndexString", "slices.overlaps[clusterkernel/api.Name]", "slices.overlaps[clusterkernel/api.Object]"], unfollowed := true, recurses := true, named := ["unicode/utf8.first", "unicode/utf8.acceptRanges", "internal/bytealg.MaxLen", "clusterkernel/code.forms"], apart := false, laid := [("unicode/utf8.acceptRanges", laid_unicode_utf8_acceptRanges), ("clusterkernel/code.forms", laid_clusterkernel_code_forms), ("unicode/utf8.first", laid_unicode_utf8_first)] }
def KernelFillsSaid : Prop := kernelFillsRow.holds Tryz.pinned (OpenSpec.ofChange kernelFillsSpec)

/-- ITS FALSE NEIGHBOUR: 'it returns false'. Refute it at one input. -/
def kernelFillsWrong : ChangeSpec := { name := "kernelFills", fn := fun _ => fun
  | [d] => { results := [.lit (.bool false)], args := [d] }
  | _ => none }
def KernelFillsWrongFalsely : Prop := kernelFillsRow.holds Tryz.pinned (OpenSpec.ofChange kernelFillsWrong)

/-- 'clusterkernellaw20.KernelAsks': WHATEVER THE INPUT: true; the input reads as it did. -/
def kernelAsksSpec : ChangeSpec := { name := "kernelAsks", fn := fun _ => fun
  | [d1, d2] => { results := [.lit (.bool true)], args := [d1, d2] }
  | _ => none }
def kernelAsksRow : OpenClaim := { program := "ytienogpnkkailaagreatdoor", sum := "752ddf2a72aa9a2a08bfc97628a7ffd6fb36f8efa8b8956fae054c09039bdf26", func := "clusterkernel/clusterkernellaw20.KernelAsks", spec := "kernelAsks", inPlace := ["internal/bytealg.CountString", "internal/bytealg.IndexByteString", "internal/bytealg.IndexString", "slices.overlaps[clusterkernel/api.Name]", "slices.overlaps[clusterkernel/api.Object]"], unfollowed := true, recurses := true, named := ["unicode/utf8.first", "unicode/utf8.acceptRanges", "internal/bytealg.MaxLen", "clusterkernel/code.forms"], apart := false, laid := [("unicode/utf8.acceptRanges", laid_unicode_utf8_acceptRanges), ("clusterkernel/code.forms", laid_clusterkernel_code_forms), ("unicode/utf8.first", laid_unicode_utf8_first)] }
def KernelAsksSaid : Prop := kernelAsksRow.holds Tryz.pinned (OpenSpec.ofChange kernelAsksSpec)

/-- ITS FALSE NEIGHBOUR: 'it returns false'. Refute it at one input. -/
def kernelAsksWrong : ChangeSpec := { name := "kernelAsks", fn := fun _ => fun
  | [d1, d2] => { results := [.lit (.bool false)], args := [d1, d2] }
  | _ => none }
def KernelAsksWrongFalsely : Prop := kernelAsksRow.holds Tryz.pinned (OpenSpec.ofChange kernelAsksWrong)

/-- 'clusterkernellaw20.KernelPids': WHATEVER THE INPUT: true; the input reads as it did. -/
def kernelPidsSpec : ChangeSpec := { name := "kernelPids", fn := fun _ => fun
  | [d] => { results := [.lit (.bool true)], args := [d] }
  | _ => none }
def kernelPidsRow : OpenClaim := { program := "ytienogpnkkailaagreatdoor", sum := "752ddf2a72aa9a2a08bfc97628a7ffd6fb36f8efa8b8956fae054c09039bdf26", func := "clusterkernel/clusterkernellaw20.KernelPids", spec := "kernelPids", inPlace := ["internal/bytealg.CountString", "internal/bytealg.IndexByteString", "internal/bytealg.IndexString", "slices.overlaps[clusterkernel/api.Name]", "slices.overlaps[clusterkernel/api.Object]"], unfollowed := true, recurses := true, named := ["unicode/utf8.first", "unicode/utf8.acceptRanges", "internal/bytealg.MaxLen", "clusterkernel/code.forms"], apart := false, laid := [("unicode/utf8.acceptRanges", laid_unicode_utf8_acceptRanges), ("clusterkernel/code.forms", laid_clusterkernel_code_forms), ("unicode/utf8.first", laid_unicode_utf8_first)] }
def KernelPidsSaid : Prop := kernelPidsRow.holds Tryz.pinned (OpenSpec.ofChange kernelPidsSpec)

/-- ITS FALSE NEIGHBOUR: 'it returns false'. Refute it at one input. -/
def kernelPidsWrong : ChangeSpec := { name := "kernelPids", fn := fun _ => fun
  | [d] => { results := [.lit (.bool false)], args := [d] }
  | _ => none }
def KernelPidsWrongFalsely : Prop := kernelPidsRow.holds Tryz.pinned (OpenSpec.ofChange kernelPidsWrong)

/-- 'clusterkernellaw20.KernelDups': WHATEVER THE INPUT: true; the input reads as it did. -/
def kernelDupsSpec : ChangeSpec := { name := "kernelDups", fn := fun _ => fun
  | [d] => { results := [.lit (.bool true)], args := [d] }
  | _ => none }
def kernelDupsRow : OpenClaim := { program := "ytienogpnkkailaagreatdoor", sum := "752ddf2a72aa9a2a08bfc97628a7ffd6fb36f8efa8b8956fae054c09039bdf26", func := "clusterkernel/clusterkernellaw20.KernelDups", spec := "kernelDups", inPlace := ["internal/bytealg.CountString", "internal/bytealg.IndexByteString", "internal/bytealg.IndexString", "slices.overlaps[clusterkernel/api.Name]", "slices.overlaps[clusterkernel/api.Object]"], unfollowed := true, recurses := true, named := ["unicode/utf8.first", "unicode/utf8.acceptRanges", "internal/bytealg.MaxLen", "clusterkernel/code.forms"], apart := false, laid := [("unicode/utf8.acceptRanges", laid_unicode_utf8_acceptRanges), ("clusterkernel/code.forms", laid_clusterkernel_code_forms), ("unicode/utf8.first", laid_unicode_utf8_first)] }
def KernelDupsSaid : Prop := kernelDupsRow.holds Tryz.pinned (OpenSpec.ofChange kernelDupsSpec)

/-- ITS FALSE NEIGHBOUR: 'it returns false'. Refute it at one input. -/
def kernelDupsWrong : ChangeSpec := { name := "kernelDups", fn := fun _ => fun
  | [d] => { results := [.lit (.bool false)], args := [d] }
  | _ => none }
def KernelDupsWrongFalsely : Prop := kernelDupsRow.holds Tryz.pinned (OpenSpec.ofChange kernelDupsWrong)

/-- 'clusterkernellaw20.KernelBacklogs': WHATEVER THE INPUT: true; the input reads as it did. -/
def kernelBacklogsSpec : ChangeSpec := { name := "kernelBacklogs", fn := fun _ => fun
  | [d] => { results := [.lit (.bool true)], args := [d] }
  | _ => none }
def kernelBacklogsRow : OpenClaim := { program := "ytienogpnkkailaagreatdoor", sum := "752ddf2a72aa9a2a08bfc97628a7ffd6fb36f8efa8b8956fae054c09039bdf26", func := "clusterkernel/clusterkernellaw20.KernelBacklogs", spec := "kernelBacklogs", inPlace := ["internal/bytealg.CountString", "internal/bytealg.IndexByteString", "internal/bytealg.IndexString", "slices.overlaps[clusterkernel/api.Name]", "slices.overlaps[clusterkernel/api.Object]"], unfollowed := true, recurses := true, named := ["unicode/utf8.first", "unicode/utf8.acceptRanges", "internal/bytealg.MaxLen", "clusterkernel/code.forms"], apart := false, laid := [("unicode/utf8.acceptRanges", laid_unicode_utf8_acceptRanges), ("clusterkernel/code.forms", laid_clusterkernel_code_forms), ("unicode/utf8.first", laid_unicode_utf8_first)] }
def KernelBacklogsSaid : Prop := kernelBacklogsRow.holds Tryz.pinned (OpenSpec.ofChange kernelBacklogsSpec)

/-- ITS FALSE NEIGHBOUR: 'it returns false'. Refute it at one input. -/
def kernelBacklogsWrong : ChangeSpec := { name := "kernelBacklogs", fn := fun _ => fun
  | [d] => { results := [.lit (.bool false)], args := [d] }
  | _ => none }
def KernelBacklogsWrongFalsely : Prop := kernelBacklogsRow.holds Tryz.pinned (OpenSpec.ofChange kernelBacklogsWrong)

/-- 'clusterkernellaw20.KernelSeeks': WHATEVER THE INPUT: true; the input reads as it did. -/
def kernelSeeksSpec : ChangeSpec := { name := "kernelSeeks", fn := fun _ => fun
  | [d1, d2] => { results := [.lit (.bool true)], args := [d1, d2] }
  | _ => none }
def kernelSeeksRow : OpenClaim := { program := "ytienogpnkkailaagreatdoor", sum := "752ddf2a72aa9a2a08bfc97628a7ffd6fb36f8efa8b8956fae054c09039bdf26", func := "clusterkernel/clusterkernellaw20.KernelSeeks", spec := "kernelSeeks", inPlace := ["internal/bytealg.CountString", "internal/bytealg.IndexByteString", "internal/bytealg.IndexString", "slices.overlaps[clusterkernel/api.Name]", "slices.overlaps[clusterkernel/api.Object]"], unfollowed := true, recurses := true, named := ["unicode/utf8.first", "unicode/utf8.acceptRanges", "internal/bytealg.MaxLen", "clusterkernel/code.forms"], apart := false, laid := [("unicode/utf8.acceptRanges", laid_unicode_utf8_acceptRanges), ("clusterkernel/code.forms", laid_clusterkernel_code_forms), ("unicode/utf8.first", laid_unicode_utf8_first)] }
def KernelSeeksSaid : Prop := kernelSeeksRow.holds Tryz.pinned (OpenSpec.ofChange kernelSeeksSpec)

/-- ITS FALSE NEIGHBOUR: 'it returns false'. Refute it at one input. -/
def kernelSeeksWrong : ChangeSpec := { name := "kernelSeeks", fn := fun _ => fun
  | [d1, d2] => { results := [.lit (.bool false)], args := [d1, d2] }
  | _ => none }
def KernelSeeksWrongFalsely : Prop := kernelSeeksRow.holds Tryz.pinned (OpenSpec.ofChange kernelSeeksWrong)

/-- 'clusterkernellaw20.KernelGrand': WHATEVER THE INPUT: true; the input reads as it did. -/
def kernelGrandSpec : ChangeSpec := { name := "kernelGrand", fn := fun _ => fun
  | [d] => { results := [.lit (.bool true)], args := [d] }
  | _ => none }
def kernelGrandRow : OpenClaim := { program := "ytienogpnkkailaagreatdoor", sum := "752ddf2a72aa9a2a08bfc97628a7ffd6fb36f8efa8b8956fae054c09039bdf26", func := "clusterkernel/clusterkernellaw20.KernelGrand", spec := "kernelGrand", inPlace := ["internal/bytealg.CountString", "internal/bytealg.IndexByteString", "internal/bytealg.IndexString", "slices.overlaps[clusterkernel/api.Name]", "slices.overlaps[clusterkernel/api.Object]"], unfollowed := true, recurses := true, named := ["unicode/utf8.first", "unicode/utf8.acceptRanges", "internal/bytealg.MaxLen", "clusterkernel/code.forms"], apart := false, laid := [("unicode/utf8.acceptRanges", laid_unicode_utf8_acceptRanges), ("clusterkernel/code.forms", laid_clusterkernel_code_forms), ("unicode/utf8.first", laid_unicode_utf8_first)] }
def KernelGrandSaid : Prop := kernelGrandRow.holds Tryz.pinned (OpenSpec.ofChange kernelGrandSpec)

/-- ITS FALSE NEIGHBOUR: 'it returns false'. Refute it at one input. -/
def kernelGrandWrong : ChangeSpec := { name := "kernelGrand", fn := fun _ => fun
  | [d] => { results := [.lit (.bool false)], args := [d] }
  | _ => none }
def KernelGrandWrongFalsely : Prop := kernelGrandRow.holds Tryz.pinned (OpenSpec.ofChange kernelGrandWrong)

/-- 'clusterkernellaw20.KernelAlarms': WHATEVER THE INPUT: true; the input reads as it did. -/
def kernelAlarmsSpec : ChangeSpec := { name := "kernelAlarms", fn := fun _ => fun
  | [d] => { results := [.lit (.bool true)], args := [d] }
  | _ => none }
def kernelAlarmsRow : OpenClaim := { program := "ytienogpnkkailaagreatdoor", sum := "752ddf2a72aa9a2a08bfc97628a7ffd6fb36f8efa8b8956fae054c09039bdf26", func := "clusterkernel/clusterkernellaw20.KernelAlarms", spec := "kernelAlarms", inPlace := ["internal/bytealg.CountString", "internal/bytealg.IndexByteString", "internal/bytealg.IndexString", "slices.overlaps[clusterkernel/api.Name]", "slices.overlaps[clusterkernel/api.Object]"], unfollowed := true, recurses := true, named := ["unicode/utf8.first", "unicode/utf8.acceptRanges", "internal/bytealg.MaxLen", "clusterkernel/code.forms"], apart := false, laid := [("unicode/utf8.acceptRanges", laid_unicode_utf8_acceptRanges), ("clusterkernel/code.forms", laid_clusterkernel_code_forms), ("unicode/utf8.first", laid_unicode_utf8_first)] }
def KernelAlarmsSaid : Prop := kernelAlarmsRow.holds Tryz.pinned (OpenSpec.ofChange kernelAlarmsSpec)

/-- ITS FALSE NEIGHBOUR: 'it returns false'. Refute it at one input. -/
def kernelAlarmsWrong : ChangeSpec := { name := "kernelAlarms", fn := fun _ => fun
  | [d] => { results := [.lit (.bool false)], args := [d] }
  | _ => none }
def KernelAlarmsWrongFalsely : Prop := kernelAlarmsRow.holds Tryz.pinned (OpenSpec.ofChange kernelAlarmsWrong)

/- THE SECOND FORM. 'bulk': how many values and letters a reading holds, each counted each time it is reached (what is shared counts as often as it is met; a slice's spare places count too). A statement '..UptoSaid' is the law's where the arguments, and the package variables that the reading takes, are together of bulk at most 1048576: NARROWER than '..Said'. Prove '..Said' where nothing that the law and all that it calls make is longer than what came in: it says more and counts as full. Else prove '..UptoSaid'. A law counts once. -/
mutual
def uptoBulk {H : Type} : DataW H → Nat
  | .lit (.string bytes) => bytes.length + 1
  | .lit _ => 1
  | .nil => 1
  | .ptr d => uptoBulk d + 1
  | .slice elems spare => uptoBulkAll elems + uptoBulkAll spare + 1
  | .agg parts => uptoBulkAll parts + 1
  | .iface _ d => uptoBulk d + 1
  | .map entries => uptoBulkEntries entries + 1
  | .held _ => 1
def uptoBulkAll {H : Type} : List (DataW H) → Nat
  | [] => 0
  | d :: r => uptoBulk d + uptoBulkAll r
def uptoBulkEntries {H : Type} : List (Lit × DataW H) → Nat
  | [] => 0
  | x :: r => uptoBulkEntry x + uptoBulkEntries r
def uptoBulkEntry {H : Type} : Lit × DataW H → Nat
  | (.string bytes, d) => bytes.length + uptoBulk d + 1
  | (_, d) => uptoBulk d + 1
 end
def uptoSmall : (H : Type) → List (DataW H) → Bool := fun _ ds => decide (uptoBulkAll ds ≤ 1048576)
def OpenSpec.upto (s : _root_.Go.ChangeSpec) : _root_.Go.OpenSpec := { _root_.Go.OpenSpec.ofChange s with cond := some uptoSmall }

/-- 'clusterkernellaw20.KernelOpens', WHERE WHAT IT READS IS OF BULK AT MOST 1048576: true; the input reads as it did. -/
def kernelOpensUptoRow : OpenClaim := { program := "ytienogpnkkailaagreatdoor", sum := "752ddf2a72aa9a2a08bfc97628a7ffd6fb36f8efa8b8956fae054c09039bdf26", func := "clusterkernel/clusterkernellaw20.KernelOpens", spec := "kernelOpens", inPlace := ["internal/bytealg.CountString", "internal/bytealg.IndexByteString", "internal/bytealg.IndexString", "slices.overlaps[clusterkernel/api.Name]", "slices.overlaps[clusterkernel/api.Object]"], unfollowed := true, recurses := true, named := ["unicode/utf8.first", "unicode/utf8.acceptRanges", "internal/bytealg.MaxLen", "clusterkernel/code.forms"], apart := false, laid := [("unicode/utf8.acceptRanges", laid_unicode_utf8_acceptRanges), ("clusterkernel/code.forms", laid_clusterkernel_code_forms), ("unicode/utf8.first", laid_unicode_utf8_first)], narrowed := true }
def KernelOpensUptoSaid : Prop := kernelOpensUptoRow.holds Tryz.pinned (OpenSpec.upto kernelOpensSpec)

/-- 'clusterkernellaw20.KernelSignals', WHERE WHAT IT READS IS OF BULK AT MOST 1048576: true; the input reads as it did. -/
def kernelSignalsUptoRow : OpenClaim := { program := "ytienogpnkkailaagreatdoor", sum := "752ddf2a72aa9a2a08bfc97628a7ffd6fb36f8efa8b8956fae054c09039bdf26", func := "clusterkernel/clusterkernellaw20.KernelSignals", spec := "kernelSignals", inPlace := ["internal/bytealg.CountString", "internal/bytealg.IndexByteString", "internal/bytealg.IndexString", "slices.overlaps[clusterkernel/api.Name]", "slices.overlaps[clusterkernel/api.Object]"], unfollowed := true, recurses := true, named := ["unicode/utf8.first", "unicode/utf8.acceptRanges", "internal/bytealg.MaxLen", "clusterkernel/code.forms"], apart := false, laid := [("unicode/utf8.acceptRanges", laid_unicode_utf8_acceptRanges), ("clusterkernel/code.forms", laid_clusterkernel_code_forms), ("unicode/utf8.first", laid_unicode_utf8_first)], narrowed := true }
def KernelSignalsUptoSaid : Prop := kernelSignalsUptoRow.holds Tryz.pinned (OpenSpec.upto kernelSignalsSpec)

/-- 'clusterkernellaw20.KernelCalls', WHERE WHAT IT READS IS OF BULK AT MOST 1048576: true; the input reads as it did. -/
def kernelCallsUptoRow : OpenClaim := { program := "ytienogpnkkailaagreatdoor", sum := "752ddf2a72aa9a2a08bfc97628a7ffd6fb36f8efa8b8956fae054c09039bdf26", func := "clusterkernel/clusterkernellaw20.KernelCalls", spec := "kernelCalls", inPlace := ["internal/bytealg.CountString", "internal/bytealg.IndexByteString", "internal/bytealg.IndexString", "slices.overlaps[clusterkernel/api.Name]", "slices.overlaps[clusterkernel/api.Object]"], unfollowed := true, recurses := true, named := ["unicode/utf8.first", "unicode/utf8.acceptRanges", "internal/bytealg.MaxLen", "clusterkernel/code.forms"], apart := false, laid := [("unicode/utf8.acceptRanges", laid_unicode_utf8_acceptRanges), ("clusterkernel/code.forms", laid_clusterkernel_code_forms), ("unicode/utf8.first", laid_unicode_utf8_first)], narrowed := true }
def KernelCallsUptoSaid : Prop := kernelCallsUptoRow.holds Tryz.pinned (OpenSpec.upto kernelCallsSpec)

/-- 'clusterkernellaw20.KernelOrphans', WHERE WHAT IT READS IS OF BULK AT MOST 1048576: true; the input reads as it did. -/
def kernelOrphansUptoRow : OpenClaim := { program := "ytienogpnkkailaagreatdoor", sum := "752ddf2a72aa9a2a08bfc97628a7ffd6fb36f8efa8b8956fae054c09039bdf26", func := "clusterkernel/clusterkernellaw20.KernelOrphans", spec := "kernelOrphans", inPlace := ["internal/bytealg.CountString", "internal/bytealg.IndexByteString", "internal/bytealg.IndexString", "slices.overlaps[clusterkernel/api.Name]", "slices.overlaps[clusterkernel/api.Object]"], unfollowed := true, recurses := true, named := ["unicode/utf8.first", "unicode/utf8.acceptRanges", "internal/bytealg.MaxLen", "clusterkernel/code.forms"], apart := false, laid := [("unicode/utf8.acceptRanges", laid_unicode_utf8_acceptRanges), ("clusterkernel/code.forms", laid_clusterkernel_code_forms), ("unicode/utf8.first", laid_unicode_utf8_first)], narrowed := true }
def KernelOrphansUptoSaid : Prop := kernelOrphansUptoRow.holds Tryz.pinned (OpenSpec.upto kernelOrphansSpec)

/-- 'clusterkernellaw20.KernelFaults', WHERE WHAT IT READS IS OF BULK AT MOST 1048576: true; the input reads as it did. -/
def kernelFaultsUptoRow : OpenClaim := { program := "ytienogpnkkailaagreatdoor", sum := "752ddf2a72aa9a2a08bfc97628a7ffd6fb36f8efa8b8956fae054c09039bdf26", func := "clusterkernel/clusterkernellaw20.KernelFaults", spec := "kernelFaults", inPlace := ["internal/bytealg.CountString", "internal/bytealg.IndexByteString", "internal/bytealg.IndexString", "slices.overlaps[clusterkernel/api.Name]", "slices.overlaps[clusterkernel/api.Object]"], unfollowed := true, recurses := true, named := ["unicode/utf8.first", "unicode/utf8.acceptRanges", "internal/bytealg.MaxLen", "clusterkernel/code.forms"], apart := false, laid := [("unicode/utf8.acceptRanges", laid_unicode_utf8_acceptRanges), ("clusterkernel/code.forms", laid_clusterkernel_code_forms), ("unicode/utf8.first", laid_unicode_utf8_first)], narrowed := true }
def KernelFaultsUptoSaid : Prop := kernelFaultsUptoRow.holds Tryz.pinned (OpenSpec.upto kernelFaultsSpec)

/-- 'clusterkernellaw20.KernelErrors', WHERE WHAT IT READS IS OF BULK AT MOST 1048576: true; the input reads as it did. -/
def kernelErrorsUptoRow : OpenClaim := { program := "ytienogpnkkailaagreatdoor", sum := "752ddf2a72aa9a2a08bfc97628a7ffd6fb36f8efa8b8956fae054c09039bdf26", func := "clusterkernel/clusterkernellaw20.KernelErrors", spec := "kernelErrors", inPlace := ["internal/bytealg.CountString", "internal/bytealg.IndexByteString", "internal/bytealg.IndexString", "slices.overlaps[clusterkernel/api.Name]", "slices.overlaps[clusterkernel/api.Object]"], unfollowed := true, recurses := true, named := ["unicode/utf8.first", "unicode/utf8.acceptRanges", "internal/bytealg.MaxLen", "clusterkernel/code.forms"], apart := false, laid := [("unicode/utf8.acceptRanges", laid_unicode_utf8_acceptRanges), ("clusterkernel/code.forms", laid_clusterkernel_code_forms), ("unicode/utf8.first", laid_unicode_utf8_first)], narrowed := true }
def KernelErrorsUptoSaid : Prop := kernelErrorsUptoRow.holds Tryz.pinned (OpenSpec.upto kernelErrorsSpec)

/-- 'clusterkernellaw20.KernelFills', WHERE WHAT IT READS IS OF BULK AT MOST 1048576: true; the input reads as it did. -/
def kernelFillsUptoRow : OpenClaim := { program := "ytienogpnkkailaagreatdoor", sum := "752ddf2a72aa9a2a08bfc97628a7ffd6fb36f8efa8b8956fae054c09039bdf26", func := "clusterkernel/clusterkernellaw20.KernelFills", spec := "kernelFills", inPlace := ["internal/bytealg.CountString", "internal/bytealg.IndexByteString", "internal/bytealg.IndexString", "slices.overlaps[clusterkernel/api.Name]", "slices.overlaps[clusterkernel/api.Object]"], unfollowed := true, recurses := true, named := ["unicode/utf8.first", "unicode/utf8.acceptRanges", "internal/bytealg.MaxLen", "clusterkernel/code.forms"], apart := false, laid := [("unicode/utf8.acceptRanges", laid_unicode_utf8_acceptRanges), ("clusterkernel/code.forms", laid_clusterkernel_code_forms), ("unicode/utf8.first", laid_unicode_utf8_first)], narrowed := true }
def KernelFillsUptoSaid : Prop := kernelFillsUptoRow.holds Tryz.pinned (OpenSpec.upto kernelFillsSpec)

/-- 'clusterkernellaw20.KernelAsks', WHERE WHAT IT READS IS OF BULK AT MOST 1048576: true; the input reads as it did. -/
def kernelAsksUptoRow : OpenClaim := { program := "ytienogpnkkailaagreatdoor", sum := "752ddf2a72aa9a2a08bfc97628a7ffd6fb36f8efa8b8956fae054c09039bdf26", func := "clusterkernel/clusterkernellaw20.KernelAsks", spec := "kernelAsks", inPlace := ["internal/bytealg.CountString", "internal/bytealg.IndexByteString", "internal/bytealg.IndexString", "slices.overlaps[clusterkernel/api.Name]", "slices.overlaps[clusterkernel/api.Object]"], unfollowed := true, recurses := true, named := ["unicode/utf8.first", "unicode/utf8.acceptRanges", "internal/bytealg.MaxLen", "clusterkernel/code.forms"], apart := false, laid := [("unicode/utf8.acceptRanges", laid_unicode_utf8_acceptRanges), ("clusterkernel/code.forms", laid_clusterkernel_code_forms), ("unicode/utf8.first", laid_unicode_utf8_first)], narrowed := true }
def KernelAsksUptoSaid : Prop := kernelAsksUptoRow.holds Tryz.pinned (OpenSpec.upto kernelAsksSpec)

/-- 'clusterkernellaw20.KernelPids', WHERE WHAT IT READS IS OF BULK AT MOST 1048576: true; the input reads as it did. -/
def kernelPidsUptoRow : OpenClaim := { program := "ytienogpnkkailaagreatdoor", sum := "752ddf2a72aa9a2a08bfc97628a7ffd6fb36f8efa8b8956fae054c09039bdf26", func := "clusterkernel/clusterkernellaw20.KernelPids", spec := "kernelPids", inPlace := ["internal/bytealg.CountString", "internal/bytealg.IndexByteString", "internal/bytealg.IndexString", "slices.overlaps[clusterkernel/api.Name]", "slices.overlaps[clusterkernel/api.Object]"], unfollowed := true, recurses := true, named := ["unicode/utf8.first", "unicode/utf8.acceptRanges", "internal/bytealg.MaxLen", "clusterkernel/code.forms"], apart := false, laid := [("unicode/utf8.acceptRanges", laid_unicode_utf8_acceptRanges), ("clusterkernel/code.forms", laid_clusterkernel_code_forms), ("unicode/utf8.first", laid_unicode_utf8_first)], narrowed := true }
def KernelPidsUptoSaid : Prop := kernelPidsUptoRow.holds Tryz.pinned (OpenSpec.upto kernelPidsSpec)

/-- 'clusterkernellaw20.KernelDups', WHERE WHAT IT READS IS OF BULK AT MOST 1048576: true; the input reads as it did. -/
def kernelDupsUptoRow : OpenClaim := { program := "ytienogpnkkailaagreatdoor", sum := "752ddf2a72aa9a2a08bfc97628a7ffd6fb36f8efa8b8956fae054c09039bdf26", func := "clusterkernel/clusterkernellaw20.KernelDups", spec := "kernelDups", inPlace := ["internal/bytealg.CountString", "internal/bytealg.IndexByteString", "internal/bytealg.IndexString", "slices.overlaps[clusterkernel/api.Name]", "slices.overlaps[clusterkernel/api.Object]"], unfollowed := true, recurses := true, named := ["unicode/utf8.first", "unicode/utf8.acceptRanges", "internal/bytealg.MaxLen", "clusterkernel/code.forms"], apart := false, laid := [("unicode/utf8.acceptRanges", laid_unicode_utf8_acceptRanges), ("clusterkernel/code.forms", laid_clusterkernel_code_forms), ("unicode/utf8.first", laid_unicode_utf8_first)], narrowed := true }
def KernelDupsUptoSaid : Prop := kernelDupsUptoRow.holds Tryz.pinned (OpenSpec.upto kernelDupsSpec)

/-- 'clusterkernellaw20.KernelBacklogs', WHERE WHAT IT READS IS OF BULK AT MOST 1048576: true; the input reads as it did. -/
def kernelBacklogsUptoRow : OpenClaim := { program := "ytienogpnkkailaagreatdoor", sum := "752ddf2a72aa9a2a08bfc97628a7ffd6fb36f8efa8b8956fae054c09039bdf26", func := "clusterkernel/clusterkernellaw20.KernelBacklogs", spec := "kernelBacklogs", inPlace := ["internal/bytealg.CountString", "internal/bytealg.IndexByteString", "internal/bytealg.IndexString", "slices.overlaps[clusterkernel/api.Name]", "slices.overlaps[clusterkernel/api.Object]"], unfollowed := true, recurses := true, named := ["unicode/utf8.first", "unicode/utf8.acceptRanges", "internal/bytealg.MaxLen", "clusterkernel/code.forms"], apart := false, laid := [("unicode/utf8.acceptRanges", laid_unicode_utf8_acceptRanges), ("clusterkernel/code.forms", laid_clusterkernel_code_forms), ("unicode/utf8.first", laid_unicode_utf8_first)], narrowed := true }
def KernelBacklogsUptoSaid : Prop := kernelBacklogsUptoRow.holds Tryz.pinned (OpenSpec.upto kernelBacklogsSpec)

/-- 'clusterkernellaw20.KernelSeeks', WHERE WHAT IT READS IS OF BULK AT MOST 1048576: true; the input reads as it did. -/
def kernelSeeksUptoRow : OpenClaim := { program := "ytienogpnkkailaagreatdoor", sum := "752ddf2a72aa9a2a08bfc97628a7ffd6fb36f8efa8b8956fae054c09039bdf26", func := "clusterkernel/clusterkernellaw20.KernelSeeks", spec := "kernelSeeks", inPlace := ["internal/bytealg.CountString", "internal/bytealg.IndexByteString", "internal/bytealg.IndexString", "slices.overlaps[clusterkernel/api.Name]", "slices.overlaps[clusterkernel/api.Object]"], unfollowed := true, recurses := true, named := ["unicode/utf8.first", "unicode/utf8.acceptRanges", "internal/bytealg.MaxLen", "clusterkernel/code.forms"], apart := false, laid := [("unicode/utf8.acceptRanges", laid_unicode_utf8_acceptRanges), ("clusterkernel/code.forms", laid_clusterkernel_code_forms), ("unicode/utf8.first", laid_unicode_utf8_first)], narrowed := true }
def KernelSeeksUptoSaid : Prop := kernelSeeksUptoRow.holds Tryz.pinned (OpenSpec.upto kernelSeeksSpec)

/-- 'clusterkernellaw20.KernelGrand', WHERE WHAT IT READS IS OF BULK AT MOST 1048576: true; the input reads as it did. -/
def kernelGrandUptoRow : OpenClaim := { program := "ytienogpnkkailaagreatdoor", sum := "752ddf2a72aa9a2a08bfc97628a7ffd6fb36f8efa8b8956fae054c09039bdf26", func := "clusterkernel/clusterkernellaw20.KernelGrand", spec := "kernelGrand", inPlace := ["internal/bytealg.CountString", "internal/bytealg.IndexByteString", "internal/bytealg.IndexString", "slices.overlaps[clusterkernel/api.Name]", "slices.overlaps[clusterkernel/api.Object]"], unfollowed := true, recurses := true, named := ["unicode/utf8.first", "unicode/utf8.acceptRanges", "internal/bytealg.MaxLen", "clusterkernel/code.forms"], apart := false, laid := [("unicode/utf8.acceptRanges", laid_unicode_utf8_acceptRanges), ("clusterkernel/code.forms", laid_clusterkernel_code_forms), ("unicode/utf8.first", laid_unicode_utf8_first)], narrowed := true }
def KernelGrandUptoSaid : Prop := kernelGrandUptoRow.holds Tryz.pinned (OpenSpec.upto kernelGrandSpec)

/-- 'clusterkernellaw20.KernelAlarms', WHERE WHAT IT READS IS OF BULK AT MOST 1048576: true; the input reads as it did. -/
def kernelAlarmsUptoRow : OpenClaim := { program := "ytienogpnkkailaagreatdoor", sum := "752ddf2a72aa9a2a08bfc97628a7ffd6fb36f8efa8b8956fae054c09039bdf26", func := "clusterkernel/clusterkernellaw20.KernelAlarms", spec := "kernelAlarms", inPlace := ["internal/bytealg.CountString", "internal/bytealg.IndexByteString", "internal/bytealg.IndexString", "slices.overlaps[clusterkernel/api.Name]", "slices.overlaps[clusterkernel/api.Object]"], unfollowed := true, recurses := true, named := ["unicode/utf8.first", "unicode/utf8.acceptRanges", "internal/bytealg.MaxLen", "clusterkernel/code.forms"], apart := false, laid := [("unicode/utf8.acceptRanges", laid_unicode_utf8_acceptRanges), ("clusterkernel/code.forms", laid_clusterkernel_code_forms), ("unicode/utf8.first", laid_unicode_utf8_first)], narrowed := true }
def KernelAlarmsUptoSaid : Prop := kernelAlarmsUptoRow.holds Tryz.pinned (OpenSpec.upto kernelAlarmsSpec)

end Rows
end Go.Proofs.YtienogpnkkailaaGreatDoor
