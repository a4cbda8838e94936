/-
  No cell of these rows narrows 'for every input' (looked for: loops, veiled, ifaces, maps, wideKeys, modest, calm, conditions, laid).
  DERIVED. THE GIVEN ROWS OF THIS SEAT. 12 by the template 'for every input the law returns true; each argument reads behind the call as it read before'; 0 by the template 'total and deterministic' (their statements: YtfbojdagjecjcaaTotals.lean).
  GIVEN WITH THE SEED: the statements are not yours to turn. If you find one false, say at which input.
  Laid BY PROGRAM, IN A SANDBOX (cutbox-rows.mjs): the forced cells as the released guide's own fill.sh prints them over the translation 2e13878785429492… (all of the seat's roots in one cut). By AI agents, Wed Nov 11 2026. No macro, syntax, notation, axiom, sorry.
-/
import Derived.Test.YtfbojdagjecjcaaChecked
import GoSem.Claim
import GoSem.ClaimJoined
import GoSem.ClaimMapViews
import Derived.JoinedTies
import Derived.KernelRfl
namespace Go.Proofs.Ytfbojdagjecjcaa
/- THE CELL 'sum', in the pinned program and in every row, IS THE sha256 OF THE DUMP (.gsa) THAT YtfbojdagjecjcaaProg.lean LOADS. Nothing in Lean hashes anything: it is a label: what it is worth is what the hold of that sum in a sandbox is worth. -/
noncomputable def Try.pinned : Pinned := { name := "ytfbojdagjecjcaa", sum := "2e13878785429492d0d277bc649dddd1ebf66ed4869dba6e60c272a69f44e68a", checked := Try.checked }
namespace Rows
def none {H : Type} : Left H := { results := [], args := [] }

/-- 'laws.FnExactBetterRoute': WHATEVER THE INPUT: true; the input reads as it did. -/
def fnExactBetterRouteSpec : ChangeSpec := { name := "fnExactBetterRoute", fn := fun _ => fun
  | [d1, d2] => { results := [.lit (.bool true)], args := [d1, d2] }
  | _ => none }
def fnExactBetterRouteRow : OpenClaim := { program := "ytfbojdagjecjcaa", sum := "2e13878785429492d0d277bc649dddd1ebf66ed4869dba6e60c272a69f44e68a", func := "loop.example/g00263/laws.FnExactBetterRoute", spec := "fnExactBetterRoute", apart := false }
def FnExactBetterRouteSaid : Prop := fnExactBetterRouteRow.holds Try.pinned (OpenSpec.ofChange fnExactBetterRouteSpec)

/-- ITS FALSE NEIGHBOUR: 'it returns false'. Refute it at one input. -/
def fnExactBetterRouteWrong : ChangeSpec := { name := "fnExactBetterRoute", fn := fun _ => fun
  | [d1, d2] => { results := [.lit (.bool false)], args := [d1, d2] }
  | _ => none }
def FnExactBetterRouteWrongFalsely : Prop := fnExactBetterRouteRow.holds Try.pinned (OpenSpec.ofChange fnExactBetterRouteWrong)

/-- 'laws.FnExactSameTold': WHATEVER THE INPUT: true; the input reads as it did. -/
def fnExactSameToldSpec : ChangeSpec := { name := "fnExactSameTold", fn := fun _ => fun
  | [d1, d2] => { results := [.lit (.bool true)], args := [d1, d2] }
  | _ => none }
def fnExactSameToldRow : OpenClaim := { program := "ytfbojdagjecjcaa", sum := "2e13878785429492d0d277bc649dddd1ebf66ed4869dba6e60c272a69f44e68a", func := "loop.example/g00263/laws.FnExactSameTold", spec := "fnExactSameTold", unfollowed := true, recurses := true, apart := false }
def FnExactSameToldSaid : Prop := fnExactSameToldRow.holds Try.pinned (OpenSpec.ofChange fnExactSameToldSpec)

/-- ITS FALSE NEIGHBOUR: 'it returns false'. Refute it at one input. -/
def fnExactSameToldWrong : ChangeSpec := { name := "fnExactSameTold", fn := fun _ => fun
  | [d1, d2] => { results := [.lit (.bool false)], args := [d1, d2] }
  | _ => none }
def FnExactSameToldWrongFalsely : Prop := fnExactSameToldRow.holds Try.pinned (OpenSpec.ofChange fnExactSameToldWrong)

/-- 'laws.FnExactSplitFrames': WHATEVER THE INPUT: true; the input reads as it did. -/
def fnExactSplitFramesSpec : ChangeSpec := { name := "fnExactSplitFrames", fn := fun _ => fun
  | [d] => { results := [.lit (.bool true)], args := [d] }
  | _ => none }
def fnExactSplitFramesRow : OpenClaim := { program := "ytfbojdagjecjcaa", sum := "2e13878785429492d0d277bc649dddd1ebf66ed4869dba6e60c272a69f44e68a", func := "loop.example/g00263/laws.FnExactSplitFrames", spec := "fnExactSplitFrames", apart := false }
def FnExactSplitFramesSaid : Prop := fnExactSplitFramesRow.holds Try.pinned (OpenSpec.ofChange fnExactSplitFramesSpec)

/-- ITS FALSE NEIGHBOUR: 'it returns false'. Refute it at one input. -/
def fnExactSplitFramesWrong : ChangeSpec := { name := "fnExactSplitFrames", fn := fun _ => fun
  | [d] => { results := [.lit (.bool false)], args := [d] }
  | _ => none }
def FnExactSplitFramesWrongFalsely : Prop := fnExactSplitFramesRow.holds Try.pinned (OpenSpec.ofChange fnExactSplitFramesWrong)

/-- 'laws.FnExactExportAttrs': WHATEVER THE INPUT: true; the input reads as it did. -/
def fnExactExportAttrsSpec : ChangeSpec := { name := "fnExactExportAttrs", fn := fun _ => fun
  | [d1, d2, d3] => { results := [.lit (.bool true)], args := [d1, d2, d3] }
  | _ => none }
def fnExactExportAttrsRow : OpenClaim := { program := "ytfbojdagjecjcaa", sum := "2e13878785429492d0d277bc649dddd1ebf66ed4869dba6e60c272a69f44e68a", func := "loop.example/g00263/laws.FnExactExportAttrs", spec := "fnExactExportAttrs", unfollowed := true, recurses := true, apart := false }
def FnExactExportAttrsSaid : Prop := fnExactExportAttrsRow.holds Try.pinned (OpenSpec.ofChange fnExactExportAttrsSpec)

/-- ITS FALSE NEIGHBOUR: 'it returns false'. Refute it at one input. -/
def fnExactExportAttrsWrong : ChangeSpec := { name := "fnExactExportAttrs", fn := fun _ => fun
  | [d1, d2, d3] => { results := [.lit (.bool false)], args := [d1, d2, d3] }
  | _ => none }
def FnExactExportAttrsWrongFalsely : Prop := fnExactExportAttrsRow.holds Try.pinned (OpenSpec.ofChange fnExactExportAttrsWrong)

/-- 'laws.FnExactRuleMatches': WHATEVER THE INPUT: true; the input reads as it did. -/
def fnExactRuleMatchesSpec : ChangeSpec := { name := "fnExactRuleMatches", fn := fun _ => fun
  | [d1, d2, d3] => { results := [.lit (.bool true)], args := [d1, d2, d3] }
  | _ => none }
def fnExactRuleMatchesRow : OpenClaim := { program := "ytfbojdagjecjcaa", sum := "2e13878785429492d0d277bc649dddd1ebf66ed4869dba6e60c272a69f44e68a", func := "loop.example/g00263/laws.FnExactRuleMatches", spec := "fnExactRuleMatches", unfollowed := true, recurses := true, apart := false }
def FnExactRuleMatchesSaid : Prop := fnExactRuleMatchesRow.holds Try.pinned (OpenSpec.ofChange fnExactRuleMatchesSpec)

/-- ITS FALSE NEIGHBOUR: 'it returns false'. Refute it at one input. -/
def fnExactRuleMatchesWrong : ChangeSpec := { name := "fnExactRuleMatches", fn := fun _ => fun
  | [d1, d2, d3] => { results := [.lit (.bool false)], args := [d1, d2, d3] }
  | _ => none }
def FnExactRuleMatchesWrongFalsely : Prop := fnExactRuleMatchesRow.holds Try.pinned (OpenSpec.ofChange fnExactRuleMatchesWrong)

/-- 'laws.FnExactPackEntry': WHATEVER THE INPUT: true; the input reads as it did. -/
def fnExactPackEntrySpec : ChangeSpec := { name := "fnExactPackEntry", fn := fun _ => fun
  | [d] => { results := [.lit (.bool true)], args := [d] }
  | _ => none }
def fnExactPackEntryRow : OpenClaim := { program := "ytfbojdagjecjcaa", sum := "2e13878785429492d0d277bc649dddd1ebf66ed4869dba6e60c272a69f44e68a", func := "loop.example/g00263/laws.FnExactPackEntry", spec := "fnExactPackEntry", apart := false }
def FnExactPackEntrySaid : Prop := fnExactPackEntryRow.holds Try.pinned (OpenSpec.ofChange fnExactPackEntrySpec)

/-- ITS FALSE NEIGHBOUR: 'it returns false'. Refute it at one input. -/
def fnExactPackEntryWrong : ChangeSpec := { name := "fnExactPackEntry", fn := fun _ => fun
  | [d] => { results := [.lit (.bool false)], args := [d] }
  | _ => none }
def FnExactPackEntryWrongFalsely : Prop := fnExactPackEntryRow.holds Try.pinned (OpenSpec.ofChange fnExactPackEntryWrong)

/-- 'laws.FnSplits': WHATEVER THE INPUT: true; the input reads as it did. -/
def fnSplitsSpec : ChangeSpec := { name := "fnSplits", fn := fun _ => fun
  | [d] => { results := [.lit (.bool true)], args := [d] }
  | _ => none }
def fnSplitsRow : OpenClaim := { program := "ytfbojdagjecjcaa", sum := "2e13878785429492d0d277bc649dddd1ebf66ed4869dba6e60c272a69f44e68a", func := "loop.example/g00263/laws.FnSplits", spec := "fnSplits", apart := false }
def FnSplitsSaid : Prop := fnSplitsRow.holds Try.pinned (OpenSpec.ofChange fnSplitsSpec)

/-- ITS FALSE NEIGHBOUR: 'it returns false'. Refute it at one input. -/
def fnSplitsWrong : ChangeSpec := { name := "fnSplits", fn := fun _ => fun
  | [d] => { results := [.lit (.bool false)], args := [d] }
  | _ => none }
def FnSplitsWrongFalsely : Prop := fnSplitsRow.holds Try.pinned (OpenSpec.ofChange fnSplitsWrong)

/-- 'laws.FnExactJournalFault': WHATEVER THE INPUT: true; the input reads as it did. -/
def fnExactJournalFaultSpec : ChangeSpec := { name := "fnExactJournalFault", fn := fun _ => fun
  | [d] => { results := [.lit (.bool true)], args := [d] }
  | _ => none }
def fnExactJournalFaultRow : OpenClaim := { program := "ytfbojdagjecjcaa", sum := "2e13878785429492d0d277bc649dddd1ebf66ed4869dba6e60c272a69f44e68a", func := "loop.example/g00263/laws.FnExactJournalFault", spec := "fnExactJournalFault", apart := false }
def FnExactJournalFaultSaid : Prop := fnExactJournalFaultRow.holds Try.pinned (OpenSpec.ofChange fnExactJournalFaultSpec)

/-- ITS FALSE NEIGHBOUR: 'it returns false'. Refute it at one input. -/
def fnExactJournalFaultWrong : ChangeSpec := { name := "fnExactJournalFault", fn := fun _ => fun
  | [d] => { results := [.lit (.bool false)], args := [d] }
  | _ => none }
def FnExactJournalFaultWrongFalsely : Prop := fnExactJournalFaultRow.holds Try.pinned (OpenSpec.ofChange fnExactJournalFaultWrong)

/-- 'laws.FnExactSettingsFault': WHATEVER THE INPUT: true; the input reads as it did. -/
def fnExactSettingsFaultSpec : ChangeSpec := { name := "fnExactSettingsFault", fn := fun _ => fun
  | [d] => { results := [.lit (.bool true)], args := [d] }
  | _ => none }
def fnExactSettingsFaultRow : OpenClaim := { program := "ytfbojdagjecjcaa", sum := "2e13878785429492d0d277bc649dddd1ebf66ed4869dba6e60c272a69f44e68a", func := "loop.example/g00263/laws.FnExactSettingsFault", spec := "fnExactSettingsFault", apart := false }
def FnExactSettingsFaultSaid : Prop := fnExactSettingsFaultRow.holds Try.pinned (OpenSpec.ofChange fnExactSettingsFaultSpec)

/-- ITS FALSE NEIGHBOUR: 'it returns false'. Refute it at one input. -/
def fnExactSettingsFaultWrong : ChangeSpec := { name := "fnExactSettingsFault", fn := fun _ => fun
  | [d] => { results := [.lit (.bool false)], args := [d] }
  | _ => none }
def FnExactSettingsFaultWrongFalsely : Prop := fnExactSettingsFaultRow.holds Try.pinned (OpenSpec.ofChange fnExactSettingsFaultWrong)

/-- 'laws.FnExactToldFault': WHATEVER THE INPUT: true; the input reads as it did. -/
def fnExactToldFaultSpec : ChangeSpec := { name := "fnExactToldFault", fn := fun _ => fun
  | [d] => { results := [.lit (.bool true)], args := [d] }
  | _ => none }
def fnExactToldFaultRow : OpenClaim := { program := "ytfbojdagjecjcaa", sum := "2e13878785429492d0d277bc649dddd1ebf66ed4869dba6e60c272a69f44e68a", func := "loop.example/g00263/laws.FnExactToldFault", spec := "fnExactToldFault", unfollowed := true, recurses := true, apart := false }
def FnExactToldFaultSaid : Prop := fnExactToldFaultRow.holds Try.pinned (OpenSpec.ofChange fnExactToldFaultSpec)

/-- ITS FALSE NEIGHBOUR: 'it returns false'. Refute it at one input. -/
def fnExactToldFaultWrong : ChangeSpec := { name := "fnExactToldFault", fn := fun _ => fun
  | [d] => { results := [.lit (.bool false)], args := [d] }
  | _ => none }
def FnExactToldFaultWrongFalsely : Prop := fnExactToldFaultRow.holds Try.pinned (OpenSpec.ofChange fnExactToldFaultWrong)

/-- 'laws.FnExactReadEntries': WHATEVER THE INPUT: true; the input reads as it did. -/
def fnExactReadEntriesSpec : ChangeSpec := { name := "fnExactReadEntries", fn := fun _ => fun
  | [d] => { results := [.lit (.bool true)], args := [d] }
  | _ => none }
def fnExactReadEntriesRow : OpenClaim := { program := "ytfbojdagjecjcaa", sum := "2e13878785429492d0d277bc649dddd1ebf66ed4869dba6e60c272a69f44e68a", func := "loop.example/g00263/laws.FnExactReadEntries", spec := "fnExactReadEntries", apart := false }
def FnExactReadEntriesSaid : Prop := fnExactReadEntriesRow.holds Try.pinned (OpenSpec.ofChange fnExactReadEntriesSpec)

/-- ITS FALSE NEIGHBOUR: 'it returns false'. Refute it at one input. -/
def fnExactReadEntriesWrong : ChangeSpec := { name := "fnExactReadEntries", fn := fun _ => fun
  | [d] => { results := [.lit (.bool false)], args := [d] }
  | _ => none }
def FnExactReadEntriesWrongFalsely : Prop := fnExactReadEntriesRow.holds Try.pinned (OpenSpec.ofChange fnExactReadEntriesWrong)

/-- 'laws.FnExactRibFault': WHATEVER THE INPUT: true; the input reads as it did. -/
def fnExactRibFaultSpec : ChangeSpec := { name := "fnExactRibFault", fn := fun _ => fun
  | [d] => { results := [.lit (.bool true)], args := [d] }
  | _ => none }
def fnExactRibFaultRow : OpenClaim := { program := "ytfbojdagjecjcaa", sum := "2e13878785429492d0d277bc649dddd1ebf66ed4869dba6e60c272a69f44e68a", func := "loop.example/g00263/laws.FnExactRibFault", spec := "fnExactRibFault", unfollowed := true, recurses := true, apart := false }
def FnExactRibFaultSaid : Prop := fnExactRibFaultRow.holds Try.pinned (OpenSpec.ofChange fnExactRibFaultSpec)

/-- ITS FALSE NEIGHBOUR: 'it returns false'. Refute it at one input. -/
def fnExactRibFaultWrong : ChangeSpec := { name := "fnExactRibFault", fn := fun _ => fun
  | [d] => { results := [.lit (.bool false)], args := [d] }
  | _ => none }
def FnExactRibFaultWrongFalsely : Prop := fnExactRibFaultRow.holds Try.pinned (OpenSpec.ofChange fnExactRibFaultWrong)

/- THE SECOND FORM. 'bulk': how many values and letters a reading holds, each counted each time it is reached (what is shared counts as often as it is met; a slice's spare places count too). A statement '..UptoSaid' is the law's where the arguments, and the package variables that the reading takes, are together of bulk at most 1048576: NARROWER than '..Said'. Prove '..Said' where nothing that the law and all that it calls make is longer than what came in: it says more and counts as full. Else prove '..UptoSaid'. A law counts once. -/
mutual
def uptoBulk {H : Type} : DataW H → Nat
  | .lit (.string bytes) => bytes.length + 1
  | .lit _ => 1
  | .nil => 1
  | .ptr d => uptoBulk d + 1
  | .slice elems spare => uptoBulkAll elems + uptoBulkAll spare + 1
  | .agg parts => uptoBulkAll parts + 1
  | .iface _ d => uptoBulk d + 1
  | .map entries => uptoBulkEntries entries + 1
  | .held _ => 1
def uptoBulkAll {H : Type} : List (DataW H) → Nat
  | [] => 0
  | d :: r => uptoBulk d + uptoBulkAll r
def uptoBulkEntries {H : Type} : List (Lit × DataW H) → Nat
  | [] => 0
  | x :: r => uptoBulkEntry x + uptoBulkEntries r
def uptoBulkEntry {H : Type} : Lit × DataW H → Nat
  | (.string bytes, d) => bytes.length + uptoBulk d + 1
  | (_, d) => uptoBulk d + 1
 end
def uptoSmall : (H : Type) → List (DataW H) → Bool := fun _ ds => decide (uptoBulkAll ds ≤ 1048576)
def OpenSpec.upto (s : _root_.Go.ChangeSpec) : _root_.Go.OpenSpec := { _root_.Go.OpenSpec.ofChange s with cond := some uptoSmall }

/-- 'laws.FnExactBetterRoute', WHERE WHAT IT READS IS OF BULK AT MOST 1048576: true; the input reads as it did. -/
def fnExactBetterRouteUptoRow : OpenClaim := { program := "ytfbojdagjecjcaa", sum := "2e13878785429492d0d277bc649dddd1ebf66ed4869dba6e60c272a69f44e68a", func := "loop.example/g00263/laws.FnExactBetterRoute", spec := "fnExactBetterRoute", apart := false, narrowed := true }
def FnExactBetterRouteUptoSaid : Prop := fnExactBetterRouteUptoRow.holds Try.pinned (OpenSpec.upto fnExactBetterRouteSpec)

/-- 'laws.FnExactSameTold', WHERE WHAT IT READS IS OF BULK AT MOST 1048576: true; the input reads as it did. -/
def fnExactSameToldUptoRow : OpenClaim := { program := "ytfbojdagjecjcaa", sum := "2e13878785429492d0d277bc649dddd1ebf66ed4869dba6e60c272a69f44e68a", func := "loop.example/g00263/laws.FnExactSameTold", spec := "fnExactSameTold", unfollowed := true, recurses := true, apart := false, narrowed := true }
def FnExactSameToldUptoSaid : Prop := fnExactSameToldUptoRow.holds Try.pinned (OpenSpec.upto fnExactSameToldSpec)

/-- 'laws.FnExactSplitFrames', WHERE WHAT IT READS IS OF BULK AT MOST 1048576: true; the input reads as it did. -/
def fnExactSplitFramesUptoRow : OpenClaim := { program := "ytfbojdagjecjcaa", sum := "2e13878785429492d0d277bc649dddd1ebf66ed4869dba6e60c272a69f44e68a", func := "loop.example/g00263/laws.FnExactSplitFrames", spec := "fnExactSplitFrames", apart := false, narrowed := true }
def FnExactSplitFramesUptoSaid : Prop := fnExactSplitFramesUptoRow.holds Try.pinned (OpenSpec.upto fnExactSplitFramesSpec)

/-- 'laws.FnExactExportAttrs', WHERE WHAT IT READS IS OF BULK AT MOST 1048576: true; the input reads as it did. -/
def fnExactExportAttrsUptoRow : OpenClaim := { program := "ytfbojdagjecjcaa", sum := "2e13878785429492d0d277bc649dddd1ebf66ed4869dba6e60c272a69f44e68a", func := "loop.example/g00263/laws.FnExactExportAttrs", spec := "fnExactExportAttrs", unfollowed := true, recurses := true, apart := false, narrowed := true }
def FnExactExportAttrsUptoSaid : Prop := fnExactExportAttrsUptoRow.holds Try.pinned (OpenSpec.upto fnExactExportAttrsSpec)

/-- 'laws.FnExactRuleMatches', WHERE WHAT IT READS IS OF BULK AT MOST 1048576: true; the input reads as it did. -/
def fnExactRuleMatchesUptoRow : OpenClaim := { program := "ytfbojdagjecjcaa", sum := "2e13878785429492d0d277bc649dddd1ebf66ed4869dba6e60c272a69f44e68a", func := "loop.example/g00263/laws.FnExactRuleMatches", spec := "fnExactRuleMatches", unfollowed := true, recurses := true, apart := false, narrowed := true }
def FnExactRuleMatchesUptoSaid : Prop := fnExactRuleMatchesUptoRow.holds Try.pinned (OpenSpec.upto fnExactRuleMatchesSpec)

/-- 'laws.FnExactPackEntry', WHERE WHAT IT READS IS OF BULK AT MOST 1048576: true; the input reads as it did. -/
def fnExactPackEntryUptoRow : OpenClaim := { program := "ytfbojdagjecjcaa", sum := "2e13878785429492d0d277bc649dddd1ebf66ed4869dba6e60c272a69f44e68a", func := "loop.example/g00263/laws.FnExactPackEntry", spec := "fnExactPackEntry", apart := false, narrowed := true }
def FnExactPackEntryUptoSaid : Prop := fnExactPackEntryUptoRow.holds Try.pinned (OpenSpec.upto fnExactPackEntrySpec)

/-- 'laws.FnSplits', WHERE WHAT IT READS IS OF BULK AT MOST 1048576: true; the input reads as it did. -/
def fnSplitsUptoRow : OpenClaim := { program := "ytfbojdagjecjcaa", sum := "2e13878785429492d0d277bc649dddd1ebf66ed4869dba6e60c272a69f44e68a", func := "loop.example/g00263/laws.FnSplits", spec := "fnSplits", apart := false, narrowed := true }
def FnSplitsUptoSaid : Prop := fnSplitsUptoRow.holds Try.pinned (OpenSpec.upto fnSplitsSpec)

/-- 'laws.FnExactJournalFault', WHERE WHAT IT READS IS OF BULK AT MOST 1048576: true; the input reads as it did. -/
def fnExactJournalFaultUptoRow : OpenClaim := { program := "ytfbojdagjecjcaa", sum := "2e13878785429492d0d277bc649dddd1ebf66ed4869dba6e60c272a69f44e68a", func := "loop.example/g00263/laws.FnExactJournalFault", spec := "fnExactJournalFault", apart := false, narrowed := true }
def FnExactJournalFaultUptoSaid : Prop := fnExactJournalFaultUptoRow.holds Try.pinned (OpenSpec.upto fnExactJournalFaultSpec)

/-- 'laws.FnExactSettingsFault', WHERE WHAT IT READS IS OF BULK AT MOST 1048576: true; the input reads as it did. -/
def fnExactSettingsFaultUptoRow : OpenClaim := { program := "ytfbojdagjecjcaa", sum := "2e13878785429492d0d277bc649dddd1ebf66ed4869dba6e60c272a69f44e68a", func := "loop.example/g00263/laws.FnExactSettingsFault", spec := "fnExactSettingsFault", apart := false, narrowed := true }
def FnExactSettingsFaultUptoSaid : Prop := fnExactSettingsFaultUptoRow.holds Try.pinned (OpenSpec.upto fnExactSettingsFaultSpec)

/-- 'laws.FnExactToldFault', WHERE WHAT IT READS IS OF BULK AT MOST 1048576: true; the input reads as it did. -/
def fnExactToldFaultUptoRow : OpenClaim := { program := "ytfbojdagjecjcaa", sum := "2e13878785429492d0d277bc649dddd1ebf66ed4869dba6e60c272a69f44e68a", func := "loop.example/g00263/laws.FnExactToldFault", spec := "fnExactToldFault", unfollowed := true, recurses := true, apart := false, narrowed := true }
def FnExactToldFaultUptoSaid : Prop := fnExactToldFaultUptoRow.holds Try.pinned (OpenSpec.upto fnExactToldFaultSpec)

/-- 'laws.FnExactReadEntries', WHERE WHAT IT READS IS OF BULK AT MOST 1048576: true; the input reads as it did. -/
def fnExactReadEntriesUptoRow : OpenClaim := { program := "ytfbojdagjecjcaa", sum := "2e13878785429492d0d277bc649dddd1ebf66ed4869dba6e60c272a69f44e68a", func := "loop.example/g00263/laws.FnExactReadEntries", spec := "fnExactReadEntries", apart := false, narrowed := true }
def FnExactReadEntriesUptoSaid : Prop := fnExactReadEntriesUptoRow.holds Try.pinned (OpenSpec.upto fnExactReadEntriesSpec)

/-- 'laws.FnExactRibFault', WHERE WHAT IT READS IS OF BULK AT MOST 1048576: true; the input reads as it did. -/
def fnExactRibFaultUptoRow : OpenClaim := { program := "ytfbojdagjecjcaa", sum := "2e13878785429492d0d277bc649dddd1ebf66ed4869dba6e60c272a69f44e68a", func := "loop.example/g00263/laws.FnExactRibFault", spec := "fnExactRibFault", unfollowed := true, recurses := true, apart := false, narrowed := true }
def FnExactRibFaultUptoSaid : Prop := fnExactRibFaultUptoRow.holds Try.pinned (OpenSpec.upto fnExactRibFaultSpec)

end Rows
end Go.Proofs.Ytfbojdagjecjcaa
