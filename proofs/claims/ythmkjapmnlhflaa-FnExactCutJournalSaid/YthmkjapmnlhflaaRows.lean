/-
  No cell of these rows narrows 'for every input' (looked for: loops, veiled, ifaces, maps, wideKeys, modest, calm, conditions, laid).
  DERIVED. THE GIVEN ROWS OF THIS SEAT. 12 by the template 'for every input the law returns true; each argument reads behind the call as it read before'; 0 by the template 'total and deterministic' (their statements: YthmkjapmnlhflaaTotals.lean).
  GIVEN WITH THE SEED: the statements are not yours to turn. If you find one false, say at which input.
  Laid BY PROGRAM, IN A SANDBOX (cutbox-rows.mjs): the forced cells as the released guide's own fill.sh prints them over the translation d4131a40290daa85… (all of the seat's roots in one cut). By AI agents, Wed Nov 11 2026. No macro, syntax, notation, axiom, sorry.
-/
import Derived.Test.YthmkjapmnlhflaaChecked
import GoSem.Claim
import GoSem.ClaimJoined
import GoSem.ClaimMapViews
import Derived.JoinedTies
import Derived.KernelRfl
namespace Go.Proofs.Ythmkjapmnlhflaa
/- THE CELL 'sum', in the pinned program and in every row, IS THE sha256 OF THE DUMP (.gsa) THAT YthmkjapmnlhflaaProg.lean LOADS. Nothing in Lean hashes anything: it is a label: what it is worth is what the hold of that sum in a sandbox is worth. -/
noncomputable def Try.pinned : Pinned := { name := "ythmkjapmnlhflaa", sum := "d4131a40290daa85a8659e0e2f872551dbad149388682c495c4db86d38d4e453", checked := Try.checked }
namespace Rows
def none {H : Type} : Left H := { results := [], args := [] }

/-- 'laws.FnExactSyncJournal': WHATEVER THE INPUT: true; the input reads as it did. -/
def fnExactSyncJournalSpec : ChangeSpec := { name := "fnExactSyncJournal", fn := fun _ => fun
  | [d] => { results := [.lit (.bool true)], args := [d] }
  | _ => none }
def fnExactSyncJournalRow : OpenClaim := { program := "ythmkjapmnlhflaa", sum := "d4131a40290daa85a8659e0e2f872551dbad149388682c495c4db86d38d4e453", func := "loop.example/g00263/laws.FnExactSyncJournal", spec := "fnExactSyncJournal", apart := false }
def FnExactSyncJournalSaid : Prop := fnExactSyncJournalRow.holds Try.pinned (OpenSpec.ofChange fnExactSyncJournalSpec)

/-- ITS FALSE NEIGHBOUR: 'it returns false'. Refute it at one input. -/
def fnExactSyncJournalWrong : ChangeSpec := { name := "fnExactSyncJournal", fn := fun _ => fun
  | [d] => { results := [.lit (.bool false)], args := [d] }
  | _ => none }
def FnExactSyncJournalWrongFalsely : Prop := fnExactSyncJournalRow.holds Try.pinned (OpenSpec.ofChange fnExactSyncJournalWrong)

/-- 'laws.FnExactCrashJournal': WHATEVER THE INPUT: true; the input reads as it did. -/
def fnExactCrashJournalSpec : ChangeSpec := { name := "fnExactCrashJournal", fn := fun _ => fun
  | [d1, d2] => { results := [.lit (.bool true)], args := [d1, d2] }
  | _ => none }
def fnExactCrashJournalRow : OpenClaim := { program := "ythmkjapmnlhflaa", sum := "d4131a40290daa85a8659e0e2f872551dbad149388682c495c4db86d38d4e453", func := "loop.example/g00263/laws.FnExactCrashJournal", spec := "fnExactCrashJournal", apart := false }
def FnExactCrashJournalSaid : Prop := fnExactCrashJournalRow.holds Try.pinned (OpenSpec.ofChange fnExactCrashJournalSpec)

/-- ITS FALSE NEIGHBOUR: 'it returns false'. Refute it at one input. -/
def fnExactCrashJournalWrong : ChangeSpec := { name := "fnExactCrashJournal", fn := fun _ => fun
  | [d1, d2] => { results := [.lit (.bool false)], args := [d1, d2] }
  | _ => none }
def FnExactCrashJournalWrongFalsely : Prop := fnExactCrashJournalRow.holds Try.pinned (OpenSpec.ofChange fnExactCrashJournalWrong)

/-- 'laws.FnExactCutJournal': WHATEVER THE INPUT: true; the input reads as it did. -/
def fnExactCutJournalSpec : ChangeSpec := { name := "fnExactCutJournal", fn := fun _ => fun
  | [d1, d2] => { results := [.lit (.bool true)], args := [d1, d2] }
  | _ => none }
def fnExactCutJournalRow : OpenClaim := { program := "ythmkjapmnlhflaa", sum := "d4131a40290daa85a8659e0e2f872551dbad149388682c495c4db86d38d4e453", func := "loop.example/g00263/laws.FnExactCutJournal", spec := "fnExactCutJournal", apart := false }
def FnExactCutJournalSaid : Prop := fnExactCutJournalRow.holds Try.pinned (OpenSpec.ofChange fnExactCutJournalSpec)

/-- ITS FALSE NEIGHBOUR: 'it returns false'. Refute it at one input. -/
def fnExactCutJournalWrong : ChangeSpec := { name := "fnExactCutJournal", fn := fun _ => fun
  | [d1, d2] => { results := [.lit (.bool false)], args := [d1, d2] }
  | _ => none }
def FnExactCutJournalWrongFalsely : Prop := fnExactCutJournalRow.holds Try.pinned (OpenSpec.ofChange fnExactCutJournalWrong)

/-- 'laws.FnExactStartSession': WHATEVER THE INPUT: true; the input reads as it did. -/
def fnExactStartSessionSpec : ChangeSpec := { name := "fnExactStartSession", fn := fun _ => fun
  | [d1, d2] => { results := [.lit (.bool true)], args := [d1, d2] }
  | _ => none }
def fnExactStartSessionRow : OpenClaim := { program := "ythmkjapmnlhflaa", sum := "d4131a40290daa85a8659e0e2f872551dbad149388682c495c4db86d38d4e453", func := "loop.example/g00263/laws.FnExactStartSession", spec := "fnExactStartSession", apart := false }
def FnExactStartSessionSaid : Prop := fnExactStartSessionRow.holds Try.pinned (OpenSpec.ofChange fnExactStartSessionSpec)

/-- ITS FALSE NEIGHBOUR: 'it returns false'. Refute it at one input. -/
def fnExactStartSessionWrong : ChangeSpec := { name := "fnExactStartSession", fn := fun _ => fun
  | [d1, d2] => { results := [.lit (.bool false)], args := [d1, d2] }
  | _ => none }
def FnExactStartSessionWrongFalsely : Prop := fnExactStartSessionRow.holds Try.pinned (OpenSpec.ofChange fnExactStartSessionWrong)

/-- 'laws.FnExactAppendJournal': WHATEVER THE INPUT: true; the input reads as it did. -/
def fnExactAppendJournalSpec : ChangeSpec := { name := "fnExactAppendJournal", fn := fun _ => fun
  | [d1, d2] => { results := [.lit (.bool true)], args := [d1, d2] }
  | _ => none }
def fnExactAppendJournalRow : OpenClaim := { program := "ythmkjapmnlhflaa", sum := "d4131a40290daa85a8659e0e2f872551dbad149388682c495c4db86d38d4e453", func := "loop.example/g00263/laws.FnExactAppendJournal", spec := "fnExactAppendJournal", apart := false }
def FnExactAppendJournalSaid : Prop := fnExactAppendJournalRow.holds Try.pinned (OpenSpec.ofChange fnExactAppendJournalSpec)

/-- ITS FALSE NEIGHBOUR: 'it returns false'. Refute it at one input. -/
def fnExactAppendJournalWrong : ChangeSpec := { name := "fnExactAppendJournal", fn := fun _ => fun
  | [d1, d2] => { results := [.lit (.bool false)], args := [d1, d2] }
  | _ => none }
def FnExactAppendJournalWrongFalsely : Prop := fnExactAppendJournalRow.holds Try.pinned (OpenSpec.ofChange fnExactAppendJournalWrong)

/-- 'laws.FnExactFailSession': WHATEVER THE INPUT: true; the input reads as it did. -/
def fnExactFailSessionSpec : ChangeSpec := { name := "fnExactFailSession", fn := fun _ => fun
  | [d1, d2, d3, d4] => { results := [.lit (.bool true)], args := [d1, d2, d3, d4] }
  | _ => none }
def fnExactFailSessionRow : OpenClaim := { program := "ythmkjapmnlhflaa", sum := "d4131a40290daa85a8659e0e2f872551dbad149388682c495c4db86d38d4e453", func := "loop.example/g00263/laws.FnExactFailSession", spec := "fnExactFailSession", apart := false }
def FnExactFailSessionSaid : Prop := fnExactFailSessionRow.holds Try.pinned (OpenSpec.ofChange fnExactFailSessionSpec)

/-- ITS FALSE NEIGHBOUR: 'it returns false'. Refute it at one input. -/
def fnExactFailSessionWrong : ChangeSpec := { name := "fnExactFailSession", fn := fun _ => fun
  | [d1, d2, d3, d4] => { results := [.lit (.bool false)], args := [d1, d2, d3, d4] }
  | _ => none }
def FnExactFailSessionWrongFalsely : Prop := fnExactFailSessionRow.holds Try.pinned (OpenSpec.ofChange fnExactFailSessionWrong)

/-- 'laws.FnExactStopSession': WHATEVER THE INPUT: true; the input reads as it did. -/
def fnExactStopSessionSpec : ChangeSpec := { name := "fnExactStopSession", fn := fun _ => fun
  | [d1, d2] => { results := [.lit (.bool true)], args := [d1, d2] }
  | _ => none }
def fnExactStopSessionRow : OpenClaim := { program := "ythmkjapmnlhflaa", sum := "d4131a40290daa85a8659e0e2f872551dbad149388682c495c4db86d38d4e453", func := "loop.example/g00263/laws.FnExactStopSession", spec := "fnExactStopSession", apart := false }
def FnExactStopSessionSaid : Prop := fnExactStopSessionRow.holds Try.pinned (OpenSpec.ofChange fnExactStopSessionSpec)

/-- ITS FALSE NEIGHBOUR: 'it returns false'. Refute it at one input. -/
def fnExactStopSessionWrong : ChangeSpec := { name := "fnExactStopSession", fn := fun _ => fun
  | [d1, d2] => { results := [.lit (.bool false)], args := [d1, d2] }
  | _ => none }
def FnExactStopSessionWrongFalsely : Prop := fnExactStopSessionRow.holds Try.pinned (OpenSpec.ofChange fnExactStopSessionWrong)

/-- 'laws.FnExactTickSession': WHATEVER THE INPUT: true; the input reads as it did. -/
def fnExactTickSessionSpec : ChangeSpec := { name := "fnExactTickSession", fn := fun _ => fun
  | [d1, d2] => { results := [.lit (.bool true)], args := [d1, d2] }
  | _ => none }
def fnExactTickSessionRow : OpenClaim := { program := "ythmkjapmnlhflaa", sum := "d4131a40290daa85a8659e0e2f872551dbad149388682c495c4db86d38d4e453", func := "loop.example/g00263/laws.FnExactTickSession", spec := "fnExactTickSession", apart := false }
def FnExactTickSessionSaid : Prop := fnExactTickSessionRow.holds Try.pinned (OpenSpec.ofChange fnExactTickSessionSpec)

/-- ITS FALSE NEIGHBOUR: 'it returns false'. Refute it at one input. -/
def fnExactTickSessionWrong : ChangeSpec := { name := "fnExactTickSession", fn := fun _ => fun
  | [d1, d2] => { results := [.lit (.bool false)], args := [d1, d2] }
  | _ => none }
def FnExactTickSessionWrongFalsely : Prop := fnExactTickSessionRow.holds Try.pinned (OpenSpec.ofChange fnExactTickSessionWrong)

/-- 'laws.FnEntries': WHATEVER THE INPUT: true; the input reads as it did. -/
def fnEntriesSpec : ChangeSpec := { name := "fnEntries", fn := fun _ => fun
  | [d] => { results := [.lit (.bool true)], args := [d] }
  | _ => none }
def fnEntriesRow : OpenClaim := { program := "ythmkjapmnlhflaa", sum := "d4131a40290daa85a8659e0e2f872551dbad149388682c495c4db86d38d4e453", func := "loop.example/g00263/laws.FnEntries", spec := "fnEntries", apart := false }
def FnEntriesSaid : Prop := fnEntriesRow.holds Try.pinned (OpenSpec.ofChange fnEntriesSpec)

/-- ITS FALSE NEIGHBOUR: 'it returns false'. Refute it at one input. -/
def fnEntriesWrong : ChangeSpec := { name := "fnEntries", fn := fun _ => fun
  | [d] => { results := [.lit (.bool false)], args := [d] }
  | _ => none }
def FnEntriesWrongFalsely : Prop := fnEntriesRow.holds Try.pinned (OpenSpec.ofChange fnEntriesWrong)

/-- 'laws.FnCuts': WHATEVER THE INPUT: true; the input reads as it did. -/
def fnCutsSpec : ChangeSpec := { name := "fnCuts", fn := fun _ => fun
  | [d] => { results := [.lit (.bool true)], args := [d] }
  | _ => none }
def fnCutsRow : OpenClaim := { program := "ythmkjapmnlhflaa", sum := "d4131a40290daa85a8659e0e2f872551dbad149388682c495c4db86d38d4e453", func := "loop.example/g00263/laws.FnCuts", spec := "fnCuts", apart := false }
def FnCutsSaid : Prop := fnCutsRow.holds Try.pinned (OpenSpec.ofChange fnCutsSpec)

/-- ITS FALSE NEIGHBOUR: 'it returns false'. Refute it at one input. -/
def fnCutsWrong : ChangeSpec := { name := "fnCuts", fn := fun _ => fun
  | [d] => { results := [.lit (.bool false)], args := [d] }
  | _ => none }
def FnCutsWrongFalsely : Prop := fnCutsRow.holds Try.pinned (OpenSpec.ofChange fnCutsWrong)

/-- 'laws.FnExactSameRouters': WHATEVER THE INPUT: true; the input reads as it did. -/
def fnExactSameRoutersSpec : ChangeSpec := { name := "fnExactSameRouters", fn := fun _ => fun
  | [d1, d2] => { results := [.lit (.bool true)], args := [d1, d2] }
  | _ => none }
def fnExactSameRoutersRow : OpenClaim := { program := "ythmkjapmnlhflaa", sum := "d4131a40290daa85a8659e0e2f872551dbad149388682c495c4db86d38d4e453", func := "loop.example/g00263/laws.FnExactSameRouters", spec := "fnExactSameRouters", unfollowed := true, recurses := true, apart := false }
def FnExactSameRoutersSaid : Prop := fnExactSameRoutersRow.holds Try.pinned (OpenSpec.ofChange fnExactSameRoutersSpec)

/-- ITS FALSE NEIGHBOUR: 'it returns false'. Refute it at one input. -/
def fnExactSameRoutersWrong : ChangeSpec := { name := "fnExactSameRouters", fn := fun _ => fun
  | [d1, d2] => { results := [.lit (.bool false)], args := [d1, d2] }
  | _ => none }
def FnExactSameRoutersWrongFalsely : Prop := fnExactSameRoutersRow.holds Try.pinned (OpenSpec.ofChange fnExactSameRoutersWrong)

/-- 'laws.FnExactOrderPrefixes': WHATEVER THE INPUT: true; the input reads as it did. -/
def fnExactOrderPrefixesSpec : ChangeSpec := { name := "fnExactOrderPrefixes", fn := fun _ => fun
  | [d] => { results := [.lit (.bool true)], args := [d] }
  | _ => none }
def fnExactOrderPrefixesRow : OpenClaim := { program := "ythmkjapmnlhflaa", sum := "d4131a40290daa85a8659e0e2f872551dbad149388682c495c4db86d38d4e453", func := "loop.example/g00263/laws.FnExactOrderPrefixes", spec := "fnExactOrderPrefixes", unfollowed := true, recurses := true, apart := false }
def FnExactOrderPrefixesSaid : Prop := fnExactOrderPrefixesRow.holds Try.pinned (OpenSpec.ofChange fnExactOrderPrefixesSpec)

/-- ITS FALSE NEIGHBOUR: 'it returns false'. Refute it at one input. -/
def fnExactOrderPrefixesWrong : ChangeSpec := { name := "fnExactOrderPrefixes", fn := fun _ => fun
  | [d] => { results := [.lit (.bool false)], args := [d] }
  | _ => none }
def FnExactOrderPrefixesWrongFalsely : Prop := fnExactOrderPrefixesRow.holds Try.pinned (OpenSpec.ofChange fnExactOrderPrefixesWrong)

/- THE SECOND FORM. 'bulk': how many values and letters a reading holds, each counted each time it is reached (what is shared counts as often as it is met; a slice's spare places count too). A statement '..UptoSaid' is the law's where the arguments, and the package variables that the reading takes, are together of bulk at most 1048576: NARROWER than '..Said'. Prove '..Said' where nothing that the law and all that it calls make is longer than what came in: it says more and counts as full. Else prove '..UptoSaid'. A law counts once. -/
mutual
def uptoBulk {H : Type} : DataW H → Nat
  | .lit (.string bytes) => bytes.length + 1
  | .lit _ => 1
  | .nil => 1
  | .ptr d => uptoBulk d + 1
  | .slice elems spare => uptoBulkAll elems + uptoBulkAll spare + 1
  | .agg parts => uptoBulkAll parts + 1
  | .iface _ d => uptoBulk d + 1
  | .map entries => uptoBulkEntries entries + 1
  | .held _ => 1
def uptoBulkAll {H : Type} : List (DataW H) → Nat
  | [] => 0
  | d :: r => uptoBulk d + uptoBulkAll r
def uptoBulkEntries {H : Type} : List (Lit × DataW H) → Nat
  | [] => 0
  | x :: r => uptoBulkEntry x + uptoBulkEntries r
def uptoBulkEntry {H : Type} : Lit × DataW H → Nat
  | (.string bytes, d) => bytes.length + uptoBulk d + 1
  | (_, d) => uptoBulk d + 1
 end
def uptoSmall : (H : Type) → List (DataW H) → Bool := fun _ ds => decide (uptoBulkAll ds ≤ 1048576)
def OpenSpec.upto (s : _root_.Go.ChangeSpec) : _root_.Go.OpenSpec := { _root_.Go.OpenSpec.ofChange s with cond := some uptoSmall }

/-- 'laws.FnExactSyncJournal', WHERE WHAT IT READS IS OF BULK AT MOST 1048576: true; the input reads as it did. -/
def fnExactSyncJournalUptoRow : OpenClaim := { program := "ythmkjapmnlhflaa", sum := "d4131a40290daa85a8659e0e2f872551dbad149388682c495c4db86d38d4e453", func := "loop.example/g00263/laws.FnExactSyncJournal", spec := "fnExactSyncJournal", apart := false, narrowed := true }
def FnExactSyncJournalUptoSaid : Prop := fnExactSyncJournalUptoRow.holds Try.pinned (OpenSpec.upto fnExactSyncJournalSpec)

/-- 'laws.FnExactCrashJournal', WHERE WHAT IT READS IS OF BULK AT MOST 1048576: true; the input reads as it did. -/
def fnExactCrashJournalUptoRow : OpenClaim := { program := "ythmkjapmnlhflaa", sum := "d4131a40290daa85a8659e0e2f872551dbad149388682c495c4db86d38d4e453", func := "loop.example/g00263/laws.FnExactCrashJournal", spec := "fnExactCrashJournal", apart := false, narrowed := true }
def FnExactCrashJournalUptoSaid : Prop := fnExactCrashJournalUptoRow.holds Try.pinned (OpenSpec.upto fnExactCrashJournalSpec)

/-- 'laws.FnExactCutJournal', WHERE WHAT IT READS IS OF BULK AT MOST 1048576: true; the input reads as it did. -/
def fnExactCutJournalUptoRow : OpenClaim := { program := "ythmkjapmnlhflaa", sum := "d4131a40290daa85a8659e0e2f872551dbad149388682c495c4db86d38d4e453", func := "loop.example/g00263/laws.FnExactCutJournal", spec := "fnExactCutJournal", apart := false, narrowed := true }
def FnExactCutJournalUptoSaid : Prop := fnExactCutJournalUptoRow.holds Try.pinned (OpenSpec.upto fnExactCutJournalSpec)

/-- 'laws.FnExactStartSession', WHERE WHAT IT READS IS OF BULK AT MOST 1048576: true; the input reads as it did. -/
def fnExactStartSessionUptoRow : OpenClaim := { program := "ythmkjapmnlhflaa", sum := "d4131a40290daa85a8659e0e2f872551dbad149388682c495c4db86d38d4e453", func := "loop.example/g00263/laws.FnExactStartSession", spec := "fnExactStartSession", apart := false, narrowed := true }
def FnExactStartSessionUptoSaid : Prop := fnExactStartSessionUptoRow.holds Try.pinned (OpenSpec.upto fnExactStartSessionSpec)

/-- 'laws.FnExactAppendJournal', WHERE WHAT IT READS IS OF BULK AT MOST 1048576: true; the input reads as it did. -/
def fnExactAppendJournalUptoRow : OpenClaim := { program := "ythmkjapmnlhflaa", sum := "d4131a40290daa85a8659e0e2f872551dbad149388682c495c4db86d38d4e453", func := "loop.example/g00263/laws.FnExactAppendJournal", spec := "fnExactAppendJournal", apart := false, narrowed := true }
def FnExactAppendJournalUptoSaid : Prop := fnExactAppendJournalUptoRow.holds Try.pinned (OpenSpec.upto fnExactAppendJournalSpec)

/-- 'laws.FnExactFailSession', WHERE WHAT IT READS IS OF BULK AT MOST 1048576: true; the input reads as it did. -/
def fnExactFailSessionUptoRow : OpenClaim := { program := "ythmkjapmnlhflaa", sum := "d4131a40290daa85a8659e0e2f872551dbad149388682c495c4db86d38d4e453", func := "loop.example/g00263/laws.FnExactFailSession", spec := "fnExactFailSession", apart := false, narrowed := true }
def FnExactFailSessionUptoSaid : Prop := fnExactFailSessionUptoRow.holds Try.pinned (OpenSpec.upto fnExactFailSessionSpec)

/-- 'laws.FnExactStopSession', WHERE WHAT IT READS IS OF BULK AT MOST 1048576: true; the input reads as it did. -/
def fnExactStopSessionUptoRow : OpenClaim := { program := "ythmkjapmnlhflaa", sum := "d4131a40290daa85a8659e0e2f872551dbad149388682c495c4db86d38d4e453", func := "loop.example/g00263/laws.FnExactStopSession", spec := "fnExactStopSession", apart := false, narrowed := true }
def FnExactStopSessionUptoSaid : Prop := fnExactStopSessionUptoRow.holds Try.pinned (OpenSpec.upto fnExactStopSessionSpec)

/-- 'laws.FnExactTickSession', WHERE WHAT IT READS IS OF BULK AT MOST 1048576: true; the input reads as it did. -/
def fnExactTickSessionUptoRow : OpenClaim := { program := "ythmkjapmnlhflaa", sum := "d4131a40290daa85a8659e0e2f872551dbad149388682c495c4db86d38d4e453", func := "loop.example/g00263/laws.FnExactTickSession", spec := "fnExactTickSession", apart := false, narrowed := true }
def FnExactTickSessionUptoSaid : Prop := fnExactTickSessionUptoRow.holds Try.pinned (OpenSpec.upto fnExactTickSessionSpec)

/-- 'laws.FnEntries', WHERE WHAT IT READS IS OF BULK AT MOST 1048576: true; the input reads as it did. -/
def fnEntriesUptoRow : OpenClaim := { program := "ythmkjapmnlhflaa", sum := "d4131a40290daa85a8659e0e2f872551dbad149388682c495c4db86d38d4e453", func := "loop.example/g00263/laws.FnEntries", spec := "fnEntries", apart := false, narrowed := true }
def FnEntriesUptoSaid : Prop := fnEntriesUptoRow.holds Try.pinned (OpenSpec.upto fnEntriesSpec)

/-- 'laws.FnCuts', WHERE WHAT IT READS IS OF BULK AT MOST 1048576: true; the input reads as it did. -/
def fnCutsUptoRow : OpenClaim := { program := "ythmkjapmnlhflaa", sum := "d4131a40290daa85a8659e0e2f872551dbad149388682c495c4db86d38d4e453", func := "loop.example/g00263/laws.FnCuts", spec := "fnCuts", apart := false, narrowed := true }
def FnCutsUptoSaid : Prop := fnCutsUptoRow.holds Try.pinned (OpenSpec.upto fnCutsSpec)

/-- 'laws.FnExactSameRouters', WHERE WHAT IT READS IS OF BULK AT MOST 1048576: true; the input reads as it did. -/
def fnExactSameRoutersUptoRow : OpenClaim := { program := "ythmkjapmnlhflaa", sum := "d4131a40290daa85a8659e0e2f872551dbad149388682c495c4db86d38d4e453", func := "loop.example/g00263/laws.FnExactSameRouters", spec := "fnExactSameRouters", unfollowed := true, recurses := true, apart := false, narrowed := true }
def FnExactSameRoutersUptoSaid : Prop := fnExactSameRoutersUptoRow.holds Try.pinned (OpenSpec.upto fnExactSameRoutersSpec)

/-- 'laws.FnExactOrderPrefixes', WHERE WHAT IT READS IS OF BULK AT MOST 1048576: true; the input reads as it did. -/
def fnExactOrderPrefixesUptoRow : OpenClaim := { program := "ythmkjapmnlhflaa", sum := "d4131a40290daa85a8659e0e2f872551dbad149388682c495c4db86d38d4e453", func := "loop.example/g00263/laws.FnExactOrderPrefixes", spec := "fnExactOrderPrefixes", unfollowed := true, recurses := true, apart := false, narrowed := true }
def FnExactOrderPrefixesUptoSaid : Prop := fnExactOrderPrefixesUptoRow.holds Try.pinned (OpenSpec.upto fnExactOrderPrefixesSpec)

end Rows
end Go.Proofs.Ythmkjapmnlhflaa
