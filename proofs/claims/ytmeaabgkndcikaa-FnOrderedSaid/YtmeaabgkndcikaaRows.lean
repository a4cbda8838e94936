/-
  No cell of these rows narrows 'for every input' (looked for: loops, veiled, ifaces, maps, wideKeys, modest, calm, conditions, laid).
  DERIVED. THE GIVEN ROWS OF THIS SEAT. 12 by the template 'for every input the law returns true; each argument reads behind the call as it read before'; 0 by the template 'total and deterministic' (their statements: YtmeaabgkndcikaaTotals.lean).
  GIVEN WITH THE SEED: the statements are not yours to turn. If you find one false, say at which input.
  Laid BY PROGRAM, IN A SANDBOX (cutbox-rows.mjs): the forced cells as the released guide's own fill.sh prints them over the translation bf12626bb38a0ac0… (all of the seat's roots in one cut). By AI agents, Wed Nov 11 2026. No macro, syntax, notation, axiom, sorry.
-/
import Derived.Test.YtmeaabgkndcikaaChecked
import GoSem.Claim
import GoSem.ClaimJoined
import GoSem.ClaimMapViews
import Derived.JoinedTies
import Derived.KernelRfl
namespace Go.Proofs.Ytmeaabgkndcikaa
/- THE CELL 'sum', in the pinned program and in every row, IS THE sha256 OF THE DUMP (.gsa) THAT YtmeaabgkndcikaaProg.lean LOADS. Nothing in Lean hashes anything: it is a label: what it is worth is what the hold of that sum in a sandbox is worth. -/
noncomputable def Try.pinned : Pinned := { name := "ytmeaabgkndcikaa", sum := "bf12626bb38a0ac05435bee835eb3d37a6ce06329cdae9cf40a6b24dd0f05e95", checked := Try.checked }
namespace Rows
def none {H : Type} : Left H := { results := [], args := [] }

/-- 'laws.FnExactHasLoop': WHATEVER THE INPUT: true; the input reads as it did. -/
def fnExactHasLoopSpec : ChangeSpec := { name := "fnExactHasLoop", fn := fun _ => fun
  | [d1, d2] => { results := [.lit (.bool true)], args := [d1, d2] }
  | _ => none }
def fnExactHasLoopRow : OpenClaim := { program := "ytmeaabgkndcikaa", sum := "bf12626bb38a0ac05435bee835eb3d37a6ce06329cdae9cf40a6b24dd0f05e95", func := "loop.example/g00263/laws.FnExactHasLoop", spec := "fnExactHasLoop", apart := false }
def FnExactHasLoopSaid : Prop := fnExactHasLoopRow.holds Try.pinned (OpenSpec.ofChange fnExactHasLoopSpec)

/-- ITS FALSE NEIGHBOUR: 'it returns false'. Refute it at one input. -/
def fnExactHasLoopWrong : ChangeSpec := { name := "fnExactHasLoop", fn := fun _ => fun
  | [d1, d2] => { results := [.lit (.bool false)], args := [d1, d2] }
  | _ => none }
def FnExactHasLoopWrongFalsely : Prop := fnExactHasLoopRow.holds Try.pinned (OpenSpec.ofChange fnExactHasLoopWrong)

/-- 'laws.FnExactSameAttrs': WHATEVER THE INPUT: true; the input reads as it did. -/
def fnExactSameAttrsSpec : ChangeSpec := { name := "fnExactSameAttrs", fn := fun _ => fun
  | [d1, d2] => { results := [.lit (.bool true)], args := [d1, d2] }
  | _ => none }
def fnExactSameAttrsRow : OpenClaim := { program := "ytmeaabgkndcikaa", sum := "bf12626bb38a0ac05435bee835eb3d37a6ce06329cdae9cf40a6b24dd0f05e95", func := "loop.example/g00263/laws.FnExactSameAttrs", spec := "fnExactSameAttrs", apart := false }
def FnExactSameAttrsSaid : Prop := fnExactSameAttrsRow.holds Try.pinned (OpenSpec.ofChange fnExactSameAttrsSpec)

/-- ITS FALSE NEIGHBOUR: 'it returns false'. Refute it at one input. -/
def fnExactSameAttrsWrong : ChangeSpec := { name := "fnExactSameAttrs", fn := fun _ => fun
  | [d1, d2] => { results := [.lit (.bool false)], args := [d1, d2] }
  | _ => none }
def FnExactSameAttrsWrongFalsely : Prop := fnExactSameAttrsRow.holds Try.pinned (OpenSpec.ofChange fnExactSameAttrsWrong)

/-- 'laws.FnExactEventFault': WHATEVER THE INPUT: true; the input reads as it did. -/
def fnExactEventFaultSpec : ChangeSpec := { name := "fnExactEventFault", fn := fun _ => fun
  | [d] => { results := [.lit (.bool true)], args := [d] }
  | _ => none }
def fnExactEventFaultRow : OpenClaim := { program := "ytmeaabgkndcikaa", sum := "bf12626bb38a0ac05435bee835eb3d37a6ce06329cdae9cf40a6b24dd0f05e95", func := "loop.example/g00263/laws.FnExactEventFault", spec := "fnExactEventFault", apart := false }
def FnExactEventFaultSaid : Prop := fnExactEventFaultRow.holds Try.pinned (OpenSpec.ofChange fnExactEventFaultSpec)

/-- ITS FALSE NEIGHBOUR: 'it returns false'. Refute it at one input. -/
def fnExactEventFaultWrong : ChangeSpec := { name := "fnExactEventFault", fn := fun _ => fun
  | [d] => { results := [.lit (.bool false)], args := [d] }
  | _ => none }
def FnExactEventFaultWrongFalsely : Prop := fnExactEventFaultRow.holds Try.pinned (OpenSpec.ofChange fnExactEventFaultWrong)

/-- 'laws.FnOrdered': WHATEVER THE INPUT: true; the input reads as it did. -/
def fnOrderedSpec : ChangeSpec := { name := "fnOrdered", fn := fun _ => fun
  | [d] => { results := [.lit (.bool true)], args := [d] }
  | _ => none }
def fnOrderedRow : OpenClaim := { program := "ytmeaabgkndcikaa", sum := "bf12626bb38a0ac05435bee835eb3d37a6ce06329cdae9cf40a6b24dd0f05e95", func := "loop.example/g00263/laws.FnOrdered", spec := "fnOrdered", apart := false }
def FnOrderedSaid : Prop := fnOrderedRow.holds Try.pinned (OpenSpec.ofChange fnOrderedSpec)

/-- ITS FALSE NEIGHBOUR: 'it returns false'. Refute it at one input. -/
def fnOrderedWrong : ChangeSpec := { name := "fnOrdered", fn := fun _ => fun
  | [d] => { results := [.lit (.bool false)], args := [d] }
  | _ => none }
def FnOrderedWrongFalsely : Prop := fnOrderedRow.holds Try.pinned (OpenSpec.ofChange fnOrderedWrong)

/-- 'laws.FnExactAttrsFault': WHATEVER THE INPUT: true; the input reads as it did. -/
def fnExactAttrsFaultSpec : ChangeSpec := { name := "fnExactAttrsFault", fn := fun _ => fun
  | [d] => { results := [.lit (.bool true)], args := [d] }
  | _ => none }
def fnExactAttrsFaultRow : OpenClaim := { program := "ytmeaabgkndcikaa", sum := "bf12626bb38a0ac05435bee835eb3d37a6ce06329cdae9cf40a6b24dd0f05e95", func := "loop.example/g00263/laws.FnExactAttrsFault", spec := "fnExactAttrsFault", unfollowed := true, recurses := true, apart := false }
def FnExactAttrsFaultSaid : Prop := fnExactAttrsFaultRow.holds Try.pinned (OpenSpec.ofChange fnExactAttrsFaultSpec)

/-- ITS FALSE NEIGHBOUR: 'it returns false'. Refute it at one input. -/
def fnExactAttrsFaultWrong : ChangeSpec := { name := "fnExactAttrsFault", fn := fun _ => fun
  | [d] => { results := [.lit (.bool false)], args := [d] }
  | _ => none }
def FnExactAttrsFaultWrongFalsely : Prop := fnExactAttrsFaultRow.holds Try.pinned (OpenSpec.ofChange fnExactAttrsFaultWrong)

/-- 'laws.FnExactEntryFault': WHATEVER THE INPUT: true; the input reads as it did. -/
def fnExactEntryFaultSpec : ChangeSpec := { name := "fnExactEntryFault", fn := fun _ => fun
  | [d] => { results := [.lit (.bool true)], args := [d] }
  | _ => none }
def fnExactEntryFaultRow : OpenClaim := { program := "ytmeaabgkndcikaa", sum := "bf12626bb38a0ac05435bee835eb3d37a6ce06329cdae9cf40a6b24dd0f05e95", func := "loop.example/g00263/laws.FnExactEntryFault", spec := "fnExactEntryFault", apart := false }
def FnExactEntryFaultSaid : Prop := fnExactEntryFaultRow.holds Try.pinned (OpenSpec.ofChange fnExactEntryFaultSpec)

/-- ITS FALSE NEIGHBOUR: 'it returns false'. Refute it at one input. -/
def fnExactEntryFaultWrong : ChangeSpec := { name := "fnExactEntryFault", fn := fun _ => fun
  | [d] => { results := [.lit (.bool false)], args := [d] }
  | _ => none }
def FnExactEntryFaultWrongFalsely : Prop := fnExactEntryFaultRow.holds Try.pinned (OpenSpec.ofChange fnExactEntryFaultWrong)

/-- 'laws.FnExactRouterFault': WHATEVER THE INPUT: true; the input reads as it did. -/
def fnExactRouterFaultSpec : ChangeSpec := { name := "fnExactRouterFault", fn := fun _ => fun
  | [d] => { results := [.lit (.bool true)], args := [d] }
  | _ => none }
def fnExactRouterFaultRow : OpenClaim := { program := "ytmeaabgkndcikaa", sum := "bf12626bb38a0ac05435bee835eb3d37a6ce06329cdae9cf40a6b24dd0f05e95", func := "loop.example/g00263/laws.FnExactRouterFault", spec := "fnExactRouterFault", unfollowed := true, recurses := true, apart := false }
def FnExactRouterFaultSaid : Prop := fnExactRouterFaultRow.holds Try.pinned (OpenSpec.ofChange fnExactRouterFaultSpec)

/-- ITS FALSE NEIGHBOUR: 'it returns false'. Refute it at one input. -/
def fnExactRouterFaultWrong : ChangeSpec := { name := "fnExactRouterFault", fn := fun _ => fun
  | [d] => { results := [.lit (.bool false)], args := [d] }
  | _ => none }
def FnExactRouterFaultWrongFalsely : Prop := fnExactRouterFaultRow.holds Try.pinned (OpenSpec.ofChange fnExactRouterFaultWrong)

/-- 'laws.FnFrames': WHATEVER THE INPUT: true; the input reads as it did. -/
def fnFramesSpec : ChangeSpec := { name := "fnFrames", fn := fun _ => fun
  | [d] => { results := [.lit (.bool true)], args := [d] }
  | _ => none }
def fnFramesRow : OpenClaim := { program := "ytmeaabgkndcikaa", sum := "bf12626bb38a0ac05435bee835eb3d37a6ce06329cdae9cf40a6b24dd0f05e95", func := "loop.example/g00263/laws.FnFrames", spec := "fnFrames", apart := false }
def FnFramesSaid : Prop := fnFramesRow.holds Try.pinned (OpenSpec.ofChange fnFramesSpec)

/-- ITS FALSE NEIGHBOUR: 'it returns false'. Refute it at one input. -/
def fnFramesWrong : ChangeSpec := { name := "fnFrames", fn := fun _ => fun
  | [d] => { results := [.lit (.bool false)], args := [d] }
  | _ => none }
def FnFramesWrongFalsely : Prop := fnFramesRow.holds Try.pinned (OpenSpec.ofChange fnFramesWrong)

/-- 'laws.FnExactPackFrame': WHATEVER THE INPUT: true; the input reads as it did. -/
def fnExactPackFrameSpec : ChangeSpec := { name := "fnExactPackFrame", fn := fun _ => fun
  | [d] => { results := [.lit (.bool true)], args := [d] }
  | _ => none }
def fnExactPackFrameRow : OpenClaim := { program := "ytmeaabgkndcikaa", sum := "bf12626bb38a0ac05435bee835eb3d37a6ce06329cdae9cf40a6b24dd0f05e95", func := "loop.example/g00263/laws.FnExactPackFrame", spec := "fnExactPackFrame", apart := false }
def FnExactPackFrameSaid : Prop := fnExactPackFrameRow.holds Try.pinned (OpenSpec.ofChange fnExactPackFrameSpec)

/-- ITS FALSE NEIGHBOUR: 'it returns false'. Refute it at one input. -/
def fnExactPackFrameWrong : ChangeSpec := { name := "fnExactPackFrame", fn := fun _ => fun
  | [d] => { results := [.lit (.bool false)], args := [d] }
  | _ => none }
def FnExactPackFrameWrongFalsely : Prop := fnExactPackFrameRow.holds Try.pinned (OpenSpec.ofChange fnExactPackFrameWrong)

/-- 'laws.FnExactLongestFor': WHATEVER THE INPUT: true; the input reads as it did. -/
def fnExactLongestForSpec : ChangeSpec := { name := "fnExactLongestFor", fn := fun _ => fun
  | [d1, d2] => { results := [.lit (.bool true)], args := [d1, d2] }
  | _ => none }
def fnExactLongestForRow : OpenClaim := { program := "ytmeaabgkndcikaa", sum := "bf12626bb38a0ac05435bee835eb3d37a6ce06329cdae9cf40a6b24dd0f05e95", func := "loop.example/g00263/laws.FnExactLongestFor", spec := "fnExactLongestFor", apart := false }
def FnExactLongestForSaid : Prop := fnExactLongestForRow.holds Try.pinned (OpenSpec.ofChange fnExactLongestForSpec)

/-- ITS FALSE NEIGHBOUR: 'it returns false'. Refute it at one input. -/
def fnExactLongestForWrong : ChangeSpec := { name := "fnExactLongestFor", fn := fun _ => fun
  | [d1, d2] => { results := [.lit (.bool false)], args := [d1, d2] }
  | _ => none }
def FnExactLongestForWrongFalsely : Prop := fnExactLongestForRow.holds Try.pinned (OpenSpec.ofChange fnExactLongestForWrong)

/-- 'laws.FnExports': WHATEVER THE INPUT: true; the input reads as it did. -/
def fnExportsSpec : ChangeSpec := { name := "fnExports", fn := fun _ => fun
  | [d] => { results := [.lit (.bool true)], args := [d] }
  | _ => none }
def fnExportsRow : OpenClaim := { program := "ytmeaabgkndcikaa", sum := "bf12626bb38a0ac05435bee835eb3d37a6ce06329cdae9cf40a6b24dd0f05e95", func := "loop.example/g00263/laws.FnExports", spec := "fnExports", unfollowed := true, recurses := true, apart := false }
def FnExportsSaid : Prop := fnExportsRow.holds Try.pinned (OpenSpec.ofChange fnExportsSpec)

/-- ITS FALSE NEIGHBOUR: 'it returns false'. Refute it at one input. -/
def fnExportsWrong : ChangeSpec := { name := "fnExports", fn := fun _ => fun
  | [d] => { results := [.lit (.bool false)], args := [d] }
  | _ => none }
def FnExportsWrongFalsely : Prop := fnExportsRow.holds Try.pinned (OpenSpec.ofChange fnExportsWrong)

/-- 'laws.FnExactRulesFault': WHATEVER THE INPUT: true; the input reads as it did. -/
def fnExactRulesFaultSpec : ChangeSpec := { name := "fnExactRulesFault", fn := fun _ => fun
  | [d] => { results := [.lit (.bool true)], args := [d] }
  | _ => none }
def fnExactRulesFaultRow : OpenClaim := { program := "ytmeaabgkndcikaa", sum := "bf12626bb38a0ac05435bee835eb3d37a6ce06329cdae9cf40a6b24dd0f05e95", func := "loop.example/g00263/laws.FnExactRulesFault", spec := "fnExactRulesFault", apart := false }
def FnExactRulesFaultSaid : Prop := fnExactRulesFaultRow.holds Try.pinned (OpenSpec.ofChange fnExactRulesFaultSpec)

/-- ITS FALSE NEIGHBOUR: 'it returns false'. Refute it at one input. -/
def fnExactRulesFaultWrong : ChangeSpec := { name := "fnExactRulesFault", fn := fun _ => fun
  | [d] => { results := [.lit (.bool false)], args := [d] }
  | _ => none }
def FnExactRulesFaultWrongFalsely : Prop := fnExactRulesFaultRow.holds Try.pinned (OpenSpec.ofChange fnExactRulesFaultWrong)

/- THE SECOND FORM. 'bulk': how many values and letters a reading holds, each counted each time it is reached (what is shared counts as often as it is met; a slice's spare places count too). A statement '..UptoSaid' is the law's where the arguments, and the package variables that the reading takes, are together of bulk at most 1048576: NARROWER than '..Said'. Prove '..Said' where nothing that the law and all that it calls make is longer than what came in: it says more and counts as full. Else prove '..UptoSaid'. A law counts once. -/
mutual
def uptoBulk {H : Type} : DataW H → Nat
  | .lit (.string bytes) => bytes.length + 1
  | .lit _ => 1
  | .nil => 1
  | .ptr d => uptoBulk d + 1
  | .slice elems spare => uptoBulkAll elems + uptoBulkAll spare + 1
  | .agg parts => uptoBulkAll parts + 1
  | .iface _ d => uptoBulk d + 1
  | .map entries => uptoBulkEntries entries + 1
  | .held _ => 1
def uptoBulkAll {H : Type} : List (DataW H) → Nat
  | [] => 0
  | d :: r => uptoBulk d + uptoBulkAll r
def uptoBulkEntries {H : Type} : List (Lit × DataW H) → Nat
  | [] => 0
  | x :: r => uptoBulkEntry x + uptoBulkEntries r
def uptoBulkEntry {H : Type} : Lit × DataW H → Nat
  | (.string bytes, d) => bytes.length + uptoBulk d + 1
  | (_, d) => uptoBulk d + 1
 end
def uptoSmall : (H : Type) → List (DataW H) → Bool := fun _ ds => decide (uptoBulkAll ds ≤ 1048576)
def OpenSpec.upto (s : _root_.Go.ChangeSpec) : _root_.Go.OpenSpec := { _root_.Go.OpenSpec.ofChange s with cond := some uptoSmall }

/-- 'laws.FnExactHasLoop', WHERE WHAT IT READS IS OF BULK AT MOST 1048576: true; the input reads as it did. -/
def fnExactHasLoopUptoRow : OpenClaim := { program := "ytmeaabgkndcikaa", sum := "bf12626bb38a0ac05435bee835eb3d37a6ce06329cdae9cf40a6b24dd0f05e95", func := "loop.example/g00263/laws.FnExactHasLoop", spec := "fnExactHasLoop", apart := false, narrowed := true }
def FnExactHasLoopUptoSaid : Prop := fnExactHasLoopUptoRow.holds Try.pinned (OpenSpec.upto fnExactHasLoopSpec)

/-- 'laws.FnExactSameAttrs', WHERE WHAT IT READS IS OF BULK AT MOST 1048576: true; the input reads as it did. -/
def fnExactSameAttrsUptoRow : OpenClaim := { program := "ytmeaabgkndcikaa", sum := "bf12626bb38a0ac05435bee835eb3d37a6ce06329cdae9cf40a6b24dd0f05e95", func := "loop.example/g00263/laws.FnExactSameAttrs", spec := "fnExactSameAttrs", apart := false, narrowed := true }
def FnExactSameAttrsUptoSaid : Prop := fnExactSameAttrsUptoRow.holds Try.pinned (OpenSpec.upto fnExactSameAttrsSpec)

/-- 'laws.FnExactEventFault', WHERE WHAT IT READS IS OF BULK AT MOST 1048576: true; the input reads as it did. -/
def fnExactEventFaultUptoRow : OpenClaim := { program := "ytmeaabgkndcikaa", sum := "bf12626bb38a0ac05435bee835eb3d37a6ce06329cdae9cf40a6b24dd0f05e95", func := "loop.example/g00263/laws.FnExactEventFault", spec := "fnExactEventFault", apart := false, narrowed := true }
def FnExactEventFaultUptoSaid : Prop := fnExactEventFaultUptoRow.holds Try.pinned (OpenSpec.upto fnExactEventFaultSpec)

/-- 'laws.FnOrdered', WHERE WHAT IT READS IS OF BULK AT MOST 1048576: true; the input reads as it did. -/
def fnOrderedUptoRow : OpenClaim := { program := "ytmeaabgkndcikaa", sum := "bf12626bb38a0ac05435bee835eb3d37a6ce06329cdae9cf40a6b24dd0f05e95", func := "loop.example/g00263/laws.FnOrdered", spec := "fnOrdered", apart := false, narrowed := true }
def FnOrderedUptoSaid : Prop := fnOrderedUptoRow.holds Try.pinned (OpenSpec.upto fnOrderedSpec)

/-- 'laws.FnExactAttrsFault', WHERE WHAT IT READS IS OF BULK AT MOST 1048576: true; the input reads as it did. -/
def fnExactAttrsFaultUptoRow : OpenClaim := { program := "ytmeaabgkndcikaa", sum := "bf12626bb38a0ac05435bee835eb3d37a6ce06329cdae9cf40a6b24dd0f05e95", func := "loop.example/g00263/laws.FnExactAttrsFault", spec := "fnExactAttrsFault", unfollowed := true, recurses := true, apart := false, narrowed := true }
def FnExactAttrsFaultUptoSaid : Prop := fnExactAttrsFaultUptoRow.holds Try.pinned (OpenSpec.upto fnExactAttrsFaultSpec)

/-- 'laws.FnExactEntryFault', WHERE WHAT IT READS IS OF BULK AT MOST 1048576: true; the input reads as it did. -/
def fnExactEntryFaultUptoRow : OpenClaim := { program := "ytmeaabgkndcikaa", sum := "bf12626bb38a0ac05435bee835eb3d37a6ce06329cdae9cf40a6b24dd0f05e95", func := "loop.example/g00263/laws.FnExactEntryFault", spec := "fnExactEntryFault", apart := false, narrowed := true }
def FnExactEntryFaultUptoSaid : Prop := fnExactEntryFaultUptoRow.holds Try.pinned (OpenSpec.upto fnExactEntryFaultSpec)

/-- 'laws.FnExactRouterFault', WHERE WHAT IT READS IS OF BULK AT MOST 1048576: true; the input reads as it did. -/
def fnExactRouterFaultUptoRow : OpenClaim := { program := "ytmeaabgkndcikaa", sum := "bf12626bb38a0ac05435bee835eb3d37a6ce06329cdae9cf40a6b24dd0f05e95", func := "loop.example/g00263/laws.FnExactRouterFault", spec := "fnExactRouterFault", unfollowed := true, recurses := true, apart := false, narrowed := true }
def FnExactRouterFaultUptoSaid : Prop := fnExactRouterFaultUptoRow.holds Try.pinned (OpenSpec.upto fnExactRouterFaultSpec)

/-- 'laws.FnFrames', WHERE WHAT IT READS IS OF BULK AT MOST 1048576: true; the input reads as it did. -/
def fnFramesUptoRow : OpenClaim := { program := "ytmeaabgkndcikaa", sum := "bf12626bb38a0ac05435bee835eb3d37a6ce06329cdae9cf40a6b24dd0f05e95", func := "loop.example/g00263/laws.FnFrames", spec := "fnFrames", apart := false, narrowed := true }
def FnFramesUptoSaid : Prop := fnFramesUptoRow.holds Try.pinned (OpenSpec.upto fnFramesSpec)

/-- 'laws.FnExactPackFrame', WHERE WHAT IT READS IS OF BULK AT MOST 1048576: true; the input reads as it did. -/
def fnExactPackFrameUptoRow : OpenClaim := { program := "ytmeaabgkndcikaa", sum := "bf12626bb38a0ac05435bee835eb3d37a6ce06329cdae9cf40a6b24dd0f05e95", func := "loop.example/g00263/laws.FnExactPackFrame", spec := "fnExactPackFrame", apart := false, narrowed := true }
def FnExactPackFrameUptoSaid : Prop := fnExactPackFrameUptoRow.holds Try.pinned (OpenSpec.upto fnExactPackFrameSpec)

/-- 'laws.FnExactLongestFor', WHERE WHAT IT READS IS OF BULK AT MOST 1048576: true; the input reads as it did. -/
def fnExactLongestForUptoRow : OpenClaim := { program := "ytmeaabgkndcikaa", sum := "bf12626bb38a0ac05435bee835eb3d37a6ce06329cdae9cf40a6b24dd0f05e95", func := "loop.example/g00263/laws.FnExactLongestFor", spec := "fnExactLongestFor", apart := false, narrowed := true }
def FnExactLongestForUptoSaid : Prop := fnExactLongestForUptoRow.holds Try.pinned (OpenSpec.upto fnExactLongestForSpec)

/-- 'laws.FnExports', WHERE WHAT IT READS IS OF BULK AT MOST 1048576: true; the input reads as it did. -/
def fnExportsUptoRow : OpenClaim := { program := "ytmeaabgkndcikaa", sum := "bf12626bb38a0ac05435bee835eb3d37a6ce06329cdae9cf40a6b24dd0f05e95", func := "loop.example/g00263/laws.FnExports", spec := "fnExports", unfollowed := true, recurses := true, apart := false, narrowed := true }
def FnExportsUptoSaid : Prop := fnExportsUptoRow.holds Try.pinned (OpenSpec.upto fnExportsSpec)

/-- 'laws.FnExactRulesFault', WHERE WHAT IT READS IS OF BULK AT MOST 1048576: true; the input reads as it did. -/
def fnExactRulesFaultUptoRow : OpenClaim := { program := "ytmeaabgkndcikaa", sum := "bf12626bb38a0ac05435bee835eb3d37a6ce06329cdae9cf40a6b24dd0f05e95", func := "loop.example/g00263/laws.FnExactRulesFault", spec := "fnExactRulesFault", apart := false, narrowed := true }
def FnExactRulesFaultUptoSaid : Prop := fnExactRulesFaultUptoRow.holds Try.pinned (OpenSpec.upto fnExactRulesFaultSpec)

end Rows
end Go.Proofs.Ytmeaabgkndcikaa
