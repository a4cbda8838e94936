/-
  No cell of these rows narrows 'for every input' (looked for: loops, veiled, ifaces, maps, wideKeys, modest, calm, conditions, laid).
  DERIVED. THE GIVEN ROWS OF THIS SEAT. 11 by the template 'for every input the law returns true; each argument reads behind the call as it read before'; 0 by the template 'total and deterministic' (their statements: YtbahoffaamccoaaTotals.lean).
  GIVEN WITH THE SEED: the statements are not yours to turn. If you find one false, say at which input.
  Laid BY PROGRAM, IN A SANDBOX (cutbox-rows.mjs): the forced cells as the released guide's own fill.sh prints them over the translation 1c682a562551cf1d… (all of the seat's roots in one cut). By AI agents, Wed Nov 11 2026. No macro, syntax, notation, axiom, sorry.
-/
import Derived.Test.YtbahoffaamccoaaChecked
import GoSem.Claim
import GoSem.ClaimJoined
import GoSem.ClaimMapViews
import Derived.JoinedTies
import Derived.KernelRfl
namespace Go.Proofs.Ytbahoffaamccoaa
/- THE CELL 'sum', in the pinned program and in every row, IS THE sha256 OF THE DUMP (.gsa) THAT YtbahoffaamccoaaProg.lean LOADS. Nothing in Lean hashes anything: it is a label: what it is worth is what the hold of that sum in a sandbox is worth. -/
noncomputable def Try.pinned : Pinned := { name := "ytbahoffaamccoaa", sum := "1c682a562551cf1de3942d838447aa5b2ed7eec0afc33f205103a9a935464fec", checked := Try.checked }
namespace Rows
def none {H : Type} : Left H := { results := [], args := [] }

/-- 'laws.FnExactConstants': WHATEVER THE INPUT: true; the input reads as it did. -/
def fnExactConstantsSpec : ChangeSpec := { name := "fnExactConstants", fn := fun _ => fun
  | [] => { results := [.lit (.bool true)], args := [] }
  | _ => none }
def fnExactConstantsRow : OpenClaim := { program := "ytbahoffaamccoaa", sum := "1c682a562551cf1de3942d838447aa5b2ed7eec0afc33f205103a9a935464fec", func := "loop.example/g00263/laws.FnExactConstants", spec := "fnExactConstants", apart := false }
def FnExactConstantsSaid : Prop := fnExactConstantsRow.holds Try.pinned (OpenSpec.ofChange fnExactConstantsSpec)

/-- ITS FALSE NEIGHBOUR: 'it returns false'. Refute it at one input. -/
def fnExactConstantsWrong : ChangeSpec := { name := "fnExactConstants", fn := fun _ => fun
  | [] => { results := [.lit (.bool false)], args := [] }
  | _ => none }
def FnExactConstantsWrongFalsely : Prop := fnExactConstantsRow.holds Try.pinned (OpenSpec.ofChange fnExactConstantsWrong)

/-- 'laws.FnExactConfigFault': WHATEVER THE INPUT: true; the input reads as it did. -/
def fnExactConfigFaultSpec : ChangeSpec := { name := "fnExactConfigFault", fn := fun _ => fun
  | [d] => { results := [.lit (.bool true)], args := [d] }
  | _ => none }
def fnExactConfigFaultRow : OpenClaim := { program := "ytbahoffaamccoaa", sum := "1c682a562551cf1de3942d838447aa5b2ed7eec0afc33f205103a9a935464fec", func := "loop.example/g00263/laws.FnExactConfigFault", spec := "fnExactConfigFault", apart := false }
def FnExactConfigFaultSaid : Prop := fnExactConfigFaultRow.holds Try.pinned (OpenSpec.ofChange fnExactConfigFaultSpec)

/-- ITS FALSE NEIGHBOUR: 'it returns false'. Refute it at one input. -/
def fnExactConfigFaultWrong : ChangeSpec := { name := "fnExactConfigFault", fn := fun _ => fun
  | [d] => { results := [.lit (.bool false)], args := [d] }
  | _ => none }
def FnExactConfigFaultWrongFalsely : Prop := fnExactConfigFaultRow.holds Try.pinned (OpenSpec.ofChange fnExactConfigFaultWrong)

/-- 'laws.FnExactSumBytes': WHATEVER THE INPUT: true; the input reads as it did. -/
def fnExactSumBytesSpec : ChangeSpec := { name := "fnExactSumBytes", fn := fun _ => fun
  | [d] => { results := [.lit (.bool true)], args := [d] }
  | _ => none }
def fnExactSumBytesRow : OpenClaim := { program := "ytbahoffaamccoaa", sum := "1c682a562551cf1de3942d838447aa5b2ed7eec0afc33f205103a9a935464fec", func := "loop.example/g00263/laws.FnExactSumBytes", spec := "fnExactSumBytes", apart := false }
def FnExactSumBytesSaid : Prop := fnExactSumBytesRow.holds Try.pinned (OpenSpec.ofChange fnExactSumBytesSpec)

/-- ITS FALSE NEIGHBOUR: 'it returns false'. Refute it at one input. -/
def fnExactSumBytesWrong : ChangeSpec := { name := "fnExactSumBytes", fn := fun _ => fun
  | [d] => { results := [.lit (.bool false)], args := [d] }
  | _ => none }
def FnExactSumBytesWrongFalsely : Prop := fnExactSumBytesRow.holds Try.pinned (OpenSpec.ofChange fnExactSumBytesWrong)

/-- 'laws.FnExactPrefixFault': WHATEVER THE INPUT: true; the input reads as it did. -/
def fnExactPrefixFaultSpec : ChangeSpec := { name := "fnExactPrefixFault", fn := fun _ => fun
  | [d] => { results := [.lit (.bool true)], args := [d] }
  | _ => none }
def fnExactPrefixFaultRow : OpenClaim := { program := "ytbahoffaamccoaa", sum := "1c682a562551cf1de3942d838447aa5b2ed7eec0afc33f205103a9a935464fec", func := "loop.example/g00263/laws.FnExactPrefixFault", spec := "fnExactPrefixFault", apart := false }
def FnExactPrefixFaultSaid : Prop := fnExactPrefixFaultRow.holds Try.pinned (OpenSpec.ofChange fnExactPrefixFaultSpec)

/-- ITS FALSE NEIGHBOUR: 'it returns false'. Refute it at one input. -/
def fnExactPrefixFaultWrong : ChangeSpec := { name := "fnExactPrefixFault", fn := fun _ => fun
  | [d] => { results := [.lit (.bool false)], args := [d] }
  | _ => none }
def FnExactPrefixFaultWrongFalsely : Prop := fnExactPrefixFaultRow.holds Try.pinned (OpenSpec.ofChange fnExactPrefixFaultWrong)

/-- 'laws.FnExactHasAddr': WHATEVER THE INPUT: true; the input reads as it did. -/
def fnExactHasAddrSpec : ChangeSpec := { name := "fnExactHasAddr", fn := fun _ => fun
  | [d1, d2] => { results := [.lit (.bool true)], args := [d1, d2] }
  | _ => none }
def fnExactHasAddrRow : OpenClaim := { program := "ytbahoffaamccoaa", sum := "1c682a562551cf1de3942d838447aa5b2ed7eec0afc33f205103a9a935464fec", func := "loop.example/g00263/laws.FnExactHasAddr", spec := "fnExactHasAddr", apart := false }
def FnExactHasAddrSaid : Prop := fnExactHasAddrRow.holds Try.pinned (OpenSpec.ofChange fnExactHasAddrSpec)

/-- ITS FALSE NEIGHBOUR: 'it returns false'. Refute it at one input. -/
def fnExactHasAddrWrong : ChangeSpec := { name := "fnExactHasAddr", fn := fun _ => fun
  | [d1, d2] => { results := [.lit (.bool false)], args := [d1, d2] }
  | _ => none }
def FnExactHasAddrWrongFalsely : Prop := fnExactHasAddrRow.holds Try.pinned (OpenSpec.ofChange fnExactHasAddrWrong)

/-- 'laws.FnExactIsWithin': WHATEVER THE INPUT: true; the input reads as it did. -/
def fnExactIsWithinSpec : ChangeSpec := { name := "fnExactIsWithin", fn := fun _ => fun
  | [d1, d2] => { results := [.lit (.bool true)], args := [d1, d2] }
  | _ => none }
def fnExactIsWithinRow : OpenClaim := { program := "ytbahoffaamccoaa", sum := "1c682a562551cf1de3942d838447aa5b2ed7eec0afc33f205103a9a935464fec", func := "loop.example/g00263/laws.FnExactIsWithin", spec := "fnExactIsWithin", apart := false }
def FnExactIsWithinSaid : Prop := fnExactIsWithinRow.holds Try.pinned (OpenSpec.ofChange fnExactIsWithinSpec)

/-- ITS FALSE NEIGHBOUR: 'it returns false'. Refute it at one input. -/
def fnExactIsWithinWrong : ChangeSpec := { name := "fnExactIsWithin", fn := fun _ => fun
  | [d1, d2] => { results := [.lit (.bool false)], args := [d1, d2] }
  | _ => none }
def FnExactIsWithinWrongFalsely : Prop := fnExactIsWithinRow.holds Try.pinned (OpenSpec.ofChange fnExactIsWithinWrong)

/-- 'laws.FnExactSessionFault': WHATEVER THE INPUT: true; the input reads as it did. -/
def fnExactSessionFaultSpec : ChangeSpec := { name := "fnExactSessionFault", fn := fun _ => fun
  | [d] => { results := [.lit (.bool true)], args := [d] }
  | _ => none }
def fnExactSessionFaultRow : OpenClaim := { program := "ytbahoffaamccoaa", sum := "1c682a562551cf1de3942d838447aa5b2ed7eec0afc33f205103a9a935464fec", func := "loop.example/g00263/laws.FnExactSessionFault", spec := "fnExactSessionFault", apart := false }
def FnExactSessionFaultSaid : Prop := fnExactSessionFaultRow.holds Try.pinned (OpenSpec.ofChange fnExactSessionFaultSpec)

/-- ITS FALSE NEIGHBOUR: 'it returns false'. Refute it at one input. -/
def fnExactSessionFaultWrong : ChangeSpec := { name := "fnExactSessionFault", fn := fun _ => fun
  | [d] => { results := [.lit (.bool false)], args := [d] }
  | _ => none }
def FnExactSessionFaultWrongFalsely : Prop := fnExactSessionFaultRow.holds Try.pinned (OpenSpec.ofChange fnExactSessionFaultWrong)

/-- 'laws.FnExactNumberAt': WHATEVER THE INPUT: true; the input reads as it did. -/
def fnExactNumberAtSpec : ChangeSpec := { name := "fnExactNumberAt", fn := fun _ => fun
  | [d1, d2, d3] => { results := [.lit (.bool true)], args := [d1, d2, d3] }
  | _ => none }
def fnExactNumberAtRow : OpenClaim := { program := "ytbahoffaamccoaa", sum := "1c682a562551cf1de3942d838447aa5b2ed7eec0afc33f205103a9a935464fec", func := "loop.example/g00263/laws.FnExactNumberAt", spec := "fnExactNumberAt", apart := false }
def FnExactNumberAtSaid : Prop := fnExactNumberAtRow.holds Try.pinned (OpenSpec.ofChange fnExactNumberAtSpec)

/-- ITS FALSE NEIGHBOUR: 'it returns false'. Refute it at one input. -/
def fnExactNumberAtWrong : ChangeSpec := { name := "fnExactNumberAt", fn := fun _ => fun
  | [d1, d2, d3] => { results := [.lit (.bool false)], args := [d1, d2, d3] }
  | _ => none }
def FnExactNumberAtWrongFalsely : Prop := fnExactNumberAtRow.holds Try.pinned (OpenSpec.ofChange fnExactNumberAtWrong)

/-- 'laws.FnExactFrameFault': WHATEVER THE INPUT: true; the input reads as it did. -/
def fnExactFrameFaultSpec : ChangeSpec := { name := "fnExactFrameFault", fn := fun _ => fun
  | [d] => { results := [.lit (.bool true)], args := [d] }
  | _ => none }
def fnExactFrameFaultRow : OpenClaim := { program := "ytbahoffaamccoaa", sum := "1c682a562551cf1de3942d838447aa5b2ed7eec0afc33f205103a9a935464fec", func := "loop.example/g00263/laws.FnExactFrameFault", spec := "fnExactFrameFault", apart := false }
def FnExactFrameFaultSaid : Prop := fnExactFrameFaultRow.holds Try.pinned (OpenSpec.ofChange fnExactFrameFaultSpec)

/-- ITS FALSE NEIGHBOUR: 'it returns false'. Refute it at one input. -/
def fnExactFrameFaultWrong : ChangeSpec := { name := "fnExactFrameFault", fn := fun _ => fun
  | [d] => { results := [.lit (.bool false)], args := [d] }
  | _ => none }
def FnExactFrameFaultWrongFalsely : Prop := fnExactFrameFaultRow.holds Try.pinned (OpenSpec.ofChange fnExactFrameFaultWrong)

/-- 'laws.FnExactRuleFault': WHATEVER THE INPUT: true; the input reads as it did. -/
def fnExactRuleFaultSpec : ChangeSpec := { name := "fnExactRuleFault", fn := fun _ => fun
  | [d] => { results := [.lit (.bool true)], args := [d] }
  | _ => none }
def fnExactRuleFaultRow : OpenClaim := { program := "ytbahoffaamccoaa", sum := "1c682a562551cf1de3942d838447aa5b2ed7eec0afc33f205103a9a935464fec", func := "loop.example/g00263/laws.FnExactRuleFault", spec := "fnExactRuleFault", apart := false }
def FnExactRuleFaultSaid : Prop := fnExactRuleFaultRow.holds Try.pinned (OpenSpec.ofChange fnExactRuleFaultSpec)

/-- ITS FALSE NEIGHBOUR: 'it returns false'. Refute it at one input. -/
def fnExactRuleFaultWrong : ChangeSpec := { name := "fnExactRuleFault", fn := fun _ => fun
  | [d] => { results := [.lit (.bool false)], args := [d] }
  | _ => none }
def FnExactRuleFaultWrongFalsely : Prop := fnExactRuleFaultRow.holds Try.pinned (OpenSpec.ofChange fnExactRuleFaultWrong)

/-- 'laws.FnExactNewRouter': WHATEVER THE INPUT: true; the input reads as it did. -/
def fnExactNewRouterSpec : ChangeSpec := { name := "fnExactNewRouter", fn := fun _ => fun
  | [d] => { results := [.lit (.bool true)], args := [d] }
  | _ => none }
def fnExactNewRouterRow : OpenClaim := { program := "ytbahoffaamccoaa", sum := "1c682a562551cf1de3942d838447aa5b2ed7eec0afc33f205103a9a935464fec", func := "loop.example/g00263/laws.FnExactNewRouter", spec := "fnExactNewRouter", apart := false }
def FnExactNewRouterSaid : Prop := fnExactNewRouterRow.holds Try.pinned (OpenSpec.ofChange fnExactNewRouterSpec)

/-- ITS FALSE NEIGHBOUR: 'it returns false'. Refute it at one input. -/
def fnExactNewRouterWrong : ChangeSpec := { name := "fnExactNewRouter", fn := fun _ => fun
  | [d] => { results := [.lit (.bool false)], args := [d] }
  | _ => none }
def FnExactNewRouterWrongFalsely : Prop := fnExactNewRouterRow.holds Try.pinned (OpenSpec.ofChange fnExactNewRouterWrong)

/- THE SECOND FORM. 'bulk': how many values and letters a reading holds, each counted each time it is reached (what is shared counts as often as it is met; a slice's spare places count too). A statement '..UptoSaid' is the law's where the arguments, and the package variables that the reading takes, are together of bulk at most 1048576: NARROWER than '..Said'. Prove '..Said' where nothing that the law and all that it calls make is longer than what came in: it says more and counts as full. Else prove '..UptoSaid'. A law counts once. -/
mutual
def uptoBulk {H : Type} : DataW H → Nat
  | .lit (.string bytes) => bytes.length + 1
  | .lit _ => 1
  | .nil => 1
  | .ptr d => uptoBulk d + 1
  | .slice elems spare => uptoBulkAll elems + uptoBulkAll spare + 1
  | .agg parts => uptoBulkAll parts + 1
  | .iface _ d => uptoBulk d + 1
  | .map entries => uptoBulkEntries entries + 1
  | .held _ => 1
def uptoBulkAll {H : Type} : List (DataW H) → Nat
  | [] => 0
  | d :: r => uptoBulk d + uptoBulkAll r
def uptoBulkEntries {H : Type} : List (Lit × DataW H) → Nat
  | [] => 0
  | x :: r => uptoBulkEntry x + uptoBulkEntries r
def uptoBulkEntry {H : Type} : Lit × DataW H → Nat
  | (.string bytes, d) => bytes.length + uptoBulk d + 1
  | (_, d) => uptoBulk d + 1
 end
def uptoSmall : (H : Type) → List (DataW H) → Bool := fun _ ds => decide (uptoBulkAll ds ≤ 1048576)
def OpenSpec.upto (s : _root_.Go.ChangeSpec) : _root_.Go.OpenSpec := { _root_.Go.OpenSpec.ofChange s with cond := some uptoSmall }

/-- 'laws.FnExactConstants', WHERE WHAT IT READS IS OF BULK AT MOST 1048576: true; the input reads as it did. -/
def fnExactConstantsUptoRow : OpenClaim := { program := "ytbahoffaamccoaa", sum := "1c682a562551cf1de3942d838447aa5b2ed7eec0afc33f205103a9a935464fec", func := "loop.example/g00263/laws.FnExactConstants", spec := "fnExactConstants", apart := false, narrowed := true }
def FnExactConstantsUptoSaid : Prop := fnExactConstantsUptoRow.holds Try.pinned (OpenSpec.upto fnExactConstantsSpec)

/-- 'laws.FnExactConfigFault', WHERE WHAT IT READS IS OF BULK AT MOST 1048576: true; the input reads as it did. -/
def fnExactConfigFaultUptoRow : OpenClaim := { program := "ytbahoffaamccoaa", sum := "1c682a562551cf1de3942d838447aa5b2ed7eec0afc33f205103a9a935464fec", func := "loop.example/g00263/laws.FnExactConfigFault", spec := "fnExactConfigFault", apart := false, narrowed := true }
def FnExactConfigFaultUptoSaid : Prop := fnExactConfigFaultUptoRow.holds Try.pinned (OpenSpec.upto fnExactConfigFaultSpec)

/-- 'laws.FnExactSumBytes', WHERE WHAT IT READS IS OF BULK AT MOST 1048576: true; the input reads as it did. -/
def fnExactSumBytesUptoRow : OpenClaim := { program := "ytbahoffaamccoaa", sum := "1c682a562551cf1de3942d838447aa5b2ed7eec0afc33f205103a9a935464fec", func := "loop.example/g00263/laws.FnExactSumBytes", spec := "fnExactSumBytes", apart := false, narrowed := true }
def FnExactSumBytesUptoSaid : Prop := fnExactSumBytesUptoRow.holds Try.pinned (OpenSpec.upto fnExactSumBytesSpec)

/-- 'laws.FnExactPrefixFault', WHERE WHAT IT READS IS OF BULK AT MOST 1048576: true; the input reads as it did. -/
def fnExactPrefixFaultUptoRow : OpenClaim := { program := "ytbahoffaamccoaa", sum := "1c682a562551cf1de3942d838447aa5b2ed7eec0afc33f205103a9a935464fec", func := "loop.example/g00263/laws.FnExactPrefixFault", spec := "fnExactPrefixFault", apart := false, narrowed := true }
def FnExactPrefixFaultUptoSaid : Prop := fnExactPrefixFaultUptoRow.holds Try.pinned (OpenSpec.upto fnExactPrefixFaultSpec)

/-- 'laws.FnExactHasAddr', WHERE WHAT IT READS IS OF BULK AT MOST 1048576: true; the input reads as it did. -/
def fnExactHasAddrUptoRow : OpenClaim := { program := "ytbahoffaamccoaa", sum := "1c682a562551cf1de3942d838447aa5b2ed7eec0afc33f205103a9a935464fec", func := "loop.example/g00263/laws.FnExactHasAddr", spec := "fnExactHasAddr", apart := false, narrowed := true }
def FnExactHasAddrUptoSaid : Prop := fnExactHasAddrUptoRow.holds Try.pinned (OpenSpec.upto fnExactHasAddrSpec)

/-- 'laws.FnExactIsWithin', WHERE WHAT IT READS IS OF BULK AT MOST 1048576: true; the input reads as it did. -/
def fnExactIsWithinUptoRow : OpenClaim := { program := "ytbahoffaamccoaa", sum := "1c682a562551cf1de3942d838447aa5b2ed7eec0afc33f205103a9a935464fec", func := "loop.example/g00263/laws.FnExactIsWithin", spec := "fnExactIsWithin", apart := false, narrowed := true }
def FnExactIsWithinUptoSaid : Prop := fnExactIsWithinUptoRow.holds Try.pinned (OpenSpec.upto fnExactIsWithinSpec)

/-- 'laws.FnExactSessionFault', WHERE WHAT IT READS IS OF BULK AT MOST 1048576: true; the input reads as it did. -/
def fnExactSessionFaultUptoRow : OpenClaim := { program := "ytbahoffaamccoaa", sum := "1c682a562551cf1de3942d838447aa5b2ed7eec0afc33f205103a9a935464fec", func := "loop.example/g00263/laws.FnExactSessionFault", spec := "fnExactSessionFault", apart := false, narrowed := true }
def FnExactSessionFaultUptoSaid : Prop := fnExactSessionFaultUptoRow.holds Try.pinned (OpenSpec.upto fnExactSessionFaultSpec)

/-- 'laws.FnExactNumberAt', WHERE WHAT IT READS IS OF BULK AT MOST 1048576: true; the input reads as it did. -/
def fnExactNumberAtUptoRow : OpenClaim := { program := "ytbahoffaamccoaa", sum := "1c682a562551cf1de3942d838447aa5b2ed7eec0afc33f205103a9a935464fec", func := "loop.example/g00263/laws.FnExactNumberAt", spec := "fnExactNumberAt", apart := false, narrowed := true }
def FnExactNumberAtUptoSaid : Prop := fnExactNumberAtUptoRow.holds Try.pinned (OpenSpec.upto fnExactNumberAtSpec)

/-- 'laws.FnExactFrameFault', WHERE WHAT IT READS IS OF BULK AT MOST 1048576: true; the input reads as it did. -/
def fnExactFrameFaultUptoRow : OpenClaim := { program := "ytbahoffaamccoaa", sum := "1c682a562551cf1de3942d838447aa5b2ed7eec0afc33f205103a9a935464fec", func := "loop.example/g00263/laws.FnExactFrameFault", spec := "fnExactFrameFault", apart := false, narrowed := true }
def FnExactFrameFaultUptoSaid : Prop := fnExactFrameFaultUptoRow.holds Try.pinned (OpenSpec.upto fnExactFrameFaultSpec)

/-- 'laws.FnExactRuleFault', WHERE WHAT IT READS IS OF BULK AT MOST 1048576: true; the input reads as it did. -/
def fnExactRuleFaultUptoRow : OpenClaim := { program := "ytbahoffaamccoaa", sum := "1c682a562551cf1de3942d838447aa5b2ed7eec0afc33f205103a9a935464fec", func := "loop.example/g00263/laws.FnExactRuleFault", spec := "fnExactRuleFault", apart := false, narrowed := true }
def FnExactRuleFaultUptoSaid : Prop := fnExactRuleFaultUptoRow.holds Try.pinned (OpenSpec.upto fnExactRuleFaultSpec)

/-- 'laws.FnExactNewRouter', WHERE WHAT IT READS IS OF BULK AT MOST 1048576: true; the input reads as it did. -/
def fnExactNewRouterUptoRow : OpenClaim := { program := "ytbahoffaamccoaa", sum := "1c682a562551cf1de3942d838447aa5b2ed7eec0afc33f205103a9a935464fec", func := "loop.example/g00263/laws.FnExactNewRouter", spec := "fnExactNewRouter", apart := false, narrowed := true }
def FnExactNewRouterUptoSaid : Prop := fnExactNewRouterUptoRow.holds Try.pinned (OpenSpec.upto fnExactNewRouterSpec)

end Rows
end Go.Proofs.Ytbahoffaamccoaa
