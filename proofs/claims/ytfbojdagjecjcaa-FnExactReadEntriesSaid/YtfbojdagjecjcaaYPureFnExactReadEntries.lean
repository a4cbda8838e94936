/- The pure part of the law FnExactReadEntries: what the printed functions compute, in closed form, and that the law's answer is true. -/
import Derived.Test.YtfbojdagjecjcaaYFnExactReadEntriesHand
namespace Go.Proofs.Ytfbojdagjecjcaa.Pure
open Go.RowKit Go.Proofs.Ytfbojdagjecjcaa.PFnExactReadEntries Go.Proofs.YtfbojdagjecjcaaW.PrintWords Go.Proofs.YtfbojdagjecjcaaW.PrintLast Go.Proofs.YtfbojdagjecjcaaW.PrintMore Go.Proofs.Ytfbojdagjecjcaa.B
set_option linter.unusedVariables false
set_option linter.unusedSimpArgs false
theorem FnExactReadEntries (l0 : List Int)
    (w0 : (l0.length ≤ maxLen ∧ ∀ z1 ∈ l0, (Lit.int .u8 z1).wf = true)) :
    ∃ k, laws_FnExactReadEntries.f k l0 = some true := by
  refine ⟨0, ?_⟩
  unfold laws_FnExactReadEntries.f
  rw [if_pos (List.all_eq_true.2 w0.2)]
end Go.Proofs.Ytfbojdagjecjcaa.Pure
