/- The pure part of the law FnExactTickSession: what the printed functions compute, in closed form, and that the law's answer is true. -/
import Derived.Test.YthmkjapmnlhflaaSFnExactTickSessionza
import Derived.Test.YthmkjapmnlhflaaYFnExactTickSessionHand
namespace Go.Proofs.Ythmkjapmnlhflaa.Pure
open Go.RowKit Go.Proofs.Ythmkjapmnlhflaa.PFnExactTickSession Go.Proofs.YthmkjapmnlhflaaW.PrintWords Go.Proofs.YthmkjapmnlhflaaW.PrintLast Go.Proofs.YthmkjapmnlhflaaW.PrintMore Go.Proofs.Ythmkjapmnlhflaa.B
set_option linter.unusedVariables false
set_option linter.unusedSimpArgs false
theorem FnExactTickSession (a0_0 : Int) (a0_1 : Int) (a0_2 : Int) (a1_0 : Int) (a1_1 : Int) (a1_2 : Int) (a1_3 : Int) (a1_4 : Int)
    (w0_0 : (Lit.int .i64 a0_0).wf = true) (w0_1 : (Lit.int .i64 a0_1).wf = true) (w0_2 : (Lit.int .i64 a0_2).wf = true) (w1_0 : (Lit.int .i64 a1_0).wf = true) (w1_1 : (Lit.int .i64 a1_1).wf = true) (w1_2 : (Lit.int .i64 a1_2).wf = true) (w1_3 : (Lit.int .i64 a1_3).wf = true) (w1_4 : (Lit.int .i64 a1_4).wf = true) :
    ∃ k, laws_FnExactTickSession.f k a0_0 a0_1 a0_2 a1_0 a1_1 a1_2 a1_3 a1_4 = some true := ⟨0, rfl⟩
end Go.Proofs.Ythmkjapmnlhflaa.Pure
