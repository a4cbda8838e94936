/- The pure part of the law FnExactConfigFault: what the printed functions compute, in closed form, and that the law's answer is true. -/
import Derived.Test.YtbahoffaamccoaaPFnExactConfigFaultx1
import Derived.Test.YtbahoffaamccoaaBase
namespace Go.Proofs.Ytbahoffaamccoaa.Pure
open Go.RowKit Go.Proofs.Ytbahoffaamccoaa.PFnExactConfigFault Go.Proofs.YtbahoffaamccoaaW.PrintWords Go.Proofs.YtbahoffaamccoaaW.PrintLast Go.Proofs.YtbahoffaamccoaaW.PrintMore Go.Proofs.Ytbahoffaamccoaa.B
set_option linter.unusedVariables false
set_option linter.unusedSimpArgs false

theorem spec_l1In_eq (n lo hi : Int) : spec_l1In.f n lo hi = some (inB n lo hi) := inB_eq n lo hi

theorem spec_l4Hold_eq (n : Int) : spec_l4Hold.f n = some (holdB n) := by
  simp only [spec_l4Hold.f, spec_l1In_eq, Option.bind_some, ite_some]; rfl

theorem spec_ConfigFault_eq (a b c : Int) : spec_ConfigFault.f a b c = some (configFault a b c) := by
  simp only [spec_ConfigFault.f, spec_l1In_eq, spec_l4Hold_eq, Option.bind_some, ite_some]; rfl

theorem laws_toConfig_eq (a b c : Int) : laws_toConfig.f a b c = some (a, b, c) := rfl

theorem impl_in_eq (n lo hi : Int) : impl_in.f n lo hi = some (inB n lo hi) := inB_eq n lo hi

theorem impl_isSystem_eq (n : Int) : impl_isSystem.f n = some (inB n 1 65535) := by
  simp only [impl_isSystem.f, impl_in_eq, Option.bind_some]

theorem impl_isHold_eq (n : Int) : impl_isHold.f n = some (holdB n) := by
  simp only [impl_isHold.f, impl_in_eq, Option.bind_some, ite_some]; rfl

theorem impl_ConfigFault_eq (a b c : Int) : impl_ConfigFault.f a b c = some (configFault a b c) := by
  simp only [impl_ConfigFault.f, impl_isSystem_eq, impl_isHold_eq, Option.bind_some, ite_some]; rfl

theorem FnExactConfigFault (a0_0 : Int) (a0_1 : Int) (a0_2 : Int)
    (w0_0 : (Lit.int .i64 a0_0).wf = true) (w0_1 : (Lit.int .i64 a0_1).wf = true) (w0_2 : (Lit.int .i64 a0_2).wf = true) :
    laws_FnExactConfigFault.f a0_0 a0_1 a0_2 = some true := by
  simp only [laws_FnExactConfigFault.f, laws_toConfig_eq, spec_ConfigFault_eq, impl_ConfigFault_eq, Option.bind_some, if_true]
end Go.Proofs.Ytbahoffaamccoaa.Pure
