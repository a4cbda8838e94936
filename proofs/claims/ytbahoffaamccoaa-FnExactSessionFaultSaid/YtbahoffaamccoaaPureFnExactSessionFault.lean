/- The pure part of the law FnExactSessionFault: what the printed functions compute, in closed form, and that the law's answer is true. -/
import Derived.Test.YtbahoffaamccoaaHFnExactSessionFaultx2
import Derived.Test.YtbahoffaamccoaaHFnExactSessionFaultx3
import Derived.Test.YtbahoffaamccoaaBase
namespace Go.Proofs.Ytbahoffaamccoaa.Pure
open Go.RowKit Go.Proofs.Ytbahoffaamccoaa.PFnExactSessionFault Go.Proofs.YtbahoffaamccoaaW.PrintWords Go.Proofs.YtbahoffaamccoaaW.PrintLast Go.Proofs.YtbahoffaamccoaaW.PrintMore Go.Proofs.Ytbahoffaamccoaa.B
set_option linter.unusedVariables false
set_option linter.unusedSimpArgs false

theorem spec_l1In_eq (n lo hi : Int) : spec_l1In.f n lo hi = some (inB n lo hi) := inB_eq n lo hi

theorem spec_l4Hold_eq (n : Int) : spec_l4Hold.f n = some (holdB n) := by
  simp only [spec_l4Hold.f, spec_l1In_eq, Option.bind_some, ite_some]; rfl

theorem spec_l3Word_eq (n : Int) : spec_l3Word.f n = some (inB n 0 65535) := by
  simp only [spec_l3Word.f, spec_l1In_eq, Option.bind_some]

theorem spec_SessionFault_eq {k : Nat} (hk : 1 ≤ k) (a b c d e : Int) : spec_SessionFault.f k a b c d e = some (sessionFault a b c d e) := by
  obtain ⟨k, rfl⟩ : ∃ m, k = m + 1 := ⟨k - 1, by omega⟩
  simp only [spec_SessionFault.f, spec_l1In_eq, spec_l3Word_eq, spec_l4Hold_eq, Option.bind_some, spec_SessionFault.j0]
  unfold sessionFault
  cases h1 : inB a 0 3 <;> cases h2 : inB b 0 65535 <;> cases h3 : holdB c <;> cases h4 : inB d 0 1000 <;> cases h5 : inB e 0 1000 <;> simp
  by_cases ha : a = 0
  · by_cases hb : b = 0 <;> by_cases hc : c = 0 <;> by_cases hd : d = 0 <;> by_cases he : e = 0 <;> simp [ha, hb, hc, hd, he]
  · by_cases ha1 : a = 1
    · by_cases hb : b = 0 <;> by_cases hc : c = 0 <;> simp [ha1, hb, hc]
    · by_cases hb : b = 0 <;> simp [ha, ha1, hb]

theorem laws_toSession_eq (a b c d e : Int) : laws_toSession.f a b c d e = some (a, b, c, d, e) := rfl

theorem impl_in_eq (n lo hi : Int) : impl_in.f n lo hi = some (inB n lo hi) := inB_eq n lo hi

theorem impl_isHold_eq (n : Int) : impl_isHold.f n = some (holdB n) := by
  simp only [impl_isHold.f, impl_in_eq, Option.bind_some, ite_some]; rfl

theorem impl_isTwo_eq (n : Int) : impl_isTwo.f n = some (inB n 0 65535) := by
  simp only [impl_isTwo.f, impl_in_eq, Option.bind_some]

theorem impl_SessionFault_eq {k : Nat} (hk : 1 ≤ k) (a b c d e : Int) : impl_SessionFault.f k a b c d e = some (sessionFault a b c d e) := by
  obtain ⟨k, rfl⟩ : ∃ m, k = m + 1 := ⟨k - 1, by omega⟩
  simp only [impl_SessionFault.f, impl_in_eq, impl_isTwo_eq, impl_isHold_eq, Option.bind_some, impl_SessionFault.j0]
  unfold sessionFault
  cases h1 : inB a 0 3 <;> cases h2 : inB b 0 65535 <;> cases h3 : holdB c <;> cases h4 : inB d 0 1000 <;> cases h5 : inB e 0 1000 <;> simp
  by_cases ha : a = 0
  · by_cases hb : b = 0 <;> by_cases hc : c = 0 <;> by_cases hd : d = 0 <;> by_cases he : e = 0 <;> simp [ha, hb, hc, hd, he]
  · by_cases ha1 : a = 1
    · by_cases hb : b = 0 <;> by_cases hc : c = 0 <;> simp [ha1, hb, hc]
    · by_cases hb : b = 0 <;> simp [ha, ha1, hb]

theorem FnExactSessionFault (a0_0 : Int) (a0_1 : Int) (a0_2 : Int) (a0_3 : Int) (a0_4 : Int)
    (w0_0 : (Lit.int .i64 a0_0).wf = true) (w0_1 : (Lit.int .i64 a0_1).wf = true) (w0_2 : (Lit.int .i64 a0_2).wf = true) (w0_3 : (Lit.int .i64 a0_3).wf = true) (w0_4 : (Lit.int .i64 a0_4).wf = true) :
    ∃ k, laws_FnExactSessionFault.f k a0_0 a0_1 a0_2 a0_3 a0_4 = some true := by
  refine ⟨1, ?_⟩
  simp only [laws_FnExactSessionFault.f, laws_toSession_eq, spec_SessionFault_eq (Nat.le_refl 1), impl_SessionFault_eq (Nat.le_refl 1), Option.bind_some, if_true]
end Go.Proofs.Ytbahoffaamccoaa.Pure
