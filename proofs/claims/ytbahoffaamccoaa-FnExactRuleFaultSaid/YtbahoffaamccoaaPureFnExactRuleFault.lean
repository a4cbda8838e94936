/- The pure part of the law FnExactRuleFault: what the printed functions compute, in closed form, and that the law's answer is true. -/
import Derived.Test.YtbahoffaamccoaaPFnExactRuleFaultx1
import Derived.Test.YtbahoffaamccoaaPFnExactRuleFaultx2
import Derived.Test.YtbahoffaamccoaaBase
namespace Go.Proofs.Ytbahoffaamccoaa.Pure
open Go.RowKit Go.Proofs.Ytbahoffaamccoaa.PFnExactRuleFault Go.Proofs.YtbahoffaamccoaaW.PrintWords Go.Proofs.YtbahoffaamccoaaW.PrintLast Go.Proofs.YtbahoffaamccoaaW.PrintMore Go.Proofs.Ytbahoffaamccoaa.B
set_option linter.unusedVariables false
set_option linter.unusedSimpArgs false

theorem spec_l1In_eq (n lo hi : Int) : spec_l1In.f n lo hi = some (inB n lo hi) := inB_eq n lo hi

theorem spec_l2Addr_eq (n : Int) : spec_l2Addr.f n = some (inB n 0 65535) := by
  simp only [spec_l2Addr.f, spec_l1In_eq, Option.bind_some]

theorem spec_l2Rest_eq {l : Int} (h0 : 0 ≤ l) (h1 : l ≤ 16) : spec_l2Rest.f l = some (span l - 1) := by
  unfold spec_l2Rest.f
  rw [if_pos (cnt_ok2 h0 h1), shl_span2 h0 h1]

theorem spec_PrefixFault_eq {k : Nat} (hk : 1 ≤ k) (a l : Int) : spec_PrefixFault.f k a l = some (prefixFault a l) := by
  obtain ⟨k, rfl⟩ : ∃ m, k = m + 1 := ⟨k - 1, by omega⟩
  simp only [spec_PrefixFault.f, spec_l2Addr_eq, spec_l1In_eq, Option.bind_some, spec_PrefixFault.j0]
  unfold prefixFault
  by_cases h1 : inB a 0 65535 = true
  · by_cases h2 : inB l 0 16 = true
    · have h3 := inB_iff.1 h1
      have h4 := inB_iff.1 h2
      rw [if_pos h1, if_pos h1, if_pos h2, h2]
      simp only [Bool.not_true, Bool.false_eq_true, if_false, spec_l2Rest_eq h4.1 h4.2, Option.bind_some, and_span h4.1 h4.2 h3.1 h3.2, ite_some]
    · simp [h1, h2]
  · simp [h1]

theorem spec_l3Word_eq (n : Int) : spec_l3Word.f n = some (inB n 0 65535) := by
  simp only [spec_l3Word.f, spec_l1In_eq, Option.bind_some]

theorem spec_RuleFault_eq {k : Nat} (hk : 1 ≤ k) (a b c d e : Int) (f : Bool) (g h : Int) : spec_RuleFault.f k a b c d e f g h = some (ruleFault a b c d e f g h) := by
  obtain ⟨k, rfl⟩ : ∃ m, k = m + 1 := ⟨k - 1, by omega⟩
  simp only [spec_RuleFault.f, spec_PrefixFault_eq (Nat.le_add_left 1 k), spec_l1In_eq, spec_l3Word_eq, Option.bind_some, spec_RuleFault.j0]
  unfold ruleFault
  by_cases h0 : prefixFault a b = 0
  · rw [if_pos h0, if_pos h0]
    cases h1 : inB c 0 16 <;> cases h2 : inB d 0 16 <;> cases h3 : inB e 0 65535 <;> cases h4 : inB g (-1) 65535 <;> cases h5 : inB h 0 3 <;> simp
    by_cases hc : d < c
    · simp [hc]
    · simp only [hc, if_false]
      cases f
      · simp
      · by_cases hg : g = -1 <;> by_cases hh : h = 0 <;> simp [hg, hh]
  · rw [if_neg h0, if_neg h0]

theorem laws_toPrefix_eq (a b : Int) : laws_toPrefix.f a b = some (a, b) := rfl

theorem laws_toRule_eq (a b c d e : Int) (f : Bool) (g h : Int) : laws_toRule.f a b c d e f g h = some (a, b, c, d, e, f, g, h) := rfl

theorem impl_in_eq (n lo hi : Int) : impl_in.f n lo hi = some (inB n lo hi) := inB_eq n lo hi

theorem impl_isAddr_eq (n : Int) : impl_isAddr.f n = some (inB n 0 65535) := by
  simp only [impl_isAddr.f, impl_in_eq, Option.bind_some]

theorem impl_PrefixFault_eq {k : Nat} (hk : 1 ≤ k) (a l : Int) : impl_PrefixFault.f k a l = some (prefixFault a l) := by
  obtain ⟨k, rfl⟩ : ∃ m, k = m + 1 := ⟨k - 1, by omega⟩
  simp only [impl_PrefixFault.f, impl_isAddr_eq, impl_in_eq, Option.bind_some, impl_PrefixFault.j0]
  unfold prefixFault
  by_cases h1 : inB a 0 65535 = true
  · by_cases h2 : inB l 0 16 = true
    · have h3 := inB_iff.1 h1
      have h4 := inB_iff.1 h2
      rw [if_pos h1, if_pos h1, if_pos h2, h2]
      simp only [Bool.not_true, Bool.false_eq_true, if_false]
      rw [if_pos (cnt_ok h4.1 h4.2), shl_span h4.1 h4.2, and_span h4.1 h4.2 h3.1 h3.2, ite_some]
    · simp [h1, h2]
  · simp [h1]

theorem impl_isTwo_eq (n : Int) : impl_isTwo.f n = some (inB n 0 65535) := by
  simp only [impl_isTwo.f, impl_in_eq, Option.bind_some]

theorem impl_RuleFault_eq {k : Nat} (hk : 1 ≤ k) (a b c d e : Int) (f : Bool) (g h : Int) : impl_RuleFault.f k a b c d e f g h = some (ruleFault a b c d e f g h) := by
  obtain ⟨k, rfl⟩ : ∃ m, k = m + 1 := ⟨k - 1, by omega⟩
  simp only [impl_RuleFault.f, impl_PrefixFault_eq (Nat.le_add_left 1 k), impl_in_eq, impl_isTwo_eq, Option.bind_some, impl_RuleFault.j0]
  unfold ruleFault
  by_cases h0 : prefixFault a b = 0
  · rw [if_pos h0, if_pos h0]
    cases h1 : inB c 0 16 <;> cases h2 : inB d 0 16 <;> cases h3 : inB e 0 65535 <;> cases h4 : inB g (-1) 65535 <;> cases h5 : inB h 0 3 <;> simp
    by_cases hc : d < c
    · simp [hc]
    · simp only [hc, if_false]
      cases f
      · simp
      · by_cases hg : g = -1 <;> by_cases hh : h = 0 <;> simp [hg, hh]
  · rw [if_neg h0, if_neg h0]

theorem FnExactRuleFault (a0_0 : Int) (a0_1 : Int) (a0_2 : Int) (a0_3 : Int) (a0_4 : Int) (a0_5 : Bool) (a0_6 : Int) (a0_7 : Int)
    (w0_0 : (Lit.int .i64 a0_0).wf = true) (w0_1 : (Lit.int .i64 a0_1).wf = true) (w0_2 : (Lit.int .i64 a0_2).wf = true) (w0_3 : (Lit.int .i64 a0_3).wf = true) (w0_4 : (Lit.int .i64 a0_4).wf = true) (w0_6 : (Lit.int .i64 a0_6).wf = true) (w0_7 : (Lit.int .i64 a0_7).wf = true) :
    ∃ k, laws_FnExactRuleFault.f k a0_0 a0_1 a0_2 a0_3 a0_4 a0_5 a0_6 a0_7 = some true := by
  refine ⟨1, ?_⟩
  simp only [laws_FnExactRuleFault.f, laws_toRule_eq, spec_RuleFault_eq (Nat.le_refl 1), impl_RuleFault_eq (Nat.le_refl 1), Option.bind_some, if_true]
end Go.Proofs.Ytbahoffaamccoaa.Pure
