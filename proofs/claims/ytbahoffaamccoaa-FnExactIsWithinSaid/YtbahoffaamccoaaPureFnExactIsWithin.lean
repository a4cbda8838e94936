/- The pure part of the law FnExactIsWithin: what the printed functions compute, in closed form, and that the law's answer is true. -/
import Derived.Test.YtbahoffaamccoaaPFnExactIsWithinx1
import Derived.Test.YtbahoffaamccoaaPFnExactIsWithinx2
import Derived.Test.YtbahoffaamccoaaBase
namespace Go.Proofs.Ytbahoffaamccoaa.Pure
open Go.RowKit Go.Proofs.Ytbahoffaamccoaa.PFnExactIsWithin Go.Proofs.YtbahoffaamccoaaW.PrintWords Go.Proofs.YtbahoffaamccoaaW.PrintLast Go.Proofs.YtbahoffaamccoaaW.PrintMore Go.Proofs.Ytbahoffaamccoaa.B
set_option linter.unusedVariables false
set_option linter.unusedSimpArgs false

theorem laws_toPrefix_eq (a b : Int) : laws_toPrefix.f a b = some (a, b) := rfl

theorem spec_l1In_eq (n lo hi : Int) : spec_l1In.f n lo hi = some (inB n lo hi) := inB_eq n lo hi

theorem spec_l2Addr_eq (n : Int) : spec_l2Addr.f n = some (inB n 0 65535) := by
  simp only [spec_l2Addr.f, spec_l1In_eq, Option.bind_some]

theorem spec_l2Rest_eq {l : Int} (h0 : 0 ≤ l) (h1 : l ≤ 16) : spec_l2Rest.f l = some (span l - 1) := by
  unfold spec_l2Rest.f
  rw [if_pos (cnt_ok2 h0 h1), shl_span2 h0 h1]

theorem spec_PrefixFault_eq {k : Nat} (hk : 1 ≤ k) (a l : Int) : spec_PrefixFault.f k a l = some (prefixFault a l) := by
  obtain ⟨k, rfl⟩ : ∃ m, k = m + 1 := ⟨k - 1, by omega⟩
  simp only [spec_PrefixFault.f, spec_l2Addr_eq, spec_l1In_eq, Option.bind_some, spec_PrefixFault.j0]
  unfold prefixFault
  by_cases h1 : inB a 0 65535 = true
  · by_cases h2 : inB l 0 16 = true
    · have h3 := inB_iff.1 h1
      have h4 := inB_iff.1 h2
      rw [if_pos h1, if_pos h1, if_pos h2, h2]
      simp only [Bool.not_true, Bool.false_eq_true, if_false, spec_l2Rest_eq h4.1 h4.2, Option.bind_some, and_span h4.1 h4.2 h3.1 h3.2, ite_some]
    · simp [h1, h2]
  · simp [h1]

theorem spec_l2Has_eq {a l x : Int} (h : prefixFault a l = 0) (h0 : 0 ≤ x) (h1 : x ≤ 65535) : spec_l2Has.f a l x = some (hasB a l x) := by
  obtain ⟨_, _, h3, h4, _⟩ := prefixFault_ok h
  simp only [spec_l2Has.f, spec_l2Rest_eq h3 h4, Option.bind_some, andNot_span h3 h4 h0 h1]
  rfl

theorem spec_IsWithin_eq {k : Nat} (hk : 1 ≤ k) (a l b m : Int) : spec_IsWithin.f k a l b m = some (within a l b m) := by
  simp only [spec_IsWithin.f, spec_PrefixFault_eq hk, Option.bind_some]
  unfold within
  by_cases h : prefixFault a l = 0
  · rw [if_pos h, if_pos h]
    by_cases h2 : prefixFault b m = 0
    · have h3 := prefixFault_ok h
      rw [if_pos h2, if_pos h2, spec_l2Has_eq h2 h3.1 h3.2.1]
      simp only [Option.bind_some, ite_some]
    · rw [if_neg h2, if_neg h2]
  · rw [if_neg h, if_neg h]

theorem impl_in_eq (n lo hi : Int) : impl_in.f n lo hi = some (inB n lo hi) := inB_eq n lo hi

theorem impl_isAddr_eq (n : Int) : impl_isAddr.f n = some (inB n 0 65535) := by
  simp only [impl_isAddr.f, impl_in_eq, Option.bind_some]

theorem impl_PrefixFault_eq {k : Nat} (hk : 1 ≤ k) (a l : Int) : impl_PrefixFault.f k a l = some (prefixFault a l) := by
  obtain ⟨k, rfl⟩ : ∃ m, k = m + 1 := ⟨k - 1, by omega⟩
  simp only [impl_PrefixFault.f, impl_isAddr_eq, impl_in_eq, Option.bind_some, impl_PrefixFault.j0]
  unfold prefixFault
  by_cases h1 : inB a 0 65535 = true
  · by_cases h2 : inB l 0 16 = true
    · have h3 := inB_iff.1 h1
      have h4 := inB_iff.1 h2
      rw [if_pos h1, if_pos h1, if_pos h2, h2]
      simp only [Bool.not_true, Bool.false_eq_true, if_false]
      rw [if_pos (cnt_ok h4.1 h4.2), shl_span h4.1 h4.2, and_span h4.1 h4.2 h3.1 h3.2, ite_some]
    · simp [h1, h2]
  · simp [h1]

theorem impl_Prefix_has_eq {a l : Int} (h : prefixFault a l = 0) (x : Int) : impl_Prefix_has.f a l x = some (if inB x 0 65535 = true then hasB a l x else false) := by
  obtain ⟨_, _, h3, h4, _⟩ := prefixFault_ok h
  simp only [impl_Prefix_has.f, impl_isAddr_eq, Option.bind_some, if_pos (cnt_ok h3 h4), shr_span h3 h4, has_div h, ite_some]

theorem impl_IsWithin_eq {k : Nat} (hk : 1 ≤ k) (a l b m : Int) : impl_IsWithin.f k a l b m = some (within a l b m) := by
  simp only [impl_IsWithin.f, impl_PrefixFault_eq hk, Option.bind_some]
  unfold within
  by_cases h : prefixFault a l = 0
  · rw [if_pos h, if_pos h]
    by_cases h2 : prefixFault b m = 0
    · have h3 := prefixFault_ok h
      rw [if_pos h2, if_pos h2, impl_Prefix_has_eq h2, if_pos (inB_iff.2 ⟨h3.1, h3.2.1⟩)]
      simp only [Option.bind_some, ite_some]
    · rw [if_neg h2, if_neg h2]
  · rw [if_neg h, if_neg h]

theorem FnExactIsWithin (a0_0 : Int) (a0_1 : Int) (a1_0 : Int) (a1_1 : Int)
    (w0_0 : (Lit.int .i64 a0_0).wf = true) (w0_1 : (Lit.int .i64 a0_1).wf = true) (w1_0 : (Lit.int .i64 a1_0).wf = true) (w1_1 : (Lit.int .i64 a1_1).wf = true) :
    ∃ k, laws_FnExactIsWithin.f k a0_0 a0_1 a1_0 a1_1 = some true := by
  refine ⟨1, ?_⟩
  simp [laws_FnExactIsWithin.f, laws_toPrefix_eq, spec_IsWithin_eq (Nat.le_refl 1), impl_IsWithin_eq (Nat.le_refl 1)]
end Go.Proofs.Ytbahoffaamccoaa.Pure
