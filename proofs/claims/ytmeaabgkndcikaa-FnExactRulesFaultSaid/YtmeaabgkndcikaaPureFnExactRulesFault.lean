/- The pure part of the law FnExactRulesFault: what the printed functions compute, in closed form, and that the law's answer is true. -/
import Derived.Test.YtmeaabgkndcikaaPFnExactRulesFaultx1
import Derived.Test.YtmeaabgkndcikaaPFnExactRulesFaultx2
import Derived.Test.YtmeaabgkndcikaaPFnExactRulesFaultx3
import Derived.Test.YtmeaabgkndcikaaPFnExactRulesFaultx4
import Derived.Test.YtmeaabgkndcikaaBase
namespace Go.Proofs.Ytmeaabgkndcikaa.Pure
open Go.RowKit Go.Proofs.Ytmeaabgkndcikaa.PFnExactRulesFault Go.Proofs.YtmeaabgkndcikaaW.PrintWords Go.Proofs.YtmeaabgkndcikaaW.PrintLast Go.Proofs.YtmeaabgkndcikaaW.PrintMore Go.Proofs.Ytmeaabgkndcikaa.B
set_option linter.unusedVariables false
set_option linter.unusedSimpArgs false

theorem laws_szRuleS_eq {l : List S180} {a : Int} (hl : l.length ≤ maxLen) (h0 : -1 ≤ a) (h1 : a ≤ 1048576) : laws_szRuleS.f l a = some (szB a l.length) := szB_eq h0 h1 hl

theorem spec_l1In_eq (n lo hi : Int) : spec_l1In.f n lo hi = some (inB n lo hi) := inB_eq n lo hi

theorem spec_l3Word_eq (n : Int) : spec_l3Word.f n = some (inB n 0 65535) := by
  simp only [spec_l3Word.f, spec_l1In_eq, Option.bind_some]

theorem spec_l2Addr_eq (n : Int) : spec_l2Addr.f n = some (inB n 0 65535) := by
  simp only [spec_l2Addr.f, spec_l1In_eq, Option.bind_some]

theorem spec_l2Rest_eq {l : Int} (h0 : 0 ≤ l) (h1 : l ≤ 16) : spec_l2Rest.f l = some (span l - 1) := by
  unfold spec_l2Rest.f
  rw [if_pos (cnt_ok2 h0 h1), shl_span2 h0 h1]

theorem spec_PrefixFault_eq {k : Nat} (hk : 1 ≤ k) (a l : Int) : spec_PrefixFault.f k a l = some (prefixFault a l) := by
  obtain ⟨k, rfl⟩ : ∃ m, k = m + 1 := ⟨k - 1, by omega⟩
  simp only [spec_PrefixFault.f, spec_l2Addr_eq, spec_l1In_eq, Option.bind_some, spec_PrefixFault.j0]
  unfold prefixFault
  by_cases h1 : inB a 0 65535 = true
  · by_cases h2 : inB l 0 16 = true
    · have h3 := inB_iff.1 h1
      have h4 := inB_iff.1 h2
      rw [if_pos h1, if_pos h1, if_pos h2, h2]
      simp only [Bool.not_true, Bool.false_eq_true, if_false, spec_l2Rest_eq h4.1 h4.2, Option.bind_some, and_span h4.1 h4.2 h3.1 h3.2, ite_some]
    · simp [h1, h2]
  · simp [h1]

theorem spec_RuleFault_eq {k : Nat} (hk : 1 ≤ k) (a b c d e : Int) (f : Bool) (g h : Int) : spec_RuleFault.f k a b c d e f g h = some (ruleFault a b c d e f g h) := by
  obtain ⟨k, rfl⟩ : ∃ m, k = m + 1 := ⟨k - 1, by omega⟩
  simp only [spec_RuleFault.f, spec_PrefixFault_eq (Nat.le_add_left 1 k), spec_l1In_eq, spec_l3Word_eq, Option.bind_some, spec_RuleFault.j0]
  unfold ruleFault
  by_cases h0 : prefixFault a b = 0
  · rw [if_pos h0, if_pos h0]
    cases h1 : inB c 0 16 <;> cases h2 : inB d 0 16 <;> cases h3 : inB e 0 65535 <;> cases h4 : inB g (-1) 65535 <;> cases h5 : inB h 0 3 <;> simp
    by_cases hc : d < c
    · simp [hc]
    · simp only [hc, if_false]
      cases f
      · simp
      · by_cases hg : g = -1 <;> by_cases hh : h = 0 <;> simp [hg, hh]
  · rw [if_neg h0, if_neg h0]

def ruleF (x : S177) : Int := ruleFault x.f0.f0 x.f0.f1 x.f1 x.f2 x.f3 x.f4 x.f5 x.f6
theorem spec_RulesFault_eq {k : Nat} {l : List S177} (hk : 20 ≤ k) : spec_RulesFault.f k l = some (if (l.length : Int) > 8 then 2 else firstFault ruleF l) := by
  unfold spec_RulesFault.f
  by_cases h8 : (l.length : Int) > 8
  · rw [if_pos h8, if_pos h8]
  · rw [if_neg h8, if_neg h8]
    exact fault_loop (L := fun k i => spec_RulesFault.l0 k l i) (B := 1)
      (fun k i h hB => by
        have hr : rd_T177 l (i : Int) = l[i] := getD_nat h
        simp only [spec_RulesFault.l0, hr, spec_RuleFault_eq hB, Option.bind_some]
        rw [if_pos (by omega), if_pos (by omega), wrap_succ (by omega)]
        rfl)
      (fun k => by simp only [spec_RulesFault.l0]; rw [if_neg (by omega)]) (by omega)

theorem laws_toPrefix_eq (a b : Int) : laws_toPrefix.f a b = some (a, b) := rfl

theorem laws_toRule_eq (a b c d e : Int) (f : Bool) (g h : Int) : laws_toRule.f a b c d e f g h = some (a, b, c, d, e, f, g, h) := rfl

def cvtRule (x : S180) : S177 := ⟨⟨x.f0.f0, x.f0.f1⟩, x.f1, x.f2, x.f3, x.f4, x.f5, x.f6⟩
theorem laws_toRuleS_eq {k : Nat} {l : List S180} (hl : l.length ≤ 1048576) (hk : l.length < k) : laws_toRuleS.f k l = some (l.map cvtRule) := by
  unfold laws_toRuleS.f
  rw [if_pos (by omega), if_pos (by omega)]
  exact set_loop (L := fun k acc i => laws_toRuleS.l0 k l acc i) (B := 0)
    (fun k i acc h _ ha => by
      have hr : rd_T180 l (i : Int) = l[i] := getD_nat h
      simp only [laws_toRuleS.l0, hr, laws_toRule_eq, Option.bind_some]
      rw [if_pos (by omega), if_pos (by omega), if_pos (by omega), wrap_succ (by omega)]
      rfl)
    (fun k acc _ => by simp only [laws_toRuleS.l0]; rw [if_neg (by omega)]) (by simp) (by omega)

theorem impl_in_eq (n lo hi : Int) : impl_in.f n lo hi = some (inB n lo hi) := inB_eq n lo hi

theorem impl_isTwo_eq (n : Int) : impl_isTwo.f n = some (inB n 0 65535) := by
  simp only [impl_isTwo.f, impl_in_eq, Option.bind_some]

theorem impl_isAddr_eq (n : Int) : impl_isAddr.f n = some (inB n 0 65535) := by
  simp only [impl_isAddr.f, impl_in_eq, Option.bind_some]

theorem impl_PrefixFault_eq {k : Nat} (hk : 1 ≤ k) (a l : Int) : impl_PrefixFault.f k a l = some (prefixFault a l) := by
  obtain ⟨k, rfl⟩ : ∃ m, k = m + 1 := ⟨k - 1, by omega⟩
  simp only [impl_PrefixFault.f, impl_isAddr_eq, impl_in_eq, Option.bind_some, impl_PrefixFault.j0]
  unfold prefixFault
  by_cases h1 : inB a 0 65535 = true
  · by_cases h2 : inB l 0 16 = true
    · have h3 := inB_iff.1 h1
      have h4 := inB_iff.1 h2
      rw [if_pos h1, if_pos h1, if_pos h2, h2]
      simp only [Bool.not_true, Bool.false_eq_true, if_false]
      rw [if_pos (cnt_ok h4.1 h4.2), shl_span h4.1 h4.2, and_span h4.1 h4.2 h3.1 h3.2, ite_some]
    · simp [h1, h2]
  · simp [h1]

theorem impl_RuleFault_eq {k : Nat} (hk : 1 ≤ k) (a b c d e : Int) (f : Bool) (g h : Int) : impl_RuleFault.f k a b c d e f g h = some (ruleFault a b c d e f g h) := by
  obtain ⟨k, rfl⟩ : ∃ m, k = m + 1 := ⟨k - 1, by omega⟩
  simp only [impl_RuleFault.f, impl_PrefixFault_eq (Nat.le_add_left 1 k), impl_in_eq, impl_isTwo_eq, Option.bind_some, impl_RuleFault.j0]
  unfold ruleFault
  by_cases h0 : prefixFault a b = 0
  · rw [if_pos h0, if_pos h0]
    cases h1 : inB c 0 16 <;> cases h2 : inB d 0 16 <;> cases h3 : inB e 0 65535 <;> cases h4 : inB g (-1) 65535 <;> cases h5 : inB h 0 3 <;> simp
    by_cases hc : d < c
    · simp [hc]
    · simp only [hc, if_false]
      cases f
      · simp
      · by_cases hg : g = -1 <;> by_cases hh : h = 0 <;> simp [hg, hh]
  · rw [if_neg h0, if_neg h0]

theorem impl_RulesFault_eq {k : Nat} {l : List S177} (hk : 20 ≤ k) : impl_RulesFault.f k l = some (if (l.length : Int) > 8 then 2 else firstFault ruleF l) := by
  unfold impl_RulesFault.f
  by_cases h8 : (l.length : Int) > 8
  · rw [if_pos h8, if_pos h8]
  · rw [if_neg h8, if_neg h8]
    exact fault_loop (L := fun k i => impl_RulesFault.l0 k l (l.length : Int) i) (B := 1)
      (fun k i h hB => by
        have hr : rd_T177 l (i : Int) = l[i] := getD_nat h
        simp only [impl_RulesFault.l0, hr, impl_RuleFault_eq hB, Option.bind_some]
        rw [if_pos (by omega), if_pos (by omega), if_pos (by omega), wrap_succ (by omega)]
        rfl)
      (fun k => by simp only [impl_RulesFault.l0]; rw [if_neg (by omega)]) (by omega)

theorem laws_eqPrefix_refl (a b : Int) : laws_eqPrefix.f a b a b = some true := by
  simp only [laws_eqPrefix.f, if_true]

theorem laws_eqRule_refl (a b c d e : Int) (f : Bool) (g h : Int) : laws_eqRule.f a b c d e f g h a b c d e f g h = some true := by
  simp [laws_eqRule.f, laws_eqPrefix_refl]

theorem laws_eqRuleS_refl {k : Nat} {l : List S177} (hl : l.length ≤ 1048576) (hk : l.length < k) : laws_eqRuleS.f k l l = some true := by
  unfold laws_eqRuleS.f
  rw [if_pos rfl]
  exact all_loop (L := fun k i => laws_eqRuleS.l0 k l l i) (n := l.length) (B := 0)
    (fun k i h _ => by
      simp only [laws_eqRuleS.l0, laws_eqRule_refl, Option.bind_some]
      rw [if_pos (by omega), if_pos (by omega), if_pos (by omega)]
      simp only [if_true]
      rw [wrap_succ (by omega)])
    (fun k => by simp only [laws_eqRuleS.l0]; rw [if_neg (by omega)]) (by omega)

theorem FnExactRulesFault (l0 : List S180)
    (w0 : (l0.length ≤ maxLen ∧ ∀ z1 ∈ l0, (((Lit.int .i64 z1.f0.f0).wf = true) ∧ ((Lit.int .i64 z1.f0.f1).wf = true)) ∧ ((Lit.int .i64 z1.f1).wf = true) ∧ ((Lit.int .i64 z1.f2).wf = true) ∧ ((Lit.int .i64 z1.f3).wf = true) ∧ (True) ∧ ((Lit.int .i64 z1.f5).wf = true) ∧ ((Lit.int .i64 z1.f6).wf = true))) :
    ∃ k, laws_FnExactRulesFault.f k l0 = some true := by
  refine ⟨2000000, ?_⟩
  unfold laws_FnExactRulesFault.f
  rw [laws_szRuleS_eq w0.1 (by decide) (by decide)]
  simp only [Option.bind_some]
  by_cases hL : (1048576 : Int) < l0.length
  · rw [if_pos (szB_neg.2 hL)]
  · rw [if_neg (fun h => hL (szB_neg.1 h))]
    have h1 : l0.length ≤ 1048576 := by omega
    have h2 : l0.length < 2000000 := by omega
    have h3 : (l0.map cvtRule).length ≤ 1048576 := by simpa using h1
    have h4 : (l0.map cvtRule).length < 2000000 := by simpa using h2
    simp only [laws_toRuleS_eq h1 h2, laws_eqRuleS_refl h3 h4, spec_RulesFault_eq (show 20 ≤ 2000000 by decide), impl_RulesFault_eq (show 20 ≤ 2000000 by decide), Option.bind_some, if_true]
end Go.Proofs.Ytmeaabgkndcikaa.Pure
