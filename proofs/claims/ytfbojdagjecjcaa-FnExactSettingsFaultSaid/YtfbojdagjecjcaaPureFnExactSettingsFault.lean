/- The pure part of the law FnExactSettingsFault: what the printed functions compute, in closed form, and that the law's answer is true. -/
import Derived.Test.YtfbojdagjecjcaaPFnExactSettingsFaultx1
import Derived.Test.YtfbojdagjecjcaaPFnExactSettingsFaultx2
import Derived.Test.YtfbojdagjecjcaaPFnExactSettingsFaultx3
import Derived.Test.YtfbojdagjecjcaaPFnExactSettingsFaultx4
import Derived.Test.YtfbojdagjecjcaaPFnExactSettingsFaultx5
import Derived.Test.YtfbojdagjecjcaaPFnExactSettingsFaultx6
import Derived.Test.YtfbojdagjecjcaaBase
namespace Go.Proofs.Ytfbojdagjecjcaa.Pure
open Go.RowKit Go.Proofs.Ytfbojdagjecjcaa.PFnExactSettingsFault Go.Proofs.YtfbojdagjecjcaaW.PrintWords Go.Proofs.YtfbojdagjecjcaaW.PrintLast Go.Proofs.YtfbojdagjecjcaaW.PrintMore Go.Proofs.Ytfbojdagjecjcaa.B
set_option linter.unusedVariables false
set_option linter.unusedSimpArgs false

theorem laws_szRuleS_eq {l : List S65} {a : Int} (hl : l.length ≤ maxLen) (h0 : -1 ≤ a) (h1 : a ≤ 1048576) : laws_szRuleS.f l a = some (szB a l.length) := szB_eq h0 h1 hl

theorem laws_szSettings_eq {a b c d : Int} {l m : List S65} {e : Int} (hl : l.length ≤ maxLen) (hm : m.length ≤ maxLen) (h0 : -1 ≤ e) (h1 : e ≤ 1048576) :
    laws_szSettings.f a b c d l m e = some (if szB e l.length < 0 then -1 else szB (szB e l.length) m.length) := by
  have hb := szB_bound (left := e) (n := l.length) h1
  simp only [laws_szSettings.f, laws_szRuleS_eq hl h0 h1, laws_szRuleS_eq hm hb.1 hb.2, Option.bind_some, szB_again, ite_some]
  congr 1
  split
  · rfl
  · have h := szB_again (szB e l.length) m.length
    rw [ite_some] at h
    exact Option.some.inj h

theorem spec_l1In_eq (n lo hi : Int) : spec_l1In.f n lo hi = some (inB n lo hi) := inB_eq n lo hi

theorem spec_l2Addr_eq (n : Int) : spec_l2Addr.f n = some (inB n 0 65535) := by
  simp only [spec_l2Addr.f, spec_l1In_eq, Option.bind_some]

theorem spec_l4Hold_eq (n : Int) : spec_l4Hold.f n = some (holdB n) := by
  simp only [spec_l4Hold.f, spec_l1In_eq, Option.bind_some, ite_some]; rfl

theorem spec_ConfigFault_eq (a b c : Int) : spec_ConfigFault.f a b c = some (configFault a b c) := by
  simp only [spec_ConfigFault.f, spec_l1In_eq, spec_l4Hold_eq, Option.bind_some, ite_some]; rfl

theorem spec_l2Rest_eq {l : Int} (h0 : 0 ≤ l) (h1 : l ≤ 16) : spec_l2Rest.f l = some (span l - 1) := by
  unfold spec_l2Rest.f
  rw [if_pos (cnt_ok2 h0 h1), shl_span2 h0 h1]

theorem spec_PrefixFault_eq {k : Nat} (hk : 1 ≤ k) (a l : Int) : spec_PrefixFault.f k a l = some (prefixFault a l) := by
  obtain ⟨k, rfl⟩ : ∃ m, k = m + 1 := ⟨k - 1, by omega⟩
  simp only [spec_PrefixFault.f, spec_l2Addr_eq, spec_l1In_eq, Option.bind_some, spec_PrefixFault.j0]
  unfold prefixFault
  by_cases h1 : inB a 0 65535 = true
  · by_cases h2 : inB l 0 16 = true
    · have h3 := inB_iff.1 h1
      have h4 := inB_iff.1 h2
      rw [if_pos h1, if_pos h1, if_pos h2, h2]
      simp only [Bool.not_true, Bool.false_eq_true, if_false, spec_l2Rest_eq h4.1 h4.2, Option.bind_some, and_span h4.1 h4.2 h3.1 h3.2, ite_some]
    · simp [h1, h2]
  · simp [h1]

theorem spec_l3Word_eq (n : Int) : spec_l3Word.f n = some (inB n 0 65535) := by
  simp only [spec_l3Word.f, spec_l1In_eq, Option.bind_some]

theorem spec_RuleFault_eq {k : Nat} (hk : 1 ≤ k) (a b c d e : Int) (f : Bool) (g h : Int) : spec_RuleFault.f k a b c d e f g h = some (ruleFault a b c d e f g h) := by
  obtain ⟨k, rfl⟩ : ∃ m, k = m + 1 := ⟨k - 1, by omega⟩
  simp only [spec_RuleFault.f, spec_PrefixFault_eq (Nat.le_add_left 1 k), spec_l1In_eq, spec_l3Word_eq, Option.bind_some, spec_RuleFault.j0]
  unfold ruleFault
  by_cases h0 : prefixFault a b = 0
  · rw [if_pos h0, if_pos h0]
    cases h1 : inB c 0 16 <;> cases h2 : inB d 0 16 <;> cases h3 : inB e 0 65535 <;> cases h4 : inB g (-1) 65535 <;> cases h5 : inB h 0 3 <;> simp
    by_cases hc : d < c
    · simp [hc]
    · simp only [hc, if_false]
      cases f
      · simp
      · by_cases hg : g = -1 <;> by_cases hh : h = 0 <;> simp [hg, hh]
  · rw [if_neg h0, if_neg h0]

def ruleF (x : S68) : Int := ruleFault x.f0.f0 x.f0.f1 x.f1 x.f2 x.f3 x.f4 x.f5 x.f6
theorem spec_RulesFault_eq {k : Nat} {l : List S68} (hk : 20 ≤ k) : spec_RulesFault.f k l = some (if (l.length : Int) > 8 then 2 else firstFault ruleF l) := by
  unfold spec_RulesFault.f
  by_cases h8 : (l.length : Int) > 8
  · rw [if_pos h8, if_pos h8]
  · rw [if_neg h8, if_neg h8]
    exact fault_loop (L := fun k i => spec_RulesFault.l0 k l i) (B := 1)
      (fun k i h hB => by
        have hr : rd_T68 l (i : Int) = l[i] := getD_nat h
        simp only [spec_RulesFault.l0, hr, spec_RuleFault_eq hB, Option.bind_some]
        rw [if_pos (by omega), if_pos (by omega), wrap_succ (by omega)]
        rfl)
      (fun k => by simp only [spec_RulesFault.l0]; rw [if_neg (by omega)]) (by omega)

def rulesF (l : List S68) : Int := if (l.length : Int) > 8 then 2 else firstFault ruleF l
def settingsFault (a b c d : Int) (l m : List S68) : Int := if configFault a b c = 0 then (if inB d 0 65535 = true then (if rulesF l = 0 then rulesF m else rulesF l) else 3) else configFault a b c
theorem spec_SettingsFault_eq {k : Nat} (hk : 20 ≤ k) (a b c d : Int) (l m : List S68) : spec_SettingsFault.f k a b c d l m = some (settingsFault a b c d l m) := by
  simp only [spec_SettingsFault.f, spec_ConfigFault_eq, spec_l2Addr_eq, spec_RulesFault_eq hk, Option.bind_some, ite_some]; rfl

theorem laws_toConfig_eq (a b c : Int) : laws_toConfig.f a b c = some (a, b, c) := rfl

theorem laws_toPrefix_eq (a b : Int) : laws_toPrefix.f a b = some (a, b) := rfl

theorem laws_toRule_eq (a b c d e : Int) (f : Bool) (g h : Int) : laws_toRule.f a b c d e f g h = some (a, b, c, d, e, f, g, h) := rfl

def cvtRule (x : S65) : S68 := ⟨⟨x.f0.f0, x.f0.f1⟩, x.f1, x.f2, x.f3, x.f4, x.f5, x.f6⟩
theorem laws_toRuleS_eq {k : Nat} {l : List S65} (hl : l.length ≤ 1048576) (hk : l.length < k) : laws_toRuleS.f k l = some (l.map cvtRule) := by
  unfold laws_toRuleS.f
  rw [if_pos (by omega), if_pos (by omega)]
  exact set_loop (L := fun k acc i => laws_toRuleS.l0 k l acc i) (B := 0)
    (fun k i acc h _ ha => by
      have hr : rd_T65 l (i : Int) = l[i] := getD_nat h
      simp only [laws_toRuleS.l0, hr, laws_toRule_eq, Option.bind_some]
      rw [if_pos (by omega), if_pos (by omega), if_pos (by omega), wrap_succ (by omega)]
      rfl)
    (fun k acc _ => by simp only [laws_toRuleS.l0]; rw [if_neg (by omega)]) (by simp) (by omega)

theorem laws_toSettings_eq {k : Nat} {a b c d : Int} {l m : List S65} (hl : l.length ≤ 1048576) (hk : l.length < k) (hm : m.length ≤ 1048576) (hk2 : m.length < k) : laws_toSettings.f k a b c d l m = some (a, b, c, d, l.map cvtRule, m.map cvtRule) := by
  simp only [laws_toSettings.f, laws_toConfig_eq, laws_toRuleS_eq hl hk, laws_toRuleS_eq hm hk2, Option.bind_some]

theorem impl_in_eq (n lo hi : Int) : impl_in.f n lo hi = some (inB n lo hi) := inB_eq n lo hi

theorem impl_isAddr_eq (n : Int) : impl_isAddr.f n = some (inB n 0 65535) := by
  simp only [impl_isAddr.f, impl_in_eq, Option.bind_some]

theorem impl_isSystem_eq (n : Int) : impl_isSystem.f n = some (inB n 1 65535) := by
  simp only [impl_isSystem.f, impl_in_eq, Option.bind_some]

theorem impl_isHold_eq (n : Int) : impl_isHold.f n = some (holdB n) := by
  simp only [impl_isHold.f, impl_in_eq, Option.bind_some, ite_some]; rfl

theorem impl_ConfigFault_eq (a b c : Int) : impl_ConfigFault.f a b c = some (configFault a b c) := by
  simp only [impl_ConfigFault.f, impl_isSystem_eq, impl_isHold_eq, Option.bind_some, ite_some]; rfl

theorem impl_PrefixFault_eq {k : Nat} (hk : 1 ≤ k) (a l : Int) : impl_PrefixFault.f k a l = some (prefixFault a l) := by
  obtain ⟨k, rfl⟩ : ∃ m, k = m + 1 := ⟨k - 1, by omega⟩
  simp only [impl_PrefixFault.f, impl_isAddr_eq, impl_in_eq, Option.bind_some, impl_PrefixFault.j0]
  unfold prefixFault
  by_cases h1 : inB a 0 65535 = true
  · by_cases h2 : inB l 0 16 = true
    · have h3 := inB_iff.1 h1
      have h4 := inB_iff.1 h2
      rw [if_pos h1, if_pos h1, if_pos h2, h2]
      simp only [Bool.not_true, Bool.false_eq_true, if_false]
      rw [if_pos (cnt_ok h4.1 h4.2), shl_span h4.1 h4.2, and_span h4.1 h4.2 h3.1 h3.2, ite_some]
    · simp [h1, h2]
  · simp [h1]

theorem impl_isTwo_eq (n : Int) : impl_isTwo.f n = some (inB n 0 65535) := by
  simp only [impl_isTwo.f, impl_in_eq, Option.bind_some]

theorem impl_RuleFault_eq {k : Nat} (hk : 1 ≤ k) (a b c d e : Int) (f : Bool) (g h : Int) : impl_RuleFault.f k a b c d e f g h = some (ruleFault a b c d e f g h) := by
  obtain ⟨k, rfl⟩ : ∃ m, k = m + 1 := ⟨k - 1, by omega⟩
  simp only [impl_RuleFault.f, impl_PrefixFault_eq (Nat.le_add_left 1 k), impl_in_eq, impl_isTwo_eq, Option.bind_some, impl_RuleFault.j0]
  unfold ruleFault
  by_cases h0 : prefixFault a b = 0
  · rw [if_pos h0, if_pos h0]
    cases h1 : inB c 0 16 <;> cases h2 : inB d 0 16 <;> cases h3 : inB e 0 65535 <;> cases h4 : inB g (-1) 65535 <;> cases h5 : inB h 0 3 <;> simp
    by_cases hc : d < c
    · simp [hc]
    · simp only [hc, if_false]
      cases f
      · simp
      · by_cases hg : g = -1 <;> by_cases hh : h = 0 <;> simp [hg, hh]
  · rw [if_neg h0, if_neg h0]

theorem impl_RulesFault_eq {k : Nat} {l : List S68} (hk : 20 ≤ k) : impl_RulesFault.f k l = some (if (l.length : Int) > 8 then 2 else firstFault ruleF l) := by
  unfold impl_RulesFault.f
  by_cases h8 : (l.length : Int) > 8
  · rw [if_pos h8, if_pos h8]
  · rw [if_neg h8, if_neg h8]
    exact fault_loop (L := fun k i => impl_RulesFault.l0 k l (l.length : Int) i) (B := 1)
      (fun k i h hB => by
        have hr : rd_T68 l (i : Int) = l[i] := getD_nat h
        simp only [impl_RulesFault.l0, hr, impl_RuleFault_eq hB, Option.bind_some]
        rw [if_pos (by omega), if_pos (by omega), if_pos (by omega), wrap_succ (by omega)]
        rfl)
      (fun k => by simp only [impl_RulesFault.l0]; rw [if_neg (by omega)]) (by omega)

theorem impl_SettingsFault_eq {k : Nat} (hk : 20 ≤ k) (a b c d : Int) (l m : List S68) : impl_SettingsFault.f k a b c d l m = some (settingsFault a b c d l m) := by
  simp only [impl_SettingsFault.f, impl_ConfigFault_eq, impl_isAddr_eq, impl_RulesFault_eq hk, Option.bind_some, ite_some]; rfl

theorem laws_eqConfig_refl (a b c : Int) : laws_eqConfig.f a b c a b c = some true := by
  simp only [laws_eqConfig.f, if_true]

theorem laws_eqPrefix_refl (a b : Int) : laws_eqPrefix.f a b a b = some true := by
  simp only [laws_eqPrefix.f, if_true]

theorem laws_eqRule_refl (a b c d e : Int) (f : Bool) (g h : Int) : laws_eqRule.f a b c d e f g h a b c d e f g h = some true := by
  simp [laws_eqRule.f, laws_eqPrefix_refl]

theorem laws_eqRuleS_refl {k : Nat} {l : List S68} (hl : l.length ≤ 1048576) (hk : l.length < k) : laws_eqRuleS.f k l l = some true := by
  unfold laws_eqRuleS.f
  rw [if_pos rfl]
  exact all_loop (L := fun k i => laws_eqRuleS.l0 k l l i) (n := l.length) (B := 0)
    (fun k i h _ => by
      simp only [laws_eqRuleS.l0, laws_eqRule_refl, Option.bind_some]
      rw [if_pos (by omega), if_pos (by omega), if_pos (by omega)]
      simp only [if_true]
      rw [wrap_succ (by omega)])
    (fun k => by simp only [laws_eqRuleS.l0]; rw [if_neg (by omega)]) (by omega)

theorem laws_eqSettings_refl {k : Nat} {a b c d : Int} {l m : List S68} (hl : l.length ≤ 1048576) (hk : l.length < k) (hm : m.length ≤ 1048576) (hk2 : m.length < k) : laws_eqSettings.f k a b c d l m a b c d l m = some true := by
  simp only [laws_eqSettings.f, laws_eqConfig_refl, laws_eqRuleS_refl hl hk, laws_eqRuleS_refl hm hk2, Option.bind_some, if_true]

theorem FnExactSettingsFault (a0_0 : Int) (a0_1 : Int) (a0_2 : Int) (a0_3 : Int) (l0_4 : List S65) (l0_5 : List S65)
    (w0_0 : (Lit.int .i64 a0_0).wf = true) (w0_1 : (Lit.int .i64 a0_1).wf = true) (w0_2 : (Lit.int .i64 a0_2).wf = true) (w0_3 : (Lit.int .i64 a0_3).wf = true)
    (w0_4 : (l0_4.length ≤ maxLen ∧ ∀ z1 ∈ l0_4, (((Lit.int .i64 z1.f0.f0).wf = true) ∧ ((Lit.int .i64 z1.f0.f1).wf = true)) ∧ ((Lit.int .i64 z1.f1).wf = true) ∧ ((Lit.int .i64 z1.f2).wf = true) ∧ ((Lit.int .i64 z1.f3).wf = true) ∧ (True) ∧ ((Lit.int .i64 z1.f5).wf = true) ∧ ((Lit.int .i64 z1.f6).wf = true))) (w0_5 : (l0_5.length ≤ maxLen ∧ ∀ z1 ∈ l0_5, (((Lit.int .i64 z1.f0.f0).wf = true) ∧ ((Lit.int .i64 z1.f0.f1).wf = true)) ∧ ((Lit.int .i64 z1.f1).wf = true) ∧ ((Lit.int .i64 z1.f2).wf = true) ∧ ((Lit.int .i64 z1.f3).wf = true) ∧ (True) ∧ ((Lit.int .i64 z1.f5).wf = true) ∧ ((Lit.int .i64 z1.f6).wf = true))) :
    ∃ k, laws_FnExactSettingsFault.f k a0_0 a0_1 a0_2 a0_3 l0_4 l0_5 = some true := by
  refine ⟨2000000, ?_⟩
  unfold laws_FnExactSettingsFault.f
  rw [laws_szSettings_eq w0_4.1 w0_5.1 (by decide) (by decide)]
  simp only [Option.bind_some]
  by_cases hL : szB 1048576 l0_4.length < 0
  · simp only [if_pos hL]; rfl
  · simp only [if_neg hL]
    by_cases hL2 : szB (szB 1048576 l0_4.length) l0_5.length < 0
    · rw [if_pos hL2]
    · rw [if_neg hL2]
      have hb := szB_bound (left := 1048576) (n := l0_4.length) (by decide)
      have q1 := mt szB_neg.2 hL
      have q2 := mt szB_neg.2 hL2
      have h1 : l0_4.length ≤ 1048576 := by omega
      have h2 : l0_4.length < 2000000 := by omega
      have h3 : l0_5.length ≤ 1048576 := by omega
      have h4 : l0_5.length < 2000000 := by omega
      have g1 : (l0_4.map cvtRule).length ≤ 1048576 := by simpa using h1
      have g2 : (l0_4.map cvtRule).length < 2000000 := by simpa using h2
      have g3 : (l0_5.map cvtRule).length ≤ 1048576 := by simpa using h3
      have g4 : (l0_5.map cvtRule).length < 2000000 := by simpa using h4
      simp only [laws_toSettings_eq h1 h2 h3 h4, laws_eqSettings_refl g1 g2 g3 g4, spec_SettingsFault_eq (show 20 ≤ 2000000 by decide), impl_SettingsFault_eq (show 20 ≤ 2000000 by decide), Option.bind_some, if_true]
end Go.Proofs.Ytfbojdagjecjcaa.Pure
