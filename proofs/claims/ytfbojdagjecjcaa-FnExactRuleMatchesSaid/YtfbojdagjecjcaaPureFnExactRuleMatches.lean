/- The pure part of the law FnExactRuleMatches: what the printed functions compute, in closed form, and that the law's answer is true. -/
import Derived.Test.YtfbojdagjecjcaaXFnExactRuleMatchesx1
import Derived.Test.YtfbojdagjecjcaaXFnExactRuleMatchesx2
import Derived.Test.YtfbojdagjecjcaaXFnExactRuleMatchesx3
import Derived.Test.YtfbojdagjecjcaaXFnExactRuleMatchesx4
import Derived.Test.YtfbojdagjecjcaaXFnExactRuleMatchesx5
import Derived.Test.YtfbojdagjecjcaaXFnExactRuleMatchesx6
import Derived.Test.YtfbojdagjecjcaaXFnExactRuleMatchesx7
import Derived.Test.YtfbojdagjecjcaaXFnExactRuleMatchesx8
import Derived.Test.YtfbojdagjecjcaaXFnExactRuleMatchesx9
import Derived.Test.YtfbojdagjecjcaaXFnExactRuleMatchesx10
import Derived.Test.YtfbojdagjecjcaaBase
namespace Go.Proofs.Ytfbojdagjecjcaa.Pure
open Go.RowKit Go.Proofs.Ytfbojdagjecjcaa.PFnExactRuleMatches Go.Proofs.YtfbojdagjecjcaaW.PrintWords Go.Proofs.YtfbojdagjecjcaaW.PrintLast Go.Proofs.YtfbojdagjecjcaaW.PrintMore Go.Proofs.Ytfbojdagjecjcaa.B
set_option linter.unusedVariables false
set_option linter.unusedSimpArgs false

theorem laws_szInt64S_eq {l : List Int} {a : Int} (hl : l.length ≤ maxLen) (h0 : -1 ≤ a) (h1 : a ≤ 1048576) : laws_szInt64S.f l a = some (szB a l.length) := szB_eq h0 h1 hl

theorem laws_szAttrs_eq {a c d e : Int} {l : List Int} {b : Int} (hl : l.length ≤ maxLen) (h0 : -1 ≤ b) (h1 : b ≤ 1048576) : laws_szAttrs.f a l c d e b = some (szB b l.length) := by
  simp only [laws_szAttrs.f, laws_szInt64S_eq hl h0 h1, Option.bind_some, szB_again]

theorem laws_toInt64S_eq {k : Nat} {l : List Int} (hl : l.length ≤ 1048576) (hk : l.length < k) : laws_toInt64S.f k l = some l := by
  unfold laws_toInt64S.f
  rw [if_pos (by omega), if_pos (by omega)]
  have h := set_loop (L := fun k acc i => laws_toInt64S.l0 k l acc i) (xs := l) (f := fun x => x) (B := 0) (k := k) (acc := List.replicate ((l.length : Int)).toNat 0)
    (fun k i acc h _ ha => by
      simp only [laws_toInt64S.l0]
      rw [if_pos (by omega), if_pos (by omega), if_pos (by omega), rd_nat h, wrap_succ (by omega)]
      simp)
    (fun k acc _ => by simp only [laws_toInt64S.l0]; rw [if_neg (by omega)]) (by simp) (by omega)
  simpa using h

theorem laws_toAttrs_eq {k : Nat} {a c d e : Int} {l : List Int} (hl : l.length ≤ 1048576) (hk : l.length < k) : laws_toAttrs.f k a l c d e = some (a, l, c, d, e) := by
  simp only [laws_toAttrs.f, laws_toInt64S_eq hl hk, Option.bind_some]

theorem laws_eqInt64S_refl {k : Nat} {l : List Int} (hl : l.length ≤ 1048576) (hk : l.length < k) : laws_eqInt64S.f k l l = some true := by
  unfold laws_eqInt64S.f
  rw [if_pos rfl]
  exact all_loop (L := fun k i => laws_eqInt64S.l0 k l l i) (n := l.length) (B := 0)
    (fun k i h _ => by
      simp only [laws_eqInt64S.l0]
      rw [if_pos (by omega), if_pos (by omega), if_pos (by omega)]
      simp only [if_true]
      rw [wrap_succ (by omega)])
    (fun k => by simp only [laws_eqInt64S.l0]; rw [if_neg (by omega)]) (by omega)

theorem laws_eqAttrs_refl {k : Nat} {a c d e : Int} {l : List Int} (hl : l.length ≤ 1048576) (hk : l.length < k) : laws_eqAttrs.f k a l c d e a l c d e = some true := by
  simp only [laws_eqAttrs.f, laws_eqInt64S_refl hl hk, Option.bind_some, if_true]

theorem spec_l1In_eq (n lo hi : Int) : spec_l1In.f n lo hi = some (inB n lo hi) := inB_eq n lo hi

theorem spec_l3Word_eq (n : Int) : spec_l3Word.f n = some (inB n 0 65535) := by
  simp only [spec_l3Word.f, spec_l1In_eq, Option.bind_some]

theorem spec_AttrsFault_eq {k : Nat} (hk : 10 ≤ k) (a : Int) (l : List Int) (b c d : Int) : spec_AttrsFault.f k a l b c d = some (attrsFault a l b c d) := by
  obtain ⟨k, rfl⟩ : ∃ m, k = m + 1 := ⟨k - 1, by omega⟩
  simp only [spec_AttrsFault.f, spec_l1In_eq, spec_l3Word_eq, Option.bind_some, spec_AttrsFault.j0]
  unfold attrsFault
  cases h1 : inB a 0 2 <;> cases h2 : inB b 0 65535 <;> cases h3 : inB c 0 65535 <;> cases h4 : inB d 0 65535 <;> simp only [Bool.not_true, Bool.not_false, Bool.and_true, Bool.and_false, Bool.false_eq_true, if_true, if_false, Bool.true_and, Bool.false_and]
  by_cases h6 : (6 : Int) < l.length
  · rw [if_pos h6, if_pos h6]
  · rw [if_neg h6, if_neg h6]
    refine Eq.trans ?_ (congrArg some (scan_anyNot l 3 0))
    exact scan_loop (L := fun k i => spec_AttrsFault.l0 k i a l b c d) (B := 0)
      (fun k i h _ => by
        simp only [spec_AttrsFault.l0]
        rw [if_pos (by omega), if_pos (by omega), rd_nat h, wrap_succ (by omega)]
        simp only [spec_l1In_eq, Option.bind_some]
        by_cases hx : inB l[i] 1 65535 = true <;> simp [hx])
      (fun k => by simp only [spec_AttrsFault.l0]; rw [if_neg (by omega)]) (by omega)

theorem spec_l2Addr_eq (n : Int) : spec_l2Addr.f n = some (inB n 0 65535) := by
  simp only [spec_l2Addr.f, spec_l1In_eq, Option.bind_some]

theorem spec_l2Rest_eq {l : Int} (h0 : 0 ≤ l) (h1 : l ≤ 16) : spec_l2Rest.f l = some (span l - 1) := by
  unfold spec_l2Rest.f
  rw [if_pos (cnt_ok2 h0 h1), shl_span2 h0 h1]

theorem spec_PrefixFault_eq {k : Nat} (hk : 1 ≤ k) (a l : Int) : spec_PrefixFault.f k a l = some (prefixFault a l) := by
  obtain ⟨k, rfl⟩ : ∃ m, k = m + 1 := ⟨k - 1, by omega⟩
  simp only [spec_PrefixFault.f, spec_l2Addr_eq, spec_l1In_eq, Option.bind_some, spec_PrefixFault.j0]
  unfold prefixFault
  by_cases h1 : inB a 0 65535 = true
  · by_cases h2 : inB l 0 16 = true
    · have h3 := inB_iff.1 h1
      have h4 := inB_iff.1 h2
      rw [if_pos h1, if_pos h1, if_pos h2, h2]
      simp only [Bool.not_true, Bool.false_eq_true, if_false, spec_l2Rest_eq h4.1 h4.2, Option.bind_some, and_span h4.1 h4.2 h3.1 h3.2, ite_some]
    · simp [h1, h2]
  · simp [h1]

theorem spec_RuleFault_eq {k : Nat} (hk : 1 ≤ k) (a b c d e : Int) (f : Bool) (g h : Int) : spec_RuleFault.f k a b c d e f g h = some (ruleFault a b c d e f g h) := by
  obtain ⟨k, rfl⟩ : ∃ m, k = m + 1 := ⟨k - 1, by omega⟩
  simp only [spec_RuleFault.f, spec_PrefixFault_eq (Nat.le_add_left 1 k), spec_l1In_eq, spec_l3Word_eq, Option.bind_some, spec_RuleFault.j0]
  unfold ruleFault
  by_cases h0 : prefixFault a b = 0
  · rw [if_pos h0, if_pos h0]
    cases h1 : inB c 0 16 <;> cases h2 : inB d 0 16 <;> cases h3 : inB e 0 65535 <;> cases h4 : inB g (-1) 65535 <;> cases h5 : inB h 0 3 <;> simp
    by_cases hc : d < c
    · simp [hc]
    · simp only [hc, if_false]
      cases f
      · simp
      · by_cases hg : g = -1 <;> by_cases hh : h = 0 <;> simp [hg, hh]
  · rw [if_neg h0, if_neg h0]

theorem spec_l2Has_eq {a l x : Int} (h : prefixFault a l = 0) (h0 : 0 ≤ x) (h1 : x ≤ 65535) : spec_l2Has.f a l x = some (hasB a l x) := by
  obtain ⟨_, _, h3, h4, _⟩ := prefixFault_ok h
  simp only [spec_l2Has.f, spec_l2Rest_eq h3 h4, Option.bind_some, andNot_span h3 h4 h0 h1]
  rfl

theorem spec_IsWithin_eq {k : Nat} (hk : 1 ≤ k) (a l b m : Int) : spec_IsWithin.f k a l b m = some (within a l b m) := by
  simp only [spec_IsWithin.f, spec_PrefixFault_eq hk, Option.bind_some]
  unfold within
  by_cases h : prefixFault a l = 0
  · rw [if_pos h, if_pos h]
    by_cases h2 : prefixFault b m = 0
    · have h3 := prefixFault_ok h
      rw [if_pos h2, if_pos h2, spec_l2Has_eq h2 h3.1 h3.2.1]
      simp only [Option.bind_some, ite_some]
    · rw [if_neg h2, if_neg h2]
  · rw [if_neg h, if_neg h]

theorem spec_HasLoop_eq {k : Nat} {a c d e : Int} {l : List Int} {x : Int} (hl : l.length ≤ 1048576) (hk : l.length < k) : spec_HasLoop.f k a l c d e x = some (memB l x) := by
  unfold spec_HasLoop.f
  refine Eq.trans ?_ (congrArg some (scan_mem l x))
  exact scan_loop (L := fun k i => spec_HasLoop.l0 k x i a l c d e) (B := 0)
    (fun k i h _ => by
      simp only [spec_HasLoop.l0]
      rw [if_pos (by omega), if_pos (by omega), rd_nat h, wrap_succ (by omega)]
      by_cases hx : l[i] = x <;> simp [hx])
    (fun k => by simp only [spec_HasLoop.l0]; rw [if_neg (by omega)]) (by omega)

def matchB (ra rl least most as_ : Int) (pa pl : Int) (path : List Int) : Bool := if within pa pl ra rl = true then (if inB pl least most = true then (if as_ = 0 then true else memB path as_) else false) else false
theorem spec_l6Matches_eq {k : Nat} {a b c d e : Int} {f : Bool} {g h pa pl o : Int} {p : List Int} {n m l : Int} (hl : p.length ≤ 1048576) (hk : p.length + 1 < k) : spec_l6Matches.f k a b c d e f g h pa pl o p n m l = some (matchB a b c d e pa pl p) := by
  simp only [spec_l6Matches.f, spec_IsWithin_eq (show 1 ≤ k by omega), spec_l1In_eq, spec_HasLoop_eq hl (show p.length < k by omega), Option.bind_some, ite_some]; rfl

def ruleMatchB (a b c d e : Int) (f : Bool) (g h pa pl o : Int) (p : List Int) (n m l : Int) : Bool := if ruleFault a b c d e f g h = 0 then (if prefixFault pa pl = 0 then (if attrsFault o p n m l = 0 then matchB a b c d e pa pl p else false) else false) else false
theorem spec_RuleMatches_eq {k : Nat} {a b c d e : Int} {f : Bool} {g h pa pl o : Int} {p : List Int} {n m l : Int} (hl : p.length ≤ 1048576) (hk : p.length + 20 < k) : spec_RuleMatches.f k a b c d e f g h pa pl o p n m l = some (ruleMatchB a b c d e f g h pa pl o p n m l) := by
  simp only [spec_RuleMatches.f, spec_RuleFault_eq (show 1 ≤ k by omega), spec_PrefixFault_eq (show 1 ≤ k by omega), spec_AttrsFault_eq (show 10 ≤ k by omega), spec_l6Matches_eq hl (show p.length + 1 < k by omega), Option.bind_some, ite_some]; rfl

theorem laws_toPrefix_eq (a b : Int) : laws_toPrefix.f a b = some (a, b) := rfl

theorem laws_toRule_eq (a b c d e : Int) (f : Bool) (g h : Int) : laws_toRule.f a b c d e f g h = some (a, b, c, d, e, f, g, h) := rfl

theorem impl_in_eq (n lo hi : Int) : impl_in.f n lo hi = some (inB n lo hi) := inB_eq n lo hi

theorem impl_isAddr_eq (n : Int) : impl_isAddr.f n = some (inB n 0 65535) := by
  simp only [impl_isAddr.f, impl_in_eq, Option.bind_some]

theorem impl_isTwo_eq (n : Int) : impl_isTwo.f n = some (inB n 0 65535) := by
  simp only [impl_isTwo.f, impl_in_eq, Option.bind_some]

theorem impl_isSystem_eq (n : Int) : impl_isSystem.f n = some (inB n 1 65535) := by
  simp only [impl_isSystem.f, impl_in_eq, Option.bind_some]

theorem impl_AttrsFault_1_eq (n : Int) : impl_AttrsFault_1.f n = some (!inB n 1 65535) := by simp only [impl_AttrsFault_1.f, impl_isSystem_eq, Option.bind_some]

theorem slices_IndexFunc_int64_int64_eq {k : Nat} {l : List Int} (hl : l.length ≤ 1048576) (hk : l.length < k) : ∃ r, slices_IndexFunc_int64_int64.f k l = some r ∧ (decide (r ≥ 0) = l.any (fun x => !inB x 1 65535)) := by
  refine ⟨_, run_loop (L := fun k (_ : Unit) i => slices_IndexFunc_int64_int64.l0 k l (l.length : Int) i) (xs := l) (step := fun i _ y => if (!inB y 1 65535) = true then .inr (i : Int) else .inl ()) (fin := fun _ => -1) (B := 0) (s := ()) (fun _ _ => True)
    (fun k i _ h _ _ => by
      simp only [slices_IndexFunc_int64_int64.l0]
      rw [if_pos (by omega), if_pos (by omega), if_pos (by omega), rd_nat h, wrap_succ (by omega), impl_AttrsFault_1_eq]
      by_cases hx : (!inB l[i] 1 65535) = true <;> simp [hx])
    (fun _ _ _ _ _ _ => trivial)
    (fun k _ _ => by simp only [slices_IndexFunc_int64_int64.l0]; rw [if_neg (by omega)]) trivial (by omega), run_indexP _ l 0⟩

theorem slices_ContainsFunc_int64_int64_eq {k : Nat} {l : List Int} (hl : l.length ≤ 1048576) (hk : l.length < k) : slices_ContainsFunc_int64_int64.f k l = some (l.any (fun x => !inB x 1 65535)) := by
  obtain ⟨r, hr, hm⟩ := slices_IndexFunc_int64_int64_eq hl hk
  simp only [slices_ContainsFunc_int64_int64.f, hr, Option.bind_some, hm]

theorem impl_AttrsFault_eq {k : Nat} (hk : 10 ≤ k) (a : Int) (l : List Int) (b c d : Int) : impl_AttrsFault.f k a l b c d = some (attrsFault a l b c d) := by
  obtain ⟨k, rfl⟩ : ∃ m, k = m + 1 := ⟨k - 1, by omega⟩
  simp only [impl_AttrsFault.f, impl_in_eq, impl_isAddr_eq, impl_isTwo_eq, Option.bind_some, impl_AttrsFault.j0]
  unfold attrsFault
  cases h1 : inB a 0 2 <;> cases h2 : inB b 0 65535 <;> cases h3 : inB c 0 65535 <;> cases h4 : inB d 0 65535 <;> simp only [Bool.not_true, Bool.not_false, Bool.and_true, Bool.and_false, Bool.false_eq_true, if_true, if_false, Bool.true_and, Bool.false_and]
  by_cases h6 : (6 : Int) < l.length
  · rw [if_pos h6, if_pos h6]
  · rw [if_neg h6, if_neg h6]
    rw [slices_ContainsFunc_int64_int64_eq (by omega) (by omega)]
    simp only [Option.bind_some, ite_some]

theorem impl_PrefixFault_eq {k : Nat} (hk : 1 ≤ k) (a l : Int) : impl_PrefixFault.f k a l = some (prefixFault a l) := by
  obtain ⟨k, rfl⟩ : ∃ m, k = m + 1 := ⟨k - 1, by omega⟩
  simp only [impl_PrefixFault.f, impl_isAddr_eq, impl_in_eq, Option.bind_some, impl_PrefixFault.j0]
  unfold prefixFault
  by_cases h1 : inB a 0 65535 = true
  · by_cases h2 : inB l 0 16 = true
    · have h3 := inB_iff.1 h1
      have h4 := inB_iff.1 h2
      rw [if_pos h1, if_pos h1, if_pos h2, h2]
      simp only [Bool.not_true, Bool.false_eq_true, if_false]
      rw [if_pos (cnt_ok h4.1 h4.2), shl_span h4.1 h4.2, and_span h4.1 h4.2 h3.1 h3.2, ite_some]
    · simp [h1, h2]
  · simp [h1]

theorem impl_RuleFault_eq {k : Nat} (hk : 1 ≤ k) (a b c d e : Int) (f : Bool) (g h : Int) : impl_RuleFault.f k a b c d e f g h = some (ruleFault a b c d e f g h) := by
  obtain ⟨k, rfl⟩ : ∃ m, k = m + 1 := ⟨k - 1, by omega⟩
  simp only [impl_RuleFault.f, impl_PrefixFault_eq (Nat.le_add_left 1 k), impl_in_eq, impl_isTwo_eq, Option.bind_some, impl_RuleFault.j0]
  unfold ruleFault
  by_cases h0 : prefixFault a b = 0
  · rw [if_pos h0, if_pos h0]
    cases h1 : inB c 0 16 <;> cases h2 : inB d 0 16 <;> cases h3 : inB e 0 65535 <;> cases h4 : inB g (-1) 65535 <;> cases h5 : inB h 0 3 <;> simp
    by_cases hc : d < c
    · simp [hc]
    · simp only [hc, if_false]
      cases f
      · simp
      · by_cases hg : g = -1 <;> by_cases hh : h = 0 <;> simp [hg, hh]
  · rw [if_neg h0, if_neg h0]

theorem impl_Prefix_has_eq {a l : Int} (h : prefixFault a l = 0) (x : Int) : impl_Prefix_has.f a l x = some (if inB x 0 65535 = true then hasB a l x else false) := by
  obtain ⟨_, _, h3, h4, _⟩ := prefixFault_ok h
  simp only [impl_Prefix_has.f, impl_isAddr_eq, Option.bind_some, if_pos (cnt_ok h3 h4), shr_span h3 h4, has_div h, ite_some]

theorem impl_IsWithin_eq {k : Nat} (hk : 1 ≤ k) (a l b m : Int) : impl_IsWithin.f k a l b m = some (within a l b m) := by
  simp only [impl_IsWithin.f, impl_PrefixFault_eq hk, Option.bind_some]
  unfold within
  by_cases h : prefixFault a l = 0
  · rw [if_pos h, if_pos h]
    by_cases h2 : prefixFault b m = 0
    · have h3 := prefixFault_ok h
      rw [if_pos h2, if_pos h2, impl_Prefix_has_eq h2, if_pos (inB_iff.2 ⟨h3.1, h3.2.1⟩)]
      simp only [Option.bind_some, ite_some]
    · rw [if_neg h2, if_neg h2]
  · rw [if_neg h, if_neg h]

theorem slices_Index_int64_int64_eq {k : Nat} {l : List Int} {x : Int} (hl : l.length ≤ 1048576) (hk : l.length < k) : ∃ r, slices_Index_int64_int64.f k l x = some r ∧ (decide (r ≥ 0) = memB l x) := by
  refine ⟨_, run_loop (L := fun k (_ : Unit) i => slices_Index_int64_int64.l0 k l x (l.length : Int) i) (xs := l) (step := fun i _ y => if x = y then .inr (i : Int) else .inl ()) (fin := fun _ => -1) (B := 0) (s := ()) (fun _ _ => True)
    (fun k i _ h _ _ => by
      simp only [slices_Index_int64_int64.l0]
      rw [if_pos (by omega), if_pos (by omega), if_pos (by omega), rd_nat h, wrap_succ (by omega)]
      by_cases hx : x = l[i] <;> simp [hx])
    (fun _ _ _ _ _ _ => trivial)
    (fun k _ _ => by simp only [slices_Index_int64_int64.l0]; rw [if_neg (by omega)]) trivial (by omega), run_index l x 0⟩

theorem slices_Contains_int64_int64_eq {k : Nat} {l : List Int} {x : Int} (hl : l.length ≤ 1048576) (hk : l.length < k) : slices_Contains_int64_int64.f k l x = some (memB l x) := by
  obtain ⟨r, hr, hm⟩ := slices_Index_int64_int64_eq (x := x) hl hk
  simp only [slices_Contains_int64_int64.f, hr, Option.bind_some, hm]

theorem impl_Rule_matches_eq {k : Nat} {a b c d e : Int} {f : Bool} {g h pa pl o : Int} {p : List Int} {n m l : Int} (hl : p.length ≤ 1048576) (hk : p.length + 1 < k) : impl_Rule_matches.f k a b c d e f g h pa pl o p n m l = some (matchB a b c d e pa pl p) := by
  simp only [impl_Rule_matches.f, impl_IsWithin_eq (show 1 ≤ k by omega), impl_in_eq, slices_Contains_int64_int64_eq hl (show p.length < k by omega), Option.bind_some, ite_some]; rfl


theorem impl_RuleMatches_eq {k : Nat} {a b c d e : Int} {f : Bool} {g h pa pl o : Int} {p : List Int} {n m l : Int} (hl : p.length ≤ 1048576) (hk : p.length + 20 < k) : impl_RuleMatches.f k a b c d e f g h pa pl o p n m l = some (ruleMatchB a b c d e f g h pa pl o p n m l) := by
  simp only [impl_RuleMatches.f, impl_RuleFault_eq (show 1 ≤ k by omega), impl_PrefixFault_eq (show 1 ≤ k by omega), impl_AttrsFault_eq (show 10 ≤ k by omega), impl_Rule_matches_eq hl (show p.length + 1 < k by omega), Option.bind_some, ite_some]; rfl

theorem FnExactRuleMatches (a0_0 : Int) (a0_1 : Int) (a0_2 : Int) (a0_3 : Int) (a0_4 : Int) (a0_5 : Bool) (a0_6 : Int) (a0_7 : Int) (a1_0 : Int) (a1_1 : Int) (a2_0 : Int) (l2_1 : List Int) (a2_2 : Int) (a2_3 : Int) (a2_4 : Int)
    (w0_0 : (Lit.int .i64 a0_0).wf = true) (w0_1 : (Lit.int .i64 a0_1).wf = true) (w0_2 : (Lit.int .i64 a0_2).wf = true) (w0_3 : (Lit.int .i64 a0_3).wf = true) (w0_4 : (Lit.int .i64 a0_4).wf = true) (w0_6 : (Lit.int .i64 a0_6).wf = true) (w0_7 : (Lit.int .i64 a0_7).wf = true) (w1_0 : (Lit.int .i64 a1_0).wf = true) (w1_1 : (Lit.int .i64 a1_1).wf = true) (w2_0 : (Lit.int .i64 a2_0).wf = true) (w2_1 : (l2_1.length ≤ maxLen ∧ ∀ z1 ∈ l2_1, (Lit.int .i64 z1).wf = true)) (w2_2 : (Lit.int .i64 a2_2).wf = true) (w2_3 : (Lit.int .i64 a2_3).wf = true) (w2_4 : (Lit.int .i64 a2_4).wf = true) :
    ∃ k, laws_FnExactRuleMatches.f k a0_0 a0_1 a0_2 a0_3 a0_4 a0_5 a0_6 a0_7 a1_0 a1_1 a2_0 l2_1 a2_2 a2_3 a2_4 = some true := by
  refine ⟨2000000, ?_⟩
  unfold laws_FnExactRuleMatches.f
  rw [laws_szAttrs_eq w2_1.1 (by decide) (by decide)]
  simp only [Option.bind_some]
  by_cases hL : (1048576 : Int) < l2_1.length
  · rw [if_pos (szB_neg.2 hL)]
  · rw [if_neg (fun h => hL (szB_neg.1 h))]
    have h1 : l2_1.length ≤ 1048576 := by omega
    have h2 : l2_1.length < 2000000 := by omega
    have h3 : l2_1.length + 20 < 2000000 := by omega
    simp [laws_toRule_eq, laws_toPrefix_eq, laws_toAttrs_eq h1 h2, laws_eqAttrs_refl h1 h2, spec_RuleMatches_eq h1 h3, impl_RuleMatches_eq h1 h3]
end Go.Proofs.Ytfbojdagjecjcaa.Pure
