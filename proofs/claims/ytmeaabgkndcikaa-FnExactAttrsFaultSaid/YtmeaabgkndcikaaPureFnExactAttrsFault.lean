/- The pure part of the law FnExactAttrsFault: what the printed functions compute, in closed form, and that the law's answer is true. -/
import Derived.Test.YtmeaabgkndcikaaXFnExactAttrsFaultx1
import Derived.Test.YtmeaabgkndcikaaXFnExactAttrsFaultx2
import Derived.Test.YtmeaabgkndcikaaXFnExactAttrsFaultx3
import Derived.Test.YtmeaabgkndcikaaXFnExactAttrsFaultx4
import Derived.Test.YtmeaabgkndcikaaBase
namespace Go.Proofs.Ytmeaabgkndcikaa.Pure
open Go.RowKit Go.Proofs.Ytmeaabgkndcikaa.PFnExactAttrsFault Go.Proofs.YtmeaabgkndcikaaW.PrintWords Go.Proofs.YtmeaabgkndcikaaW.PrintLast Go.Proofs.YtmeaabgkndcikaaW.PrintMore Go.Proofs.Ytmeaabgkndcikaa.B
set_option linter.unusedVariables false
set_option linter.unusedSimpArgs false

theorem laws_szInt64S_eq {l : List Int} {a : Int} (hl : l.length ≤ maxLen) (h0 : -1 ≤ a) (h1 : a ≤ 1048576) : laws_szInt64S.f l a = some (szB a l.length) := szB_eq h0 h1 hl

theorem laws_szAttrs_eq {a c d e : Int} {l : List Int} {b : Int} (hl : l.length ≤ maxLen) (h0 : -1 ≤ b) (h1 : b ≤ 1048576) : laws_szAttrs.f a l c d e b = some (szB b l.length) := by
  simp only [laws_szAttrs.f, laws_szInt64S_eq hl h0 h1, Option.bind_some, szB_again]

theorem laws_toInt64S_eq {k : Nat} {l : List Int} (hl : l.length ≤ 1048576) (hk : l.length < k) : laws_toInt64S.f k l = some l := by
  unfold laws_toInt64S.f
  rw [if_pos (by omega), if_pos (by omega)]
  have h := set_loop (L := fun k acc i => laws_toInt64S.l0 k l acc i) (xs := l) (f := fun x => x) (B := 0) (k := k) (acc := List.replicate ((l.length : Int)).toNat 0)
    (fun k i acc h _ ha => by
      simp only [laws_toInt64S.l0]
      rw [if_pos (by omega), if_pos (by omega), if_pos (by omega), rd_nat h, wrap_succ (by omega)]
      simp)
    (fun k acc _ => by simp only [laws_toInt64S.l0]; rw [if_neg (by omega)]) (by simp) (by omega)
  simpa using h

theorem laws_toAttrs_eq {k : Nat} {a c d e : Int} {l : List Int} (hl : l.length ≤ 1048576) (hk : l.length < k) : laws_toAttrs.f k a l c d e = some (a, l, c, d, e) := by
  simp only [laws_toAttrs.f, laws_toInt64S_eq hl hk, Option.bind_some]

theorem laws_eqInt64S_refl {k : Nat} {l : List Int} (hl : l.length ≤ 1048576) (hk : l.length < k) : laws_eqInt64S.f k l l = some true := by
  unfold laws_eqInt64S.f
  rw [if_pos rfl]
  exact all_loop (L := fun k i => laws_eqInt64S.l0 k l l i) (n := l.length) (B := 0)
    (fun k i h _ => by
      simp only [laws_eqInt64S.l0]
      rw [if_pos (by omega), if_pos (by omega), if_pos (by omega)]
      simp only [if_true]
      rw [wrap_succ (by omega)])
    (fun k => by simp only [laws_eqInt64S.l0]; rw [if_neg (by omega)]) (by omega)

theorem laws_eqAttrs_refl {k : Nat} {a c d e : Int} {l : List Int} (hl : l.length ≤ 1048576) (hk : l.length < k) : laws_eqAttrs.f k a l c d e a l c d e = some true := by
  simp only [laws_eqAttrs.f, laws_eqInt64S_refl hl hk, Option.bind_some, if_true]

theorem spec_l1In_eq (n lo hi : Int) : spec_l1In.f n lo hi = some (inB n lo hi) := inB_eq n lo hi

theorem spec_l3Word_eq (n : Int) : spec_l3Word.f n = some (inB n 0 65535) := by
  simp only [spec_l3Word.f, spec_l1In_eq, Option.bind_some]

theorem spec_AttrsFault_eq {k : Nat} (hk : 10 ≤ k) (a : Int) (l : List Int) (b c d : Int) : spec_AttrsFault.f k a l b c d = some (attrsFault a l b c d) := by
  obtain ⟨k, rfl⟩ : ∃ m, k = m + 1 := ⟨k - 1, by omega⟩
  simp only [spec_AttrsFault.f, spec_l1In_eq, spec_l3Word_eq, Option.bind_some, spec_AttrsFault.j0]
  unfold attrsFault
  cases h1 : inB a 0 2 <;> cases h2 : inB b 0 65535 <;> cases h3 : inB c 0 65535 <;> cases h4 : inB d 0 65535 <;> simp only [Bool.not_true, Bool.not_false, Bool.and_true, Bool.and_false, Bool.false_eq_true, if_true, if_false, Bool.true_and, Bool.false_and]
  by_cases h6 : (6 : Int) < l.length
  · rw [if_pos h6, if_pos h6]
  · rw [if_neg h6, if_neg h6]
    refine Eq.trans ?_ (congrArg some (scan_anyNot l 3 0))
    exact scan_loop (L := fun k i => spec_AttrsFault.l0 k i a l b c d) (B := 0)
      (fun k i h _ => by
        simp only [spec_AttrsFault.l0]
        rw [if_pos (by omega), if_pos (by omega), rd_nat h, wrap_succ (by omega)]
        simp only [spec_l1In_eq, Option.bind_some]
        by_cases hx : inB l[i] 1 65535 = true <;> simp [hx])
      (fun k => by simp only [spec_AttrsFault.l0]; rw [if_neg (by omega)]) (by omega)

theorem impl_in_eq (n lo hi : Int) : impl_in.f n lo hi = some (inB n lo hi) := inB_eq n lo hi

theorem impl_isAddr_eq (n : Int) : impl_isAddr.f n = some (inB n 0 65535) := by
  simp only [impl_isAddr.f, impl_in_eq, Option.bind_some]

theorem impl_isTwo_eq (n : Int) : impl_isTwo.f n = some (inB n 0 65535) := by
  simp only [impl_isTwo.f, impl_in_eq, Option.bind_some]

theorem impl_isSystem_eq (n : Int) : impl_isSystem.f n = some (inB n 1 65535) := by
  simp only [impl_isSystem.f, impl_in_eq, Option.bind_some]

theorem impl_AttrsFault_1_eq (n : Int) : impl_AttrsFault_1.f n = some (!inB n 1 65535) := by simp only [impl_AttrsFault_1.f, impl_isSystem_eq, Option.bind_some]

theorem slices_IndexFunc_int64_int64_eq {k : Nat} {l : List Int} (hl : l.length ≤ 1048576) (hk : l.length < k) : ∃ r, slices_IndexFunc_int64_int64.f k l = some r ∧ (decide (r ≥ 0) = l.any (fun x => !inB x 1 65535)) := by
  refine ⟨_, run_loop (L := fun k (_ : Unit) i => slices_IndexFunc_int64_int64.l0 k l (l.length : Int) i) (xs := l) (step := fun i _ y => if (!inB y 1 65535) = true then .inr (i : Int) else .inl ()) (fin := fun _ => -1) (B := 0) (s := ()) (fun _ _ => True)
    (fun k i _ h _ _ => by
      simp only [slices_IndexFunc_int64_int64.l0]
      rw [if_pos (by omega), if_pos (by omega), if_pos (by omega), rd_nat h, wrap_succ (by omega), impl_AttrsFault_1_eq]
      by_cases hx : (!inB l[i] 1 65535) = true <;> simp [hx])
    (fun _ _ _ _ _ _ => trivial)
    (fun k _ _ => by simp only [slices_IndexFunc_int64_int64.l0]; rw [if_neg (by omega)]) trivial (by omega), run_indexP _ l 0⟩

theorem slices_ContainsFunc_int64_int64_eq {k : Nat} {l : List Int} (hl : l.length ≤ 1048576) (hk : l.length < k) : slices_ContainsFunc_int64_int64.f k l = some (l.any (fun x => !inB x 1 65535)) := by
  obtain ⟨r, hr, hm⟩ := slices_IndexFunc_int64_int64_eq hl hk
  simp only [slices_ContainsFunc_int64_int64.f, hr, Option.bind_some, hm]

theorem impl_AttrsFault_eq {k : Nat} (hk : 10 ≤ k) (a : Int) (l : List Int) (b c d : Int) : impl_AttrsFault.f k a l b c d = some (attrsFault a l b c d) := by
  obtain ⟨k, rfl⟩ : ∃ m, k = m + 1 := ⟨k - 1, by omega⟩
  simp only [impl_AttrsFault.f, impl_in_eq, impl_isAddr_eq, impl_isTwo_eq, Option.bind_some, impl_AttrsFault.j0]
  unfold attrsFault
  cases h1 : inB a 0 2 <;> cases h2 : inB b 0 65535 <;> cases h3 : inB c 0 65535 <;> cases h4 : inB d 0 65535 <;> simp only [Bool.not_true, Bool.not_false, Bool.and_true, Bool.and_false, Bool.false_eq_true, if_true, if_false, Bool.true_and, Bool.false_and]
  by_cases h6 : (6 : Int) < l.length
  · rw [if_pos h6, if_pos h6]
  · rw [if_neg h6, if_neg h6]
    rw [slices_ContainsFunc_int64_int64_eq (by omega) (by omega)]
    simp only [Option.bind_some, ite_some]

theorem FnExactAttrsFault (a0_0 : Int) (l0_1 : List Int) (a0_2 : Int) (a0_3 : Int) (a0_4 : Int)
    (w0_0 : (Lit.int .i64 a0_0).wf = true) (w0_1 : (l0_1.length ≤ maxLen ∧ ∀ z1 ∈ l0_1, (Lit.int .i64 z1).wf = true)) (w0_2 : (Lit.int .i64 a0_2).wf = true) (w0_3 : (Lit.int .i64 a0_3).wf = true) (w0_4 : (Lit.int .i64 a0_4).wf = true) :
    ∃ k, laws_FnExactAttrsFault.f k a0_0 l0_1 a0_2 a0_3 a0_4 = some true := by
  refine ⟨2000000, ?_⟩
  unfold laws_FnExactAttrsFault.f
  rw [laws_szAttrs_eq w0_1.1 (by decide) (by decide)]
  simp only [Option.bind_some]
  by_cases hL : (1048576 : Int) < l0_1.length
  · rw [if_pos (szB_neg.2 hL)]
  · rw [if_neg (fun h => hL (szB_neg.1 h))]
    have h1 : l0_1.length ≤ 1048576 := by omega
    have h2 : l0_1.length < 2000000 := by omega
    simp [laws_toAttrs_eq h1 h2, laws_eqAttrs_refl h1 h2, spec_AttrsFault_eq (show 10 ≤ 2000000 by decide), impl_AttrsFault_eq (show 10 ≤ 2000000 by decide)]
end Go.Proofs.Ytmeaabgkndcikaa.Pure
