/- The pure part of the law FnExactBetterRoute: what the printed functions compute, in closed form, and that the law's answer is true. -/
import Derived.Test.YtfbojdagjecjcaaXFnExactBetterRoutex1
import Derived.Test.YtfbojdagjecjcaaXFnExactBetterRoutex2
import Derived.Test.YtfbojdagjecjcaaXFnExactBetterRoutex3
import Derived.Test.YtfbojdagjecjcaaXFnExactBetterRoutex4
import Derived.Test.YtfbojdagjecjcaaXFnExactBetterRoutex5
import Derived.Test.YtfbojdagjecjcaaBase
namespace Go.Proofs.Ytfbojdagjecjcaa.Pure
open Go.RowKit Go.Proofs.Ytfbojdagjecjcaa.PFnExactBetterRoute Go.Proofs.YtfbojdagjecjcaaW.PrintWords Go.Proofs.YtfbojdagjecjcaaW.PrintLast Go.Proofs.YtfbojdagjecjcaaW.PrintMore Go.Proofs.Ytfbojdagjecjcaa.B
set_option linter.unusedVariables false
set_option linter.unusedSimpArgs false

theorem laws_szInt64S_eq {l : List Int} {a : Int} (hl : l.length ≤ maxLen) (h0 : -1 ≤ a) (h1 : a ≤ 1048576) : laws_szInt64S.f l a = some (szB a l.length) := szB_eq h0 h1 hl

theorem laws_szAttrs_eq {a c d e : Int} {l : List Int} {b : Int} (hl : l.length ≤ maxLen) (h0 : -1 ≤ b) (h1 : b ≤ 1048576) : laws_szAttrs.f a l c d e b = some (szB b l.length) := by
  simp only [laws_szAttrs.f, laws_szInt64S_eq hl h0 h1, Option.bind_some, szB_again]

theorem laws_szRoute_eq {q a b o n m l : Int} {p : List Int} {c : Int} (hl : p.length ≤ maxLen) (h0 : -1 ≤ c) (h1 : c ≤ 1048576) : laws_szRoute.f q a b o p n m l c = some (szB c p.length) := by
  simp only [laws_szRoute.f, laws_szAttrs_eq hl h0 h1, Option.bind_some, szB_again]

theorem spec_BetterRoute_eq (a0 a1 a2 a3 : Int) (p : List Int) (a5 a6 a7 b0 b1 b2 b3 : Int) (q : List Int) (b5 b6 b7 : Int) :
    spec_BetterRoute.f a0 a1 a2 a3 p a5 a6 a7 b0 b1 b2 b3 q b5 b6 b7 = some (betterB a0 a3 p.length a6 a7 b0 b3 q.length b6 b7) := by
  simp only [spec_BetterRoute.f, ite_some]
  unfold betterB
  simp only [Int.natCast_inj, Int.ofNat_lt]

theorem laws_toInt64S_eq {k : Nat} {l : List Int} (hl : l.length ≤ 1048576) (hk : l.length < k) : laws_toInt64S.f k l = some l := by
  unfold laws_toInt64S.f
  rw [if_pos (by omega), if_pos (by omega)]
  have h := set_loop (L := fun k acc i => laws_toInt64S.l0 k l acc i) (xs := l) (f := fun x => x) (B := 0) (k := k) (acc := List.replicate ((l.length : Int)).toNat 0)
    (fun k i acc h _ ha => by
      simp only [laws_toInt64S.l0]
      rw [if_pos (by omega), if_pos (by omega), if_pos (by omega), rd_nat h, wrap_succ (by omega)]
      simp)
    (fun k acc _ => by simp only [laws_toInt64S.l0]; rw [if_neg (by omega)]) (by simp) (by omega)
  simpa using h

theorem laws_toAttrs_eq {k : Nat} {a c d e : Int} {l : List Int} (hl : l.length ≤ 1048576) (hk : l.length < k) : laws_toAttrs.f k a l c d e = some (a, l, c, d, e) := by
  simp only [laws_toAttrs.f, laws_toInt64S_eq hl hk, Option.bind_some]

theorem laws_toPrefix_eq (a b : Int) : laws_toPrefix.f a b = some (a, b) := rfl

theorem laws_toRoute_eq {k : Nat} {q a b o n m l : Int} {p : List Int} (hl : p.length ≤ 1048576) (hk : p.length < k) : laws_toRoute.f k q a b o p n m l = some (q, a, b, o, p, n, m, l) := by
  simp only [laws_toRoute.f, laws_toPrefix_eq, laws_toAttrs_eq hl hk, Option.bind_some]

theorem cmp_Or_int_eq {k : Nat} {l : List Int} (hl : l.length ≤ 1048576) (hk : l.length < k) : cmp_Or_int.f k l = some (orI l) := by
  unfold cmp_Or_int.f
  refine Eq.trans ?_ (congrArg some (scan_or l))
  exact scan_loop (L := fun k i => cmp_Or_int.l0 k 0 l (l.length : Int) i) (B := 0)
    (fun k i h _ => by
      simp only [cmp_Or_int.l0]
      rw [if_pos (by omega), if_pos (by omega), if_pos (by omega), rd_nat h, wrap_succ (by omega)]
      by_cases hx : l[i] = 0 <;> simp [hx])
    (fun k => by simp only [cmp_Or_int.l0]; rw [if_neg (by omega)]) (by omega)

theorem cmp_isNaN_int64_eq (a : Int) : cmp_isNaN_int64.f a = some false := by simp [cmp_isNaN_int64.f]

theorem cmp_Compare_int64_eq (a b : Int) : cmp_Compare_int64.f a b = some (cmpI a b) := by
  simp only [cmp_Compare_int64.f, cmp_isNaN_int64_eq, Option.bind_some, Bool.false_eq_true, if_false, ite_some]; rfl

theorem cmp_isNaN_int_eq (a : Int) : cmp_isNaN_int.f a = some false := by simp [cmp_isNaN_int.f]

theorem cmp_Compare_int_eq (a b : Int) : cmp_Compare_int.f a b = some (cmpI a b) := by
  simp only [cmp_Compare_int.f, cmp_isNaN_int_eq, Option.bind_some, Bool.false_eq_true, if_false, ite_some]; rfl

theorem impl_better_eq {k : Nat} (hk : 10 ≤ k) (a0 a1 a2 a3 : Int) (p : List Int) (a5 a6 a7 b0 b1 b2 b3 : Int) (q : List Int) (b5 b6 b7 : Int) :
    impl_better.f k a0 a1 a2 a3 p a5 a6 a7 b0 b1 b2 b3 q b5 b6 b7 = some (betterB a0 a3 p.length a6 a7 b0 b3 q.length b6 b7) := by
  simp only [impl_better.f, cmp_Compare_int_eq, cmp_Compare_int64_eq, Option.bind_some]
  rw [cmp_Or_int_eq (by simp) (by simp; omega), Option.bind_some]
  congr 1
  unfold betterB cmpI orI
  simp only [orI]
  by_cases h1 : a7 = b7
  · by_cases h2 : p.length = q.length
    · by_cases h3 : a3 = b3
      · by_cases h4 : a6 = b6
        · by_cases h5 : a0 < b0 <;> by_cases h6 : b0 < a0 <;> simp [h1, h2, h3, h4, h5, h6] <;> omega
        · by_cases h5 : a6 < b6 <;> by_cases h6 : b6 < a6 <;> simp [h1, h2, h3, h4, h5, h6] <;> omega
      · by_cases h5 : a3 < b3 <;> by_cases h6 : b3 < a3 <;> simp [h1, h2, h3, h5, h6] <;> omega
    · by_cases h5 : p.length < q.length <;> by_cases h6 : q.length < p.length <;> simp [h1, h2, h5, h6] <;> omega
  · by_cases h5 : a7 < b7 <;> by_cases h6 : b7 < a7 <;> simp [h1, h5, h6] <;> omega

theorem impl_BetterRoute_eq {k : Nat} (hk : 10 ≤ k) (a0 a1 a2 a3 : Int) (p : List Int) (a5 a6 a7 b0 b1 b2 b3 : Int) (q : List Int) (b5 b6 b7 : Int) :
    impl_BetterRoute.f k a0 a1 a2 a3 p a5 a6 a7 b0 b1 b2 b3 q b5 b6 b7 = some (betterB a0 a3 p.length a6 a7 b0 b3 q.length b6 b7) := by
  simp only [impl_BetterRoute.f, impl_better_eq hk, Option.bind_some]

theorem laws_eqInt64S_refl {k : Nat} {l : List Int} (hl : l.length ≤ 1048576) (hk : l.length < k) : laws_eqInt64S.f k l l = some true := by
  unfold laws_eqInt64S.f
  rw [if_pos rfl]
  exact all_loop (L := fun k i => laws_eqInt64S.l0 k l l i) (n := l.length) (B := 0)
    (fun k i h _ => by
      simp only [laws_eqInt64S.l0]
      rw [if_pos (by omega), if_pos (by omega), if_pos (by omega)]
      simp only [if_true]
      rw [wrap_succ (by omega)])
    (fun k => by simp only [laws_eqInt64S.l0]; rw [if_neg (by omega)]) (by omega)

theorem laws_eqAttrs_refl {k : Nat} {a c d e : Int} {l : List Int} (hl : l.length ≤ 1048576) (hk : l.length < k) : laws_eqAttrs.f k a l c d e a l c d e = some true := by
  simp only [laws_eqAttrs.f, laws_eqInt64S_refl hl hk, Option.bind_some, if_true]

theorem laws_eqPrefix_refl (a b : Int) : laws_eqPrefix.f a b a b = some true := by
  simp only [laws_eqPrefix.f, if_true]

theorem laws_eqRoute_refl {k : Nat} {q a b o n m l : Int} {p : List Int} (hl : p.length ≤ 1048576) (hk : p.length < k) : laws_eqRoute.f k q a b o p n m l q a b o p n m l = some true := by
  simp only [laws_eqRoute.f, laws_eqPrefix_refl, laws_eqAttrs_refl hl hk, Option.bind_some, if_true]

theorem FnExactBetterRoute (a0_0 : Int) (a0_1 : Int) (a0_2 : Int) (a0_3 : Int) (l0_4 : List Int) (a0_5 : Int) (a0_6 : Int) (a0_7 : Int) (a1_0 : Int) (a1_1 : Int) (a1_2 : Int) (a1_3 : Int) (l1_4 : List Int) (a1_5 : Int) (a1_6 : Int) (a1_7 : Int)
    (w0_0 : (Lit.int .i64 a0_0).wf = true) (w0_1 : (Lit.int .i64 a0_1).wf = true) (w0_2 : (Lit.int .i64 a0_2).wf = true) (w0_3 : (Lit.int .i64 a0_3).wf = true) (w0_4 : (l0_4.length ≤ maxLen ∧ ∀ z1 ∈ l0_4, (Lit.int .i64 z1).wf = true)) (w0_5 : (Lit.int .i64 a0_5).wf = true) (w0_6 : (Lit.int .i64 a0_6).wf = true) (w0_7 : (Lit.int .i64 a0_7).wf = true) (w1_0 : (Lit.int .i64 a1_0).wf = true) (w1_1 : (Lit.int .i64 a1_1).wf = true) (w1_2 : (Lit.int .i64 a1_2).wf = true) (w1_3 : (Lit.int .i64 a1_3).wf = true) (w1_4 : (l1_4.length ≤ maxLen ∧ ∀ z2 ∈ l1_4, (Lit.int .i64 z2).wf = true)) (w1_5 : (Lit.int .i64 a1_5).wf = true) (w1_6 : (Lit.int .i64 a1_6).wf = true) (w1_7 : (Lit.int .i64 a1_7).wf = true) :
    ∃ k, laws_FnExactBetterRoute.f k a0_0 a0_1 a0_2 a0_3 l0_4 a0_5 a0_6 a0_7 a1_0 a1_1 a1_2 a1_3 l1_4 a1_5 a1_6 a1_7 = some true := by
  refine ⟨2000000, ?_⟩
  unfold laws_FnExactBetterRoute.f
  rw [laws_szRoute_eq w0_4.1 (by decide) (by decide)]
  simp only [Option.bind_some]
  have hb := szB_bound (left := 1048576) (n := l0_4.length) (by decide)
  by_cases hL : (1048576 : Int) < l0_4.length
  · rw [if_pos (szB_neg.2 hL)]
  · rw [if_neg (fun h => hL (szB_neg.1 h)), laws_szRoute_eq w1_4.1 hb.1 hb.2]
    simp only [Option.bind_some]
    by_cases hL2 : szB (szB 1048576 l0_4.length) l1_4.length < 0
    · rw [if_pos hL2]
    · rw [if_neg hL2]
      have h1 : l0_4.length ≤ 1048576 := by omega
      have h2 : l0_4.length < 2000000 := by omega
      have h3 : l1_4.length ≤ 1048576 := by have := mt szB_neg.2 hL2; omega
      have h4 : l1_4.length < 2000000 := by omega
      simp [laws_toRoute_eq h1 h2, laws_toRoute_eq h3 h4, laws_eqRoute_refl h1 h2, laws_eqRoute_refl h3 h4, spec_BetterRoute_eq, impl_BetterRoute_eq (show 10 ≤ 2000000 by decide)]
end Go.Proofs.Ytfbojdagjecjcaa.Pure
