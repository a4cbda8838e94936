/- The pure part of the law FnExactSameAttrs: what the printed functions compute, in closed form, and that the law's answer is true. -/
import Derived.Test.YtmeaabgkndcikaaXFnExactSameAttrsx1
import Derived.Test.YtmeaabgkndcikaaXFnExactSameAttrsx2
import Derived.Test.YtmeaabgkndcikaaXFnExactSameAttrsx3
import Derived.Test.YtmeaabgkndcikaaXFnExactSameAttrsx4
import Derived.Test.YtmeaabgkndcikaaBase
namespace Go.Proofs.Ytmeaabgkndcikaa.Pure
open Go.RowKit Go.Proofs.Ytmeaabgkndcikaa.PFnExactSameAttrs Go.Proofs.YtmeaabgkndcikaaW.PrintWords Go.Proofs.YtmeaabgkndcikaaW.PrintLast Go.Proofs.YtmeaabgkndcikaaW.PrintMore Go.Proofs.Ytmeaabgkndcikaa.B
set_option linter.unusedVariables false
set_option linter.unusedSimpArgs false

theorem laws_szInt64S_eq {l : List Int} {a : Int} (hl : l.length ≤ maxLen) (h0 : -1 ≤ a) (h1 : a ≤ 1048576) : laws_szInt64S.f l a = some (szB a l.length) := szB_eq h0 h1 hl

theorem laws_szAttrs_eq {a c d e : Int} {l : List Int} {b : Int} (hl : l.length ≤ maxLen) (h0 : -1 ≤ b) (h1 : b ≤ 1048576) : laws_szAttrs.f a l c d e b = some (szB b l.length) := by
  simp only [laws_szAttrs.f, laws_szInt64S_eq hl h0 h1, Option.bind_some, szB_again]

theorem laws_toInt64S_eq {k : Nat} {l : List Int} (hl : l.length ≤ 1048576) (hk : l.length < k) : laws_toInt64S.f k l = some l := by
  unfold laws_toInt64S.f
  rw [if_pos (by omega), if_pos (by omega)]
  have h := set_loop (L := fun k acc i => laws_toInt64S.l0 k l acc i) (xs := l) (f := fun x => x) (B := 0) (k := k) (acc := List.replicate ((l.length : Int)).toNat 0)
    (fun k i acc h _ ha => by
      simp only [laws_toInt64S.l0]
      rw [if_pos (by omega), if_pos (by omega), if_pos (by omega), rd_nat h, wrap_succ (by omega)]
      simp)
    (fun k acc _ => by simp only [laws_toInt64S.l0]; rw [if_neg (by omega)]) (by simp) (by omega)
  simpa using h

theorem laws_toAttrs_eq {k : Nat} {a c d e : Int} {l : List Int} (hl : l.length ≤ 1048576) (hk : l.length < k) : laws_toAttrs.f k a l c d e = some (a, l, c, d, e) := by
  simp only [laws_toAttrs.f, laws_toInt64S_eq hl hk, Option.bind_some]

theorem laws_eqInt64S_refl {k : Nat} {l : List Int} (hl : l.length ≤ 1048576) (hk : l.length < k) : laws_eqInt64S.f k l l = some true := by
  unfold laws_eqInt64S.f
  rw [if_pos rfl]
  exact all_loop (L := fun k i => laws_eqInt64S.l0 k l l i) (n := l.length) (B := 0)
    (fun k i h _ => by
      simp only [laws_eqInt64S.l0]
      rw [if_pos (by omega), if_pos (by omega), if_pos (by omega)]
      simp only [if_true]
      rw [wrap_succ (by omega)])
    (fun k => by simp only [laws_eqInt64S.l0]; rw [if_neg (by omega)]) (by omega)

theorem laws_eqAttrs_refl {k : Nat} {a c d e : Int} {l : List Int} (hl : l.length ≤ 1048576) (hk : l.length < k) : laws_eqAttrs.f k a l c d e a l c d e = some true := by
  simp only [laws_eqAttrs.f, laws_eqInt64S_refl hl hk, Option.bind_some, if_true]

theorem spec_SameAttrs_eq {k : Nat} {o : Int} {p : List Int} {n m l o' : Int} {p' : List Int} {n' m' l' : Int} (hl : p.length ≤ 1048576) (hk : p.length + 1 < k) : spec_SameAttrs.f k o p n m l o' p' n' m' l' = some (sameA o p n m l o' p' n' m' l') := by
  obtain ⟨k, rfl⟩ : ∃ m, k = m + 1 := ⟨k - 1, by omega⟩
  simp only [spec_SameAttrs.f, spec_SameAttrs.j0]
  unfold sameA
  by_cases h1 : o = o'
  · by_cases h3 : n = n'
    · by_cases h4 : m = m'
      · by_cases h5 : l = l'
        · by_cases h : p.length = p'.length
          · have hb : ((p.length : Int) != (p'.length : Int)) = false := by simp [h]
            rw [if_pos h1, if_pos h3, if_pos h4, if_pos h5, hb]
            simp only [Bool.false_eq_true, if_false]
            have e := zip_loop (L := fun k i => spec_SameAttrs.l0 k i o p n m l o' p' n' m' l') (p := fun x y => decide (x = y)) (B := 0) (k := k) h
              (fun k i h1 h2 _ => by
                simp only [spec_SameAttrs.l0]
                rw [if_pos (by omega), if_pos (by omega), if_pos (by omega), rd_nat h1, rd_nat h2, wrap_succ (by omega)]
                by_cases hx : p[i] = p'[i] <;> simp [hx])
              (fun k => by simp only [spec_SameAttrs.l0]; rw [if_neg (by omega)]) (by omega)
            rw [e]
            unfold sameL
            simp [h1, h3, h4, h5]
          · have hb : ((p.length : Int) != (p'.length : Int)) = true := by simp; omega
            rw [if_pos h1, if_pos h3, if_pos h4, if_pos h5, hb]
            unfold sameL zipAll
            simp [h]
        · simp [h1, h3, h4, h5]
      · simp [h1, h3, h4]
    · simp [h1, h3]
  · simp [h1]

theorem slices_Equal_int64_int64_eq {k : Nat} {a b : List Int} (hl : a.length ≤ 1048576) (hk : a.length < k) : slices_Equal_int64_int64.f k a b = some (sameL a b) := by
  unfold slices_Equal_int64_int64.f
  by_cases h : a.length = b.length
  · rw [if_pos (by omega)]
    exact zip_loop (L := fun k i => slices_Equal_int64_int64.l0 k a b (a.length : Int) i) (p := fun x y => decide (x = y)) (B := 0) h
      (fun k i h1 h2 _ => by
        simp only [slices_Equal_int64_int64.l0]
        rw [if_pos (by omega), if_pos (by omega), if_pos (by omega), if_pos (by omega), rd_nat h1, rd_nat h2, wrap_succ (by omega)]
        by_cases hx : a[i] = b[i] <;> simp [hx])
      (fun k => by simp only [slices_Equal_int64_int64.l0]; rw [if_neg (by omega)]) (by omega)
  · rw [if_neg (by omega)]
    unfold sameL zipAll
    rw [if_neg h]

theorem impl_sameAttrs_eq {k : Nat} {o : Int} {p : List Int} {n m l o' : Int} {p' : List Int} {n' m' l' : Int} (hl : p.length ≤ 1048576) (hk : p.length < k) : impl_sameAttrs.f k o p n m l o' p' n' m' l' = some (sameA o p n m l o' p' n' m' l') := by
  simp only [impl_sameAttrs.f, slices_Equal_int64_int64_eq hl hk, Option.bind_some]
  unfold sameA
  by_cases h1 : o = o' <;> cases h2 : sameL p p' <;> by_cases h3 : n = n' <;> by_cases h4 : m = m' <;> by_cases h5 : l = l' <;> simp [h1, h3, h4, h5]

theorem impl_SameAttrs_eq {k : Nat} {o : Int} {p : List Int} {n m l o' : Int} {p' : List Int} {n' m' l' : Int} (hl : p.length ≤ 1048576) (hk : p.length < k) : impl_SameAttrs.f k o p n m l o' p' n' m' l' = some (sameA o p n m l o' p' n' m' l') := by
  simp only [impl_SameAttrs.f, impl_sameAttrs_eq hl hk, Option.bind_some]

theorem FnExactSameAttrs (a0_0 : Int) (l0_1 : List Int) (a0_2 : Int) (a0_3 : Int) (a0_4 : Int) (a1_0 : Int) (l1_1 : List Int) (a1_2 : Int) (a1_3 : Int) (a1_4 : Int)
    (w0_0 : (Lit.int .i64 a0_0).wf = true) (w0_1 : (l0_1.length ≤ maxLen ∧ ∀ z1 ∈ l0_1, (Lit.int .i64 z1).wf = true)) (w0_2 : (Lit.int .i64 a0_2).wf = true) (w0_3 : (Lit.int .i64 a0_3).wf = true) (w0_4 : (Lit.int .i64 a0_4).wf = true) (w1_0 : (Lit.int .i64 a1_0).wf = true) (w1_1 : (l1_1.length ≤ maxLen ∧ ∀ z2 ∈ l1_1, (Lit.int .i64 z2).wf = true)) (w1_2 : (Lit.int .i64 a1_2).wf = true) (w1_3 : (Lit.int .i64 a1_3).wf = true) (w1_4 : (Lit.int .i64 a1_4).wf = true) :
    ∃ k, laws_FnExactSameAttrs.f k a0_0 l0_1 a0_2 a0_3 a0_4 a1_0 l1_1 a1_2 a1_3 a1_4 = some true := by
  refine ⟨2000000, ?_⟩
  unfold laws_FnExactSameAttrs.f
  rw [laws_szAttrs_eq w0_1.1 (by decide) (by decide)]
  simp only [Option.bind_some]
  have hb := szB_bound (left := 1048576) (n := l0_1.length) (by decide)
  by_cases hL : (1048576 : Int) < l0_1.length
  · rw [if_pos (szB_neg.2 hL)]
  · rw [if_neg (fun h => hL (szB_neg.1 h)), laws_szAttrs_eq w1_1.1 hb.1 hb.2]
    simp only [Option.bind_some]
    by_cases hL2 : szB (szB 1048576 l0_1.length) l1_1.length < 0
    · rw [if_pos hL2]
    · rw [if_neg hL2]
      have h1 : l0_1.length ≤ 1048576 := by omega
      have h2 : l0_1.length < 2000000 := by omega
      have h2' : l0_1.length + 1 < 2000000 := by omega
      have h3 : l1_1.length ≤ 1048576 := by have := mt szB_neg.2 hL2; omega
      have h4 : l1_1.length < 2000000 := by omega
      simp [laws_toAttrs_eq h1 h2, laws_toAttrs_eq h3 h4, laws_eqAttrs_refl h1 h2, laws_eqAttrs_refl h3 h4, spec_SameAttrs_eq h1 h2', impl_SameAttrs_eq h1 h2]
end Go.Proofs.Ytmeaabgkndcikaa.Pure
