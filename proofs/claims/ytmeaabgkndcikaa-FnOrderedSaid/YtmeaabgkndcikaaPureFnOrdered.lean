/- The pure part of the law FnOrdered: what the printed functions compute, in closed form, and that the law's answer is true. -/
import Derived.Test.YtmeaabgkndcikaaXFnOrderedx1
import Derived.Test.YtmeaabgkndcikaaXFnOrderedx2
import Derived.Test.YtmeaabgkndcikaaXFnOrderedx3
import Derived.Test.YtmeaabgkndcikaaXFnOrderedx4
import Derived.Test.YtmeaabgkndcikaaXFnOrderedx5
import Derived.Test.YtmeaabgkndcikaaXFnOrderedx6
import Derived.Test.YtmeaabgkndcikaaBase
namespace Go.Proofs.Ytmeaabgkndcikaa.Pure
open Go.RowKit Go.Proofs.Ytmeaabgkndcikaa.PFnOrdered Go.Proofs.YtmeaabgkndcikaaW.PrintWords Go.Proofs.YtmeaabgkndcikaaW.PrintLast Go.Proofs.YtmeaabgkndcikaaW.PrintMore Go.Proofs.Ytmeaabgkndcikaa.B
set_option linter.unusedVariables false
set_option linter.unusedSimpArgs false

theorem laws_lwBig_eq (l : List Int) : laws_lwBig.f l = some (decide ((l.length : Int) > 1048576)) := rfl

theorem spec_l1Source_eq (l : List Int) : spec_l1Source.f l = some (l, 0) := rfl

theorem spec_l1Next_ex {c : List Int} (hc : ∀ x ∈ c, (Lit.int .u8 x).wf = true) (hl : c.length ≤ 1048580) {a n : Int} (ha : 0 ≤ a) (ha2 : a ≤ 10000000) (hn : n ≤ 10000000) :
    ∃ v, spec_l1Next.f c a n = some (v, a + 1) ∧ 0 ≤ v ∧ (1 ≤ n → v < n) ∧ (n < 1 → v = 0) := by
  have e1 : wrap64 (a + 1) = a + 1 := wrap_id (by omega) (by omega)
  have e2 : wrap64 (a + 1 - 1) = a := by rw [wrap_id (by omega) (by omega)]; omega
  have e3 : wrap64 (a * 7) = a * 7 := wrap_id (by omega) (by omega)
  unfold spec_l1Next.f
  simp only [e1, e2, e3]
  clear e1 e2 e3
  by_cases h : n < 1
  · rw [if_pos h]; exact ⟨0, rfl, by omega, fun h2 => by omega, fun _ => rfl⟩
  · rw [if_neg h]
    by_cases h0 : (c.length : Int) = 0
    · rw [if_pos h0, if_neg (by omega), Int.tmod_eq_emod_of_nonneg (by omega)]
      exact ⟨_, rfl, Int.emod_nonneg _ (by omega), fun _ => Int.emod_lt_of_pos _ (by omega), fun h2 => absurd h2 h⟩
    · rw [if_neg h0]
      have hpos : (0 : Int) < c.length := by omega
      have byteAt : ∀ i : Int, 0 ≤ i → i < c.length → 0 ≤ rd c i ∧ rd c i < 256 := fun i i0 i1 => by
        obtain ⟨j, rfl⟩ := Int.eq_ofNat_of_zero_le i0
        have hj : j < c.length := by omega
        rw [rd_nat hj]
        exact u8_wf (hc _ (List.getElem_mem hj))
      have m1 : 0 ≤ a % (c.length : Int) := Int.emod_nonneg _ (by omega)
      have m2 : a % (c.length : Int) < c.length := Int.emod_lt_of_pos _ hpos
      have m3 : 0 ≤ (a + 1) % (c.length : Int) := Int.emod_nonneg _ (by omega)
      have m4 : (a + 1) % (c.length : Int) < c.length := Int.emod_lt_of_pos _ hpos
      have b1 := byteAt _ m1 m2
      have b2 := byteAt _ m3 m4
      have q0 : 0 ≤ a / (c.length : Int) := Int.ediv_nonneg ha (by omega)
      have q1 : a / (c.length : Int) ≤ a := Int.ediv_le_self _ ha
      rw [Int.tmod_eq_emod_of_nonneg ha, Int.tmod_eq_emod_of_nonneg (show 0 ≤ a + 1 by omega), Int.tdiv_eq_ediv_of_nonneg ha, if_pos m1, if_pos m2]
      generalize rd c (a % (c.length : Int)) = x1 at *
      generalize rd c ((a + 1) % (c.length : Int)) = x2 at *
      generalize a / (c.length : Int) = q at *
      have e1 : wrap64 x1 = x1 := wrap_id (by omega) (by omega)
      have e2 : wrap64 x2 = x2 := wrap_id (by omega) (by omega)
      have e3 : wrap64 q = q := wrap_id (by omega) (by omega)
      have e4 : wrap64 (q * 37) = q * 37 := wrap_id (by omega) (by omega)
      have e5 : wrap64 (x1 + q * 37) = x1 + q * 37 := wrap_id (by omega) (by omega)
      have e6 : wrap64 ((x1 + q * 37) * 251) = (x1 + q * 37) * 251 := wrap_id (by omega) (by omega)
      have e7 : wrap64 (x2 * 13) = x2 * 13 := wrap_id (by omega) (by omega)
      have e8 : wrap64 ((x1 + q * 37) * 251 + x2 * 13) = (x1 + q * 37) * 251 + x2 * 13 := wrap_id (by omega) (by omega)
      have e9 : wrap64 a = a := wrap_id (by omega) (by omega)
      have e10 : wrap64 ((x1 + q * 37) * 251 + x2 * 13 + a) = (x1 + q * 37) * 251 + x2 * 13 + a := wrap_id (by omega) (by omega)
      simp only [e1, e2, e3, e4, e5, e6, e7, e8, e9, e10]
      clear e1 e2 e3 e4 e5 e6 e7 e8 e9 e10
      by_cases h2 : n > 200
      · rw [if_pos h2, if_pos m3, if_pos m4, if_neg (by omega), Int.tmod_eq_emod_of_nonneg (by omega)]
        exact ⟨_, rfl, Int.emod_nonneg _ (by omega), fun _ => Int.emod_lt_of_pos _ (by omega), fun h3 => absurd h3 h⟩
      · rw [if_neg h2, if_neg (by omega), Int.tmod_eq_emod_of_nonneg (by omega)]
        exact ⟨_, rfl, Int.emod_nonneg _ (by omega), fun _ => Int.emod_lt_of_pos _ (by omega), fun h3 => absurd h3 h⟩

theorem spec_l1Pick_ex {c : List Int} (hc : ∀ x ∈ c, (Lit.int .u8 x).wf = true) (hl : c.length ≤ 1048580) {a : Int} (ha : 0 ≤ a) (ha2 : a ≤ 10000000) {xs : List Int} (h0 : 0 < xs.length) (hx : xs.length ≤ 100) :
    ∃ v, spec_l1Pick.f c a xs = some (v, a + 1) ∧ v ∈ xs := by
  obtain ⟨i, hi, i0, i1, _⟩ := spec_l1Next_ex hc hl ha ha2 (n := (xs.length : Int)) (by omega)
  have i2 := i1 (by omega)
  simp only [spec_l1Pick.f, hi, Option.bind_some]
  rw [if_pos i0, if_pos i2]
  obtain ⟨j, rfl⟩ := Int.eq_ofNat_of_zero_le i0
  have hj : j < xs.length := by omega
  exact ⟨_, rfl, by rw [rd_nat hj]; exact List.getElem_mem hj⟩

theorem spec_l2Rest_eq {l : Int} (h0 : 0 ≤ l) (h1 : l ≤ 16) : spec_l2Rest.f l = some (span l - 1) := by
  unfold spec_l2Rest.f
  rw [if_pos (cnt_ok2 h0 h1), shl_span2 h0 h1]

theorem spec_l2Prefix_ex {c : List Int} (hc : ∀ x ∈ c, (Lit.int .u8 x).wf = true) (hl : c.length ≤ 1048580) {a : Int} (ha : 0 ≤ a) (ha2 : a ≤ 9000000) :
    ∃ x l, spec_l2Prefix.f c a = some (x, l, a + 4) ∧ prefixFault x l = 0 := by
  obtain ⟨v1, h1, p1, q1, _⟩ := spec_l1Next_ex hc hl ha (by omega) (n := 17) (by omega)
  obtain ⟨v2, h2, p2⟩ := spec_l1Pick_ex hc hl (a := a + 1) (by omega) (by omega) (xs := [8, 4, 12, 16, 0, v1]) (by simp) (by simp)
  obtain ⟨v3, h3, p3, q3, _⟩ := spec_l1Next_ex hc hl (a := a + 1 + 1) (by omega) (by omega) (n := 6) (by omega)
  obtain ⟨v4, h4, p4, q4, _⟩ := spec_l1Next_ex hc hl (a := a + 1 + 1 + 1) (by omega) (by omega) (n := 3) (by omega)
  have r1 := q1 (by decide)
  have r3 := q3 (by decide)
  have r4 := q4 (by decide)
  have hb : 0 ≤ v2 ∧ v2 ≤ 16 := by
    simp only [List.mem_cons, List.not_mem_nil, or_false] at p2
    omega
  simp only [spec_l2Prefix.f, h1, h2, h3, h4, Option.bind_some, spec_l2Rest_eq hb.1 hb.2]
  rw [wrap_id (x := v3 * 2560) (by omega) (by omega), wrap_id (x := v4 * 16) (by omega) (by omega), wrap_id (x := v3 * 2560 + v4 * 16) (by omega) (by omega), andNot_span hb.1 hb.2 (by omega) (by omega)]
  refine ⟨_, _, by rw [show a + 1 + 1 + 1 + 1 = a + 4 by omega], ?_⟩
  have hs := span_pos v2
  have hm := Int.mul_ediv_add_emod (v3 * 2560 + v4 * 16) (span v2)
  have hm0 := Int.emod_nonneg (v3 * 2560 + v4 * 16) (show span v2 ≠ 0 by omega)
  have hd0 : 0 ≤ span v2 * ((v3 * 2560 + v4 * 16) / span v2) := Int.mul_nonneg (by omega) (Int.ediv_nonneg (by omega) (by omega))
  have e : v3 * 2560 + v4 * 16 - (v3 * 2560 + v4 * 16) % span v2 = span v2 * ((v3 * 2560 + v4 * 16) / span v2) := by omega
  have hz : (span v2 * ((v3 * 2560 + v4 * 16) / span v2)) % span v2 = 0 := Int.mul_emod_right _ _
  unfold prefixFault
  rw [e, if_pos (inB_iff.2 ⟨by omega, by omega⟩), if_pos (inB_iff.2 hb), if_pos hz]

/-- What is drawn as attributes: no fault but, at most, in nothing. -/
def goodAttrs (o : Int) (p : List Int) (n m l : Int) : Prop := 0 ≤ o ∧ o ≤ 2 ∧ p.length ≤ 3 ∧ (∀ x ∈ p, 1 ≤ x ∧ x ≤ 65535) ∧ 0 ≤ n ∧ n ≤ 8 ∧ 0 ≤ m ∧ m ≤ 4 ∧ 90 ≤ l ∧ l ≤ 109
theorem spec_l3DrawAttrs_l0_ex {c : List Int} (hc : ∀ x ∈ c, (Lit.int .u8 x).wf = true) (hl : c.length ≤ 1048580) (o n m l : Int) :
    ∀ (d : Nat) (k : Nat) (a : Int) (p : List Int), d < k → 0 ≤ a → a + 3 * d ≤ 10000000 → p.length + d ≤ 100 → (∀ x ∈ p, 1 ≤ x ∧ x ≤ 65535) →
    ∃ p' a', spec_l3DrawAttrs.l0 k (d : Int) c a o p n m l = some (o, p', n, m, l, a') ∧ p'.length = p.length + d ∧ (∀ x ∈ p', 1 ≤ x ∧ x ≤ 65535) ∧ a ≤ a' ∧ a' ≤ a + 3 * d := by
  intro d
  induction d with
  | zero =>
    intro k a p hk ha ha2 hp hq
    obtain ⟨k, rfl⟩ : ∃ m, k = m + 1 := ⟨k - 1, by omega⟩
    exact ⟨p, a, by simp [spec_l3DrawAttrs.l0], by omega, hq, by omega, by omega⟩
  | succ d ih =>
    intro k a p hk ha ha2 hp hq
    obtain ⟨k, rfl⟩ : ∃ m, k = m + 1 := ⟨k - 1, by omega⟩
    obtain ⟨v1, h1, p1, q1, _⟩ := spec_l1Next_ex hc hl ha (by omega) (n := 5) (by omega)
    obtain ⟨v2, h2, p2, q2, _⟩ := spec_l1Next_ex hc hl (a := a + 1) (by omega) (by omega) (n := 5) (by omega)
    have r1 := q1 (by decide)
    have r2 := q2 (by decide)
    have w1 : wrap64 (1 + v1) = 1 + v1 := wrap_id (by omega) (by omega)
    have w2 : wrap64 (1 + v2) = 1 + v2 := wrap_id (by omega) (by omega)
    obtain ⟨v3, h3, p3⟩ := spec_l1Pick_ex hc hl (a := a + 1 + 1) (by omega) (by omega) (xs := [1 + v1, 1 + v2, 65535]) (by simp) (by simp)
    have hv : 1 ≤ v3 ∧ v3 ≤ 65535 := by
      simp only [List.mem_cons, List.not_mem_nil, or_false] at p3
      clear w1 w2
      omega
    have w3 : wrap64 (((d + 1 : Nat) : Int) - 1) = (d : Int) := by rw [wrap_id (by clear w1 w2; omega) (by clear w1 w2; omega)]; clear w1 w2; omega
    simp only [spec_l3DrawAttrs.l0, h1, h2, w1, w2, h3, w3, Option.bind_some]
    clear w1 w2 w3
    rw [if_pos (by omega), if_pos (by omega)]
    obtain ⟨p', a', e, l1, l2, l3, l4⟩ := ih k (a + 1 + 1 + 1) (p ++ [v3]) (by omega) (by omega) (by omega) (by simp; omega) (fun x hx => by
      rcases List.mem_append.1 hx with hx | hx
      · exact hq x hx
      · rw [List.mem_singleton.1 hx]; exact hv)
    exact ⟨p', a', e, by simp at l1; omega, l2, by omega, by omega⟩
theorem spec_l3DrawAttrs_ex {c : List Int} (hc : ∀ x ∈ c, (Lit.int .u8 x).wf = true) (hl : c.length ≤ 1048580) {k : Nat} (hk : 10 ≤ k) {a : Int} (ha : 0 ≤ a) (ha2 : a ≤ 9000000) :
    ∃ o p n m l a', spec_l3DrawAttrs.f k c a = some (o, p, n, m, l, a') ∧ goodAttrs o p n m l ∧ a ≤ a' ∧ a' ≤ a + 20 := by
  obtain ⟨v1, h1, p1, q1, _⟩ := spec_l1Next_ex hc hl ha (by omega) (n := 3) (by omega)
  obtain ⟨v2, h2, p2, q2, _⟩ := spec_l1Next_ex hc hl (a := a + 1) (by omega) (by omega) (n := 9) (by omega)
  obtain ⟨v3, h3, p3, q3, _⟩ := spec_l1Next_ex hc hl (a := a + 1 + 1) (by omega) (by omega) (n := 5) (by omega)
  obtain ⟨v4, h4, p4⟩ := spec_l1Pick_ex hc hl (a := a + 1 + 1 + 1) (by omega) (by omega) (xs := [0, v3]) (by simp) (by simp)
  obtain ⟨v5, h5, p5, q5, _⟩ := spec_l1Next_ex hc hl (a := a + 1 + 1 + 1 + 1) (by omega) (by omega) (n := 20) (by omega)
  have r1 := q1 (by decide)
  have r2 := q2 (by decide)
  have r3 := q3 (by decide)
  have r5 := q5 (by decide)
  obtain ⟨v6, h6, p6⟩ := spec_l1Pick_ex hc hl (a := a + 1 + 1 + 1 + 1 + 1) (by omega) (by omega) (xs := [100, 100, 90 + v5]) (by simp) (by simp)
  obtain ⟨v7, h7, p7, q7, _⟩ := spec_l1Next_ex hc hl (a := a + 1 + 1 + 1 + 1 + 1 + 1) (by omega) (by omega) (n := 4) (by omega)
  have r7 := q7 (by decide)
  have b4 : 0 ≤ v4 ∧ v4 ≤ 4 := by
    simp only [List.mem_cons, List.not_mem_nil, or_false] at p4
    omega
  have b6 : 90 ≤ v6 ∧ v6 ≤ 109 := by
    simp only [List.mem_cons, List.not_mem_nil, or_false] at p6
    omega
  obtain ⟨d, rfl⟩ := Int.eq_ofNat_of_zero_le p7
  obtain ⟨p', a', e, l1, l2, l3, l4⟩ := spec_l3DrawAttrs_l0_ex hc hl v1 v2 v4 v6 d k (a + 1 + 1 + 1 + 1 + 1 + 1 + 1) [] (by omega) (by omega) (by omega) (by simp; omega) (by simp)
  have w5 : wrap64 (90 + v5) = 90 + v5 := wrap_id (by omega) (by omega)
  simp only [spec_l3DrawAttrs.f, h1, h2, h3, h4, h5, w5, h6, h7, Option.bind_some]
  clear w5
  exact ⟨_, _, _, _, _, _, e, ⟨p1, by omega, by simp at l1; omega, l2, p2, by omega, b4.1, b4.2, b6.1, b6.2⟩, by omega, by omega⟩

theorem spec_l7DrawRoute_ex {c : List Int} (hc : ∀ x ∈ c, (Lit.int .u8 x).wf = true) (hl : c.length ≤ 1048580) {k : Nat} (hk : 10 ≤ k) {a : Int} (ha : 0 ≤ a) (ha2 : a ≤ 8000000) :
    ∃ pe x l o p n m lo a', spec_l7DrawRoute.f k c a = some (pe, x, l, o, p, n, m, lo, a') ∧ goodAttrs o p n m lo ∧ prefixFault x l = 0 ∧ 0 ≤ pe ∧ pe ≤ 2 ∧ a ≤ a' ∧ a' ≤ a + 40 := by
  obtain ⟨v1, h1, p1, q1, _⟩ := spec_l1Next_ex hc hl ha (by omega) (n := 3) (by omega)
  have r1 := q1 (by decide)
  obtain ⟨x, l, h2, p2⟩ := spec_l2Prefix_ex hc hl (a := a + 1) (by omega) (by omega)
  obtain ⟨o, p, n, m, lo, a', h3, g3, b1, b2⟩ := spec_l3DrawAttrs_ex hc hl hk (a := a + 1 + 4) (by omega) (by omega)
  simp only [spec_l7DrawRoute.f, h1, h2, h3, Option.bind_some]
  exact ⟨_, _, _, _, _, _, _, _, _, rfl, g3, p2, p1, by omega, by omega, by omega⟩

theorem spec_l1Chance_ex {c : List Int} (hc : ∀ x ∈ c, (Lit.int .u8 x).wf = true) (hl : c.length ≤ 1048580) {a n : Int} (ha : 0 ≤ a) (ha2 : a ≤ 10000000) (hn : n ≤ 10000000) :
    ∃ b, spec_l1Chance.f c a n = some (b, a + 1) := by
  obtain ⟨i, hi, _⟩ := spec_l1Next_ex hc hl ha ha2 hn
  exact ⟨i == 0, by simp only [spec_l1Chance.f, hi, Option.bind_some]⟩

theorem spec_l6Copy_eq {a b c d : Int} {l : List Int} (hl : l.length ≤ 1048576) : spec_l6Copy.f a l b c d = some (a, l, b, c, d) := by
  simp only [spec_l6Copy.f, Option.bind_some, List.nil_append, List.length_nil]
  rw [if_pos (by omega)]

theorem spec_DrawBetterRoute_ex {c : List Int} (hc : ∀ x ∈ c, (Lit.int .u8 x).wf = true) (hl : c.length ≤ 1048580) {k : Nat} (hk : 10 ≤ k) :
    ∃ q, spec_DrawBetterRoute.f k c = some q := by
  obtain ⟨e1, e2, e3, e4, e5, e6, e7, e8, a1, h1, g1, _, _, _, b1, b2⟩ := spec_l7DrawRoute_ex hc hl hk (a := 0) (by omega) (by omega)
  obtain ⟨f1, f2, f3, f4, f5, f6, f7, f8, a2, h2, g2, _, _, _, b3, b4⟩ := spec_l7DrawRoute_ex hc hl hk (a := a1) (by omega) (by omega)
  obtain ⟨b, h3⟩ := spec_l1Chance_ex hc hl (a := a2) (by omega) (by omega) (n := 2) (by omega)
  obtain ⟨v, h4, _⟩ := spec_l1Next_ex hc hl (a := a2 + 1) (by omega) (by omega) (n := 3) (by omega)
  have h5 := spec_l6Copy_eq (a := e4) (b := e6) (c := e7) (d := e8) (l := e5) (by have := g1.2.2.1; omega)
  simp only [spec_DrawBetterRoute.f, spec_l1Source_eq, h1, h2, h3, h4, h5, Option.bind_some]
  cases b
  · exact ⟨_, rfl⟩
  · exact ⟨_, rfl⟩

theorem cmp_Or_int_eq {k : Nat} {l : List Int} (hl : l.length ≤ 1048576) (hk : l.length < k) : cmp_Or_int.f k l = some (orI l) := by
  unfold cmp_Or_int.f
  refine Eq.trans ?_ (congrArg some (scan_or l))
  exact scan_loop (L := fun k i => cmp_Or_int.l0 k 0 l (l.length : Int) i) (B := 0)
    (fun k i h _ => by
      simp only [cmp_Or_int.l0]
      rw [if_pos (by omega), if_pos (by omega), if_pos (by omega), rd_nat h, wrap_succ (by omega)]
      by_cases hx : l[i] = 0 <;> simp [hx])
    (fun k => by simp only [cmp_Or_int.l0]; rw [if_neg (by omega)]) (by omega)

theorem cmp_isNaN_int64_eq (a : Int) : cmp_isNaN_int64.f a = some false := by simp [cmp_isNaN_int64.f]

theorem cmp_Compare_int64_eq (a b : Int) : cmp_Compare_int64.f a b = some (cmpI a b) := by
  simp only [cmp_Compare_int64.f, cmp_isNaN_int64_eq, Option.bind_some, Bool.false_eq_true, if_false, ite_some]; rfl

theorem cmp_isNaN_int_eq (a : Int) : cmp_isNaN_int.f a = some false := by simp [cmp_isNaN_int.f]

theorem cmp_Compare_int_eq (a b : Int) : cmp_Compare_int.f a b = some (cmpI a b) := by
  simp only [cmp_Compare_int.f, cmp_isNaN_int_eq, Option.bind_some, Bool.false_eq_true, if_false, ite_some]; rfl

theorem impl_better_eq {k : Nat} (hk : 10 ≤ k) (a0 a1 a2 a3 : Int) (p : List Int) (a5 a6 a7 b0 b1 b2 b3 : Int) (q : List Int) (b5 b6 b7 : Int) :
    impl_better.f k a0 a1 a2 a3 p a5 a6 a7 b0 b1 b2 b3 q b5 b6 b7 = some (betterB a0 a3 p.length a6 a7 b0 b3 q.length b6 b7) := by
  simp only [impl_better.f, cmp_Compare_int_eq, cmp_Compare_int64_eq, Option.bind_some]
  rw [cmp_Or_int_eq (by simp) (by simp; omega), Option.bind_some]
  congr 1
  unfold betterB cmpI orI
  simp only [orI]
  by_cases h1 : a7 = b7
  · by_cases h2 : p.length = q.length
    · by_cases h3 : a3 = b3
      · by_cases h4 : a6 = b6
        · by_cases h5 : a0 < b0 <;> by_cases h6 : b0 < a0 <;> simp [h1, h2, h3, h4, h5, h6] <;> omega
        · by_cases h5 : a6 < b6 <;> by_cases h6 : b6 < a6 <;> simp [h1, h2, h3, h4, h5, h6] <;> omega
      · by_cases h5 : a3 < b3 <;> by_cases h6 : b3 < a3 <;> simp [h1, h2, h3, h5, h6] <;> omega
    · by_cases h5 : p.length < q.length <;> by_cases h6 : q.length < p.length <;> simp [h1, h2, h5, h6] <;> omega
  · by_cases h5 : a7 < b7 <;> by_cases h6 : b7 < a7 <;> simp [h1, h5, h6] <;> omega

theorem impl_BetterRoute_eq {k : Nat} (hk : 10 ≤ k) (a0 a1 a2 a3 : Int) (p : List Int) (a5 a6 a7 b0 b1 b2 b3 : Int) (q : List Int) (b5 b6 b7 : Int) :
    impl_BetterRoute.f k a0 a1 a2 a3 p a5 a6 a7 b0 b1 b2 b3 q b5 b6 b7 = some (betterB a0 a3 p.length a6 a7 b0 b3 q.length b6 b7) := by
  simp only [impl_BetterRoute.f, impl_better_eq hk, Option.bind_some]

theorem spec_BetterRoute_eq (a0 a1 a2 a3 : Int) (p : List Int) (a5 a6 a7 b0 b1 b2 b3 : Int) (q : List Int) (b5 b6 b7 : Int) :
    spec_BetterRoute.f a0 a1 a2 a3 p a5 a6 a7 b0 b1 b2 b3 q b5 b6 b7 = some (betterB a0 a3 p.length a6 a7 b0 b3 q.length b6 b7) := by
  simp only [spec_BetterRoute.f, ite_some]
  unfold betterB
  simp only [Int.natCast_inj, Int.ofNat_lt]

theorem FnOrdered_j0 {k : Nat} (hk : 10 ≤ k) (x : Bool) (a0 a1 a2 a3 : Int) (p : List Int) (a5 a6 a7 b0 b1 b2 b3 : Int) (q : List Int) (b5 b6 b7 c0 c1 c2 c3 : Int) (r : List Int) (c5 c6 c7 : Int)
    (hx : x = betterB a0 a3 p.length a6 a7 b0 b3 q.length b6 b7) :
    laws_FnOrdered.j0 (k + 1) x false a0 a1 a2 a3 p a5 a6 a7 b0 b1 b2 b3 q b5 b6 b7 c0 c1 c2 c3 r c5 c6 c7 = some true := by
  simp only [laws_FnOrdered.j0, impl_BetterRoute_eq hk, Option.bind_some]
  simp only [Bool.false_eq_true, if_false]
  cases x with
  | false => simp
  | true =>
    simp only [if_true]
    by_cases h : betterB b0 b3 q.length b6 b7 c0 c3 r.length c6 c7 = true
    · rw [if_pos h, betterB_trans hx.symm h]
    · rw [if_neg h]
theorem FnOrdered (l0 : List Int)
    (w0 : (l0.length ≤ maxLen ∧ ∀ z1 ∈ l0, (Lit.int .u8 z1).wf = true)) :
    ∃ k, laws_FnOrdered.f k l0 = some true := by
  refine ⟨100 + 1, ?_⟩
  unfold laws_FnOrdered.f
  simp only [laws_lwBig_eq, Option.bind_some]
  by_cases hL : (l0.length : Int) > 1048576
  · rw [if_pos (decide_eq_true hL)]
  · rw [if_neg (by simpa using hL)]
    obtain ⟨⟨e1, e2, e3, e4, e5, e6, e7, e8, f1, f2, f3, f4, f5, f6, f7, f8⟩, hd⟩ := spec_DrawBetterRoute_ex (k := 100 + 1) w0.2 (by omega) (by decide)
    obtain ⟨⟨g1, g2, g3, g4, g5, g6, g7, g8, _, _, _, _, _, _, _, _⟩, hd2⟩ := spec_DrawBetterRoute_ex (c := [5] ++ l0) (k := 100 + 1) (fun x hx => by
      rcases List.mem_append.1 hx with hx | hx
      · rw [List.mem_singleton.1 hx]; decide
      · exact w0.2 x hx) (by simp; omega) (by decide)
    rw [hd]
    simp only [Option.bind_some]
    rw [if_pos (by simp; omega), hd2]
    simp only [Option.bind_some, impl_BetterRoute_eq (show 10 ≤ 100 + 1 by decide), spec_BetterRoute_eq]
    have hj := fun (x : Bool) (hx : x = betterB e1 e4 e5.length e7 e8 f1 f4 f5.length f7 f8) => FnOrdered_j0 (k := 100) (by decide) x e1 e2 e3 e4 e5 e6 e7 e8 f1 f2 f3 f4 f5 f6 f7 f8 g1 g2 g3 g4 g5 g6 g7 g8 hx
    cases hab : betterB e1 e4 e5.length e7 e8 f1 f4 f5.length f7 f8 with
    | true =>
      have hba := betterB_asymm hab
      rw [hba]
      simp only [if_true, Bool.false_eq_true, if_false]
      have e : (true != true) = false := rfl
      rw [e, hj true hab.symm]
      simp
    | false =>
      simp only [Bool.false_eq_true, if_false]
      have e : (false != false) = false := rfl
      by_cases hp : e1 = f1
      · rw [if_pos hp, e]; exact hj false hab.symm
      · rw [if_neg hp, betterB_total hp hab, if_pos rfl, e]; exact hj false hab.symm
end Go.Proofs.Ytmeaabgkndcikaa.Pure
