/- The pure part of the law FnExports: what the printed functions compute, in closed form, and that the law's answer is true. -/
import Derived.Test.YtmeaabgkndcikaaXFnExportsx1
import Derived.Test.YtmeaabgkndcikaaXFnExportsx2
import Derived.Test.YtmeaabgkndcikaaXFnExportsx3
import Derived.Test.YtmeaabgkndcikaaXFnExportsx4
import Derived.Test.YtmeaabgkndcikaaXFnExportsx5
import Derived.Test.YtmeaabgkndcikaaXFnExportsx6
import Derived.Test.YtmeaabgkndcikaaXFnExportsx7
import Derived.Test.YtmeaabgkndcikaaXFnExportsx8
import Derived.Test.YtmeaabgkndcikaaXFnExportsx9
import Derived.Test.YtmeaabgkndcikaaBase
namespace Go.Proofs.Ytmeaabgkndcikaa.Pure
open Go.RowKit Go.Proofs.Ytmeaabgkndcikaa.PFnExports Go.Proofs.YtmeaabgkndcikaaW.PrintWords Go.Proofs.YtmeaabgkndcikaaW.PrintLast Go.Proofs.YtmeaabgkndcikaaW.PrintMore Go.Proofs.Ytmeaabgkndcikaa.B
set_option linter.unusedVariables false
set_option linter.unusedSimpArgs false

theorem slices_Index_int64_int64_eq {k : Nat} {l : List Int} {x : Int} (hl : l.length ≤ 1048576) (hk : l.length < k) : ∃ r, slices_Index_int64_int64.f k l x = some r ∧ (decide (r ≥ 0) = memB l x) := by
  refine ⟨_, run_loop (L := fun k (_ : Unit) i => slices_Index_int64_int64.l0 k l x (l.length : Int) i) (xs := l) (step := fun i _ y => if x = y then .inr (i : Int) else .inl ()) (fin := fun _ => -1) (B := 0) (s := ()) (fun _ _ => True)
    (fun k i _ h _ _ => by
      simp only [slices_Index_int64_int64.l0]
      rw [if_pos (by omega), if_pos (by omega), if_pos (by omega), rd_nat h, wrap_succ (by omega)]
      by_cases hx : x = l[i] <;> simp [hx])
    (fun _ _ _ _ _ _ => trivial)
    (fun k _ _ => by simp only [slices_Index_int64_int64.l0]; rw [if_neg (by omega)]) trivial (by omega), run_index l x 0⟩

theorem slices_Contains_int64_int64_eq {k : Nat} {l : List Int} {x : Int} (hl : l.length ≤ 1048576) (hk : l.length < k) : slices_Contains_int64_int64.f k l x = some (memB l x) := by
  obtain ⟨r, hr, hm⟩ := slices_Index_int64_int64_eq (x := x) hl hk
  simp only [slices_Contains_int64_int64.f, hr, Option.bind_some, hm]

theorem impl_HasLoop_eq {k : Nat} {a c d e : Int} {l : List Int} {x : Int} (hl : l.length ≤ 1048576) (hk : l.length < k) : impl_HasLoop.f k a l c d e x = some (memB l x) := by
  simp only [impl_HasLoop.f, slices_Contains_int64_int64_eq hl hk, Option.bind_some]

theorem laws_lwBig_eq (l : List Int) : laws_lwBig.f l = some (decide ((l.length : Int) > 1048576)) := rfl

theorem impl_in_eq (n lo hi : Int) : impl_in.f n lo hi = some (inB n lo hi) := inB_eq n lo hi

theorem impl_isAddr_eq (n : Int) : impl_isAddr.f n = some (inB n 0 65535) := by
  simp only [impl_isAddr.f, impl_in_eq, Option.bind_some]

theorem impl_isTwo_eq (n : Int) : impl_isTwo.f n = some (inB n 0 65535) := by
  simp only [impl_isTwo.f, impl_in_eq, Option.bind_some]

theorem impl_isSystem_eq (n : Int) : impl_isSystem.f n = some (inB n 1 65535) := by
  simp only [impl_isSystem.f, impl_in_eq, Option.bind_some]

theorem impl_AttrsFault_1_eq (n : Int) : impl_AttrsFault_1.f n = some (!inB n 1 65535) := by simp only [impl_AttrsFault_1.f, impl_isSystem_eq, Option.bind_some]

theorem slices_IndexFunc_int64_int64_eq {k : Nat} {l : List Int} (hl : l.length ≤ 1048576) (hk : l.length < k) : ∃ r, slices_IndexFunc_int64_int64.f k l = some r ∧ (decide (r ≥ 0) = l.any (fun x => !inB x 1 65535)) := by
  refine ⟨_, run_loop (L := fun k (_ : Unit) i => slices_IndexFunc_int64_int64.l0 k l (l.length : Int) i) (xs := l) (step := fun i _ y => if (!inB y 1 65535) = true then .inr (i : Int) else .inl ()) (fin := fun _ => -1) (B := 0) (s := ()) (fun _ _ => True)
    (fun k i _ h _ _ => by
      simp only [slices_IndexFunc_int64_int64.l0]
      rw [if_pos (by omega), if_pos (by omega), if_pos (by omega), rd_nat h, wrap_succ (by omega), impl_AttrsFault_1_eq]
      by_cases hx : (!inB l[i] 1 65535) = true <;> simp [hx])
    (fun _ _ _ _ _ _ => trivial)
    (fun k _ _ => by simp only [slices_IndexFunc_int64_int64.l0]; rw [if_neg (by omega)]) trivial (by omega), run_indexP _ l 0⟩

theorem slices_ContainsFunc_int64_int64_eq {k : Nat} {l : List Int} (hl : l.length ≤ 1048576) (hk : l.length < k) : slices_ContainsFunc_int64_int64.f k l = some (l.any (fun x => !inB x 1 65535)) := by
  obtain ⟨r, hr, hm⟩ := slices_IndexFunc_int64_int64_eq hl hk
  simp only [slices_ContainsFunc_int64_int64.f, hr, Option.bind_some, hm]

theorem impl_AttrsFault_eq {k : Nat} (hk : 10 ≤ k) (a : Int) (l : List Int) (b c d : Int) : impl_AttrsFault.f k a l b c d = some (attrsFault a l b c d) := by
  obtain ⟨k, rfl⟩ : ∃ m, k = m + 1 := ⟨k - 1, by omega⟩
  simp only [impl_AttrsFault.f, impl_in_eq, impl_isAddr_eq, impl_isTwo_eq, Option.bind_some, impl_AttrsFault.j0]
  unfold attrsFault
  cases h1 : inB a 0 2 <;> cases h2 : inB b 0 65535 <;> cases h3 : inB c 0 65535 <;> cases h4 : inB d 0 65535 <;> simp only [Bool.not_true, Bool.not_false, Bool.and_true, Bool.and_false, Bool.false_eq_true, if_true, if_false, Bool.true_and, Bool.false_and]
  by_cases h6 : (6 : Int) < l.length
  · rw [if_pos h6, if_pos h6]
  · rw [if_neg h6, if_neg h6]
    rw [slices_ContainsFunc_int64_int64_eq (by omega) (by omega)]
    simp only [Option.bind_some, ite_some]

theorem spec_l1Source_eq (l : List Int) : spec_l1Source.f l = some (l, 0) := rfl

theorem spec_l1Next_ex {c : List Int} (hc : ∀ x ∈ c, (Lit.int .u8 x).wf = true) (hl : c.length ≤ 1048580) {a n : Int} (ha : 0 ≤ a) (ha2 : a ≤ 10000000) (hn : n ≤ 10000000) :
    ∃ v, spec_l1Next.f c a n = some (v, a + 1) ∧ 0 ≤ v ∧ (1 ≤ n → v < n) ∧ (n < 1 → v = 0) := by
  have e1 : wrap64 (a + 1) = a + 1 := wrap_id (by omega) (by omega)
  have e2 : wrap64 (a + 1 - 1) = a := by rw [wrap_id (by omega) (by omega)]; omega
  have e3 : wrap64 (a * 7) = a * 7 := wrap_id (by omega) (by omega)
  unfold spec_l1Next.f
  simp only [e1, e2, e3]
  clear e1 e2 e3
  by_cases h : n < 1
  · rw [if_pos h]; exact ⟨0, rfl, by omega, fun h2 => by omega, fun _ => rfl⟩
  · rw [if_neg h]
    by_cases h0 : (c.length : Int) = 0
    · rw [if_pos h0, if_neg (by omega), Int.tmod_eq_emod_of_nonneg (by omega)]
      exact ⟨_, rfl, Int.emod_nonneg _ (by omega), fun _ => Int.emod_lt_of_pos _ (by omega), fun h2 => absurd h2 h⟩
    · rw [if_neg h0]
      have hpos : (0 : Int) < c.length := by omega
      have byteAt : ∀ i : Int, 0 ≤ i → i < c.length → 0 ≤ rd c i ∧ rd c i < 256 := fun i i0 i1 => by
        obtain ⟨j, rfl⟩ := Int.eq_ofNat_of_zero_le i0
        have hj : j < c.length := by omega
        rw [rd_nat hj]
        exact u8_wf (hc _ (List.getElem_mem hj))
      have m1 : 0 ≤ a % (c.length : Int) := Int.emod_nonneg _ (by omega)
      have m2 : a % (c.length : Int) < c.length := Int.emod_lt_of_pos _ hpos
      have m3 : 0 ≤ (a + 1) % (c.length : Int) := Int.emod_nonneg _ (by omega)
      have m4 : (a + 1) % (c.length : Int) < c.length := Int.emod_lt_of_pos _ hpos
      have b1 := byteAt _ m1 m2
      have b2 := byteAt _ m3 m4
      have q0 : 0 ≤ a / (c.length : Int) := Int.ediv_nonneg ha (by omega)
      have q1 : a / (c.length : Int) ≤ a := Int.ediv_le_self _ ha
      rw [Int.tmod_eq_emod_of_nonneg ha, Int.tmod_eq_emod_of_nonneg (show 0 ≤ a + 1 by omega), Int.tdiv_eq_ediv_of_nonneg ha, if_pos m1, if_pos m2]
      generalize rd c (a % (c.length : Int)) = x1 at *
      generalize rd c ((a + 1) % (c.length : Int)) = x2 at *
      generalize a / (c.length : Int) = q at *
      have e1 : wrap64 x1 = x1 := wrap_id (by omega) (by omega)
      have e2 : wrap64 x2 = x2 := wrap_id (by omega) (by omega)
      have e3 : wrap64 q = q := wrap_id (by omega) (by omega)
      have e4 : wrap64 (q * 37) = q * 37 := wrap_id (by omega) (by omega)
      have e5 : wrap64 (x1 + q * 37) = x1 + q * 37 := wrap_id (by omega) (by omega)
      have e6 : wrap64 ((x1 + q * 37) * 251) = (x1 + q * 37) * 251 := wrap_id (by omega) (by omega)
      have e7 : wrap64 (x2 * 13) = x2 * 13 := wrap_id (by omega) (by omega)
      have e8 : wrap64 ((x1 + q * 37) * 251 + x2 * 13) = (x1 + q * 37) * 251 + x2 * 13 := wrap_id (by omega) (by omega)
      have e9 : wrap64 a = a := wrap_id (by omega) (by omega)
      have e10 : wrap64 ((x1 + q * 37) * 251 + x2 * 13 + a) = (x1 + q * 37) * 251 + x2 * 13 + a := wrap_id (by omega) (by omega)
      simp only [e1, e2, e3, e4, e5, e6, e7, e8, e9, e10]
      clear e1 e2 e3 e4 e5 e6 e7 e8 e9 e10
      by_cases h2 : n > 200
      · rw [if_pos h2, if_pos m3, if_pos m4, if_neg (by omega), Int.tmod_eq_emod_of_nonneg (by omega)]
        exact ⟨_, rfl, Int.emod_nonneg _ (by omega), fun _ => Int.emod_lt_of_pos _ (by omega), fun h3 => absurd h3 h⟩
      · rw [if_neg h2, if_neg (by omega), Int.tmod_eq_emod_of_nonneg (by omega)]
        exact ⟨_, rfl, Int.emod_nonneg _ (by omega), fun _ => Int.emod_lt_of_pos _ (by omega), fun h3 => absurd h3 h⟩

theorem spec_l1Chance_ex {c : List Int} (hc : ∀ x ∈ c, (Lit.int .u8 x).wf = true) (hl : c.length ≤ 1048580) {a n : Int} (ha : 0 ≤ a) (ha2 : a ≤ 10000000) (hn : n ≤ 10000000) :
    ∃ b, spec_l1Chance.f c a n = some (b, a + 1) := by
  obtain ⟨i, hi, _⟩ := spec_l1Next_ex hc hl ha ha2 hn
  exact ⟨i == 0, by simp only [spec_l1Chance.f, hi, Option.bind_some]⟩

theorem spec_l1Pick_ex {c : List Int} (hc : ∀ x ∈ c, (Lit.int .u8 x).wf = true) (hl : c.length ≤ 1048580) {a : Int} (ha : 0 ≤ a) (ha2 : a ≤ 10000000) {xs : List Int} (h0 : 0 < xs.length) (hx : xs.length ≤ 100) :
    ∃ v, spec_l1Pick.f c a xs = some (v, a + 1) ∧ v ∈ xs := by
  obtain ⟨i, hi, i0, i1, _⟩ := spec_l1Next_ex hc hl ha ha2 (n := (xs.length : Int)) (by omega)
  have i2 := i1 (by omega)
  simp only [spec_l1Pick.f, hi, Option.bind_some]
  rw [if_pos i0, if_pos i2]
  obtain ⟨j, rfl⟩ := Int.eq_ofNat_of_zero_le i0
  have hj : j < xs.length := by omega
  exact ⟨_, rfl, by rw [rd_nat hj]; exact List.getElem_mem hj⟩

/-- What is drawn as attributes: no fault but, at most, in nothing. -/
def goodAttrs (o : Int) (p : List Int) (n m l : Int) : Prop := 0 ≤ o ∧ o ≤ 2 ∧ p.length ≤ 3 ∧ (∀ x ∈ p, 1 ≤ x ∧ x ≤ 65535) ∧ 0 ≤ n ∧ n ≤ 8 ∧ 0 ≤ m ∧ m ≤ 4 ∧ 90 ≤ l ∧ l ≤ 109
theorem spec_l3DrawAttrs_l0_ex {c : List Int} (hc : ∀ x ∈ c, (Lit.int .u8 x).wf = true) (hl : c.length ≤ 1048580) (o n m l : Int) :
    ∀ (d : Nat) (k : Nat) (a : Int) (p : List Int), d < k → 0 ≤ a → a + 3 * d ≤ 10000000 → p.length + d ≤ 100 → (∀ x ∈ p, 1 ≤ x ∧ x ≤ 65535) →
    ∃ p' a', spec_l3DrawAttrs.l0 k (d : Int) c a o p n m l = some (o, p', n, m, l, a') ∧ p'.length = p.length + d ∧ (∀ x ∈ p', 1 ≤ x ∧ x ≤ 65535) ∧ a ≤ a' ∧ a' ≤ a + 3 * d := by
  intro d
  induction d with
  | zero =>
    intro k a p hk ha ha2 hp hq
    obtain ⟨k, rfl⟩ : ∃ m, k = m + 1 := ⟨k - 1, by omega⟩
    exact ⟨p, a, by simp [spec_l3DrawAttrs.l0], by omega, hq, by omega, by omega⟩
  | succ d ih =>
    intro k a p hk ha ha2 hp hq
    obtain ⟨k, rfl⟩ : ∃ m, k = m + 1 := ⟨k - 1, by omega⟩
    obtain ⟨v1, h1, p1, q1, _⟩ := spec_l1Next_ex hc hl ha (by omega) (n := 5) (by omega)
    obtain ⟨v2, h2, p2, q2, _⟩ := spec_l1Next_ex hc hl (a := a + 1) (by omega) (by omega) (n := 5) (by omega)
    have r1 := q1 (by decide)
    have r2 := q2 (by decide)
    have w1 : wrap64 (1 + v1) = 1 + v1 := wrap_id (by omega) (by omega)
    have w2 : wrap64 (1 + v2) = 1 + v2 := wrap_id (by omega) (by omega)
    obtain ⟨v3, h3, p3⟩ := spec_l1Pick_ex hc hl (a := a + 1 + 1) (by omega) (by omega) (xs := [1 + v1, 1 + v2, 65535]) (by simp) (by simp)
    have hv : 1 ≤ v3 ∧ v3 ≤ 65535 := by
      simp only [List.mem_cons, List.not_mem_nil, or_false] at p3
      clear w1 w2
      omega
    have w3 : wrap64 (((d + 1 : Nat) : Int) - 1) = (d : Int) := by rw [wrap_id (by clear w1 w2; omega) (by clear w1 w2; omega)]; clear w1 w2; omega
    simp only [spec_l3DrawAttrs.l0, h1, h2, w1, w2, h3, w3, Option.bind_some]
    clear w1 w2 w3
    rw [if_pos (by omega), if_pos (by omega)]
    obtain ⟨p', a', e, l1, l2, l3, l4⟩ := ih k (a + 1 + 1 + 1) (p ++ [v3]) (by omega) (by omega) (by omega) (by simp; omega) (fun x hx => by
      rcases List.mem_append.1 hx with hx | hx
      · exact hq x hx
      · rw [List.mem_singleton.1 hx]; exact hv)
    exact ⟨p', a', e, by simp at l1; omega, l2, by omega, by omega⟩
theorem spec_l3DrawAttrs_ex {c : List Int} (hc : ∀ x ∈ c, (Lit.int .u8 x).wf = true) (hl : c.length ≤ 1048580) {k : Nat} (hk : 10 ≤ k) {a : Int} (ha : 0 ≤ a) (ha2 : a ≤ 9000000) :
    ∃ o p n m l a', spec_l3DrawAttrs.f k c a = some (o, p, n, m, l, a') ∧ goodAttrs o p n m l ∧ a ≤ a' ∧ a' ≤ a + 20 := by
  obtain ⟨v1, h1, p1, q1, _⟩ := spec_l1Next_ex hc hl ha (by omega) (n := 3) (by omega)
  obtain ⟨v2, h2, p2, q2, _⟩ := spec_l1Next_ex hc hl (a := a + 1) (by omega) (by omega) (n := 9) (by omega)
  obtain ⟨v3, h3, p3, q3, _⟩ := spec_l1Next_ex hc hl (a := a + 1 + 1) (by omega) (by omega) (n := 5) (by omega)
  obtain ⟨v4, h4, p4⟩ := spec_l1Pick_ex hc hl (a := a + 1 + 1 + 1) (by omega) (by omega) (xs := [0, v3]) (by simp) (by simp)
  obtain ⟨v5, h5, p5, q5, _⟩ := spec_l1Next_ex hc hl (a := a + 1 + 1 + 1 + 1) (by omega) (by omega) (n := 20) (by omega)
  have r1 := q1 (by decide)
  have r2 := q2 (by decide)
  have r3 := q3 (by decide)
  have r5 := q5 (by decide)
  obtain ⟨v6, h6, p6⟩ := spec_l1Pick_ex hc hl (a := a + 1 + 1 + 1 + 1 + 1) (by omega) (by omega) (xs := [100, 100, 90 + v5]) (by simp) (by simp)
  obtain ⟨v7, h7, p7, q7, _⟩ := spec_l1Next_ex hc hl (a := a + 1 + 1 + 1 + 1 + 1 + 1) (by omega) (by omega) (n := 4) (by omega)
  have r7 := q7 (by decide)
  have b4 : 0 ≤ v4 ∧ v4 ≤ 4 := by
    simp only [List.mem_cons, List.not_mem_nil, or_false] at p4
    omega
  have b6 : 90 ≤ v6 ∧ v6 ≤ 109 := by
    simp only [List.mem_cons, List.not_mem_nil, or_false] at p6
    omega
  obtain ⟨d, rfl⟩ := Int.eq_ofNat_of_zero_le p7
  obtain ⟨p', a', e, l1, l2, l3, l4⟩ := spec_l3DrawAttrs_l0_ex hc hl v1 v2 v4 v6 d k (a + 1 + 1 + 1 + 1 + 1 + 1 + 1) [] (by omega) (by omega) (by omega) (by simp; omega) (by simp)
  have w5 : wrap64 (90 + v5) = 90 + v5 := wrap_id (by omega) (by omega)
  simp only [spec_l3DrawAttrs.f, h1, h2, h3, h4, h5, w5, h6, h7, Option.bind_some]
  clear w5
  exact ⟨_, _, _, _, _, _, e, ⟨p1, by omega, by simp at l1; omega, l2, p2, by omega, b4.1, b4.2, b6.1, b6.2⟩, by omega, by omega⟩

theorem spec_l3BentAttrs_ex {c : List Int} (hc : ∀ x ∈ c, (Lit.int .u8 x).wf = true) (hl : c.length ≤ 1048580) {k : Nat} (hk : 10 ≤ k) {a : Int} (ha : 0 ≤ a) (ha2 : a ≤ 8000000) :
    ∃ o p n m l a', spec_l3BentAttrs.f k c a = some (o, p, n, m, l, a') ∧ p.length ≤ 7 ∧ a ≤ a' ∧ a' ≤ a + 30 := by
  obtain ⟨o, p, n, m, l, a1, h1, g1, b1, b2⟩ := spec_l3DrawAttrs_ex hc hl hk ha (by omega)
  have hp := g1.2.2.1
  obtain ⟨v, h2, p2, q2, _⟩ := spec_l1Next_ex hc hl (a := a1) (by omega) (by omega) (n := 14) (by omega)
  have r2 := q2 (by decide)
  simp only [spec_l3BentAttrs.f, h1, h2, Option.bind_some]
  by_cases e0 : v = 0
  · obtain ⟨x, hx, _⟩ := spec_l1Pick_ex hc hl (a := a1 + 1) (by omega) (by omega) (xs := [-1, 3]) (by simp) (by simp)
    rw [if_pos e0, hx]
    exact ⟨_, _, _, _, _, _, rfl, by omega, by omega, by omega⟩
  · rw [if_neg e0]
    by_cases e1 : v = 1
    · obtain ⟨x, hx, _⟩ := spec_l1Pick_ex hc hl (a := a1 + 1) (by omega) (by omega) (xs := [-1, 65536]) (by simp) (by simp)
      rw [if_pos e1, hx]
      exact ⟨_, _, _, _, _, _, rfl, by omega, by omega, by omega⟩
    · rw [if_neg e1]
      by_cases e2 : v = 2
      · obtain ⟨x, hx, _⟩ := spec_l1Pick_ex hc hl (a := a1 + 1) (by omega) (by omega) (xs := [0, 65536]) (by simp) (by simp)
        rw [if_pos e2, hx]
        simp only [Option.bind_some]
        rw [if_pos (by omega)]
        exact ⟨_, _, _, _, _, _, rfl, by simp; omega, by omega, by omega⟩
      · rw [if_neg e2]
        by_cases e3 : v = 3
        · rw [if_pos e3]
          exact ⟨_, _, _, _, _, _, rfl, by simp, by omega, by omega⟩
        · rw [if_neg e3]
          by_cases e4 : v = 4
          · obtain ⟨x, hx, _⟩ := spec_l1Pick_ex hc hl (a := a1 + 1) (by omega) (by omega) (xs := [-1, 65536]) (by simp) (by simp)
            rw [if_pos e4, hx]
            exact ⟨_, _, _, _, _, _, rfl, by omega, by omega, by omega⟩
          · rw [if_neg e4]
            exact ⟨_, _, _, _, _, _, rfl, by omega, by omega, by omega⟩

theorem spec_DrawExportAttrs_j0_ex {c : List Int} (hc : ∀ x ∈ c, (Lit.int .u8 x).wf = true) (hl : c.length ≤ 1048580) {k : Nat} {a : Int} (ha : 0 ≤ a) (ha2 : a ≤ 7000000) (o : Int) (p : List Int) (n m l : Int) :
    ∃ mi ne, spec_DrawExportAttrs.j0 (k + 1) c a o p n m l = some (o, p, n, m, l, mi, ne) := by
  obtain ⟨v1, h1, p1, q1, _⟩ := spec_l1Next_ex hc hl ha (by omega) (n := 5) (by omega)
  obtain ⟨v2, h2, p2, q2, _⟩ := spec_l1Next_ex hc hl (a := a + 1) (by omega) (by omega) (n := 5) (by omega)
  obtain ⟨v3, h3, _⟩ := spec_l1Pick_ex hc hl (a := a + 1 + 1) (by omega) (by omega) (xs := [wrap64 (1 + v1), wrap64 (1 + v2), 0, 65536]) (by simp) (by simp)
  obtain ⟨v4, h4, _⟩ := spec_l1Next_ex hc hl (a := a + 1 + 1 + 1) (by omega) (by omega) (n := 9) (by omega)
  obtain ⟨v5, h5, _⟩ := spec_l1Next_ex hc hl (a := a + 1 + 1 + 1 + 1) (by omega) (by omega) (n := 9) (by omega)
  obtain ⟨v6, h6, _⟩ := spec_l1Pick_ex hc hl (a := a + 1 + 1 + 1 + 1 + 1) (by omega) (by omega) (xs := [v4, v5, -1]) (by simp) (by simp)
  simp only [spec_DrawExportAttrs.j0, h1, h2, h3, h4, h5, h6, Option.bind_some]
  exact ⟨_, _, rfl⟩
theorem spec_DrawExportAttrs_ex {c : List Int} (hc : ∀ x ∈ c, (Lit.int .u8 x).wf = true) (hl : c.length ≤ 1048580) {k : Nat} (hk : 20 ≤ k) :
    ∃ o p n m l mi ne, spec_DrawExportAttrs.f k c = some (o, p, n, m, l, mi, ne) ∧ p.length ≤ 7 := by
  obtain ⟨k, rfl⟩ : ∃ m, k = m + 1 := ⟨k - 1, by omega⟩
  obtain ⟨o, p, n, m, l, a1, h1, hp, b1, b2⟩ := spec_l3BentAttrs_ex hc hl (show 10 ≤ k + 1 by omega) (a := 0) (by omega) (by omega)
  obtain ⟨b, h2⟩ := spec_l1Chance_ex hc hl (a := a1) (by omega) (by omega) (n := 8) (by omega)
  simp only [spec_DrawExportAttrs.f, spec_l1Source_eq, h1, h2, Option.bind_some]
  cases b
  · obtain ⟨mi, ne, h3⟩ := spec_DrawExportAttrs_j0_ex hc hl (k := k) (a := a1 + 1) (by omega) (by omega) o p n m l
    exact ⟨o, p, n, m, l, mi, ne, by simpa using h3, hp⟩
  · obtain ⟨mi, ne, h3⟩ := spec_DrawExportAttrs_j0_ex hc hl (k := k) (a := a1 + 1) (by omega) (by omega) o [1, 2, 3, 4, 5, 6] n m l
    exact ⟨o, _, n, m, l, mi, ne, by simpa using h3, by simp⟩

theorem impl_exported_eq {o : Int} {p : List Int} {n m l mine next : Int} (hl : p.length ≤ 1048576) : impl_exported.f o p n m l mine next = some (o, [mine] ++ p, next, 0, 0) := by
  simp only [impl_exported.f, Option.bind_some]
  rw [if_pos (by simp; omega)]

theorem impl_ExportAttrs_eq {k : Nat} (hk : 20 ≤ k) (o : Int) (p : List Int) (n m l mine next : Int) : impl_ExportAttrs.f k o p n m l mine next = some (exportAttrs o p n m l mine next) := by
  obtain ⟨k, rfl⟩ : ∃ m, k = m + 1 := ⟨k - 1, by omega⟩
  simp only [impl_ExportAttrs.f, impl_AttrsFault_eq (show 10 ≤ k + 1 by omega), impl_isSystem_eq, impl_isAddr_eq, Option.bind_some, impl_ExportAttrs.j0]
  unfold exportAttrs
  by_cases h0 : attrsFault o p n m l = 0
  · rw [if_pos h0, if_pos h0]
    have hp := (attrsFault_ok h0).2.2.1
    cases h1 : inB mine 1 65535 <;> cases h2 : inB next 0 65535 <;> simp only [Bool.not_true, Bool.not_false, Bool.and_true, Bool.and_false, Bool.false_eq_true, if_true, if_false, Bool.true_and, Bool.false_and]
    by_cases h6 : (p.length : Int) = 6
    · rw [if_pos h6, if_pos (by omega)]
    · rw [if_neg h6, if_neg (by omega), impl_exported_eq (by omega)]; rfl
  · rw [if_neg h0, if_neg h0]

theorem spec_l1In_eq (n lo hi : Int) : spec_l1In.f n lo hi = some (inB n lo hi) := inB_eq n lo hi

theorem spec_l3Word_eq (n : Int) : spec_l3Word.f n = some (inB n 0 65535) := by
  simp only [spec_l3Word.f, spec_l1In_eq, Option.bind_some]

theorem spec_AttrsFault_eq {k : Nat} (hk : 10 ≤ k) (a : Int) (l : List Int) (b c d : Int) : spec_AttrsFault.f k a l b c d = some (attrsFault a l b c d) := by
  obtain ⟨k, rfl⟩ : ∃ m, k = m + 1 := ⟨k - 1, by omega⟩
  simp only [spec_AttrsFault.f, spec_l1In_eq, spec_l3Word_eq, Option.bind_some, spec_AttrsFault.j0]
  unfold attrsFault
  cases h1 : inB a 0 2 <;> cases h2 : inB b 0 65535 <;> cases h3 : inB c 0 65535 <;> cases h4 : inB d 0 65535 <;> simp only [Bool.not_true, Bool.not_false, Bool.and_true, Bool.and_false, Bool.false_eq_true, if_true, if_false, Bool.true_and, Bool.false_and]
  by_cases h6 : (6 : Int) < l.length
  · rw [if_pos h6, if_pos h6]
  · rw [if_neg h6, if_neg h6]
    refine Eq.trans ?_ (congrArg some (scan_anyNot l 3 0))
    exact scan_loop (L := fun k i => spec_AttrsFault.l0 k i a l b c d) (B := 0)
      (fun k i h _ => by
        simp only [spec_AttrsFault.l0]
        rw [if_pos (by omega), if_pos (by omega), rd_nat h, wrap_succ (by omega)]
        simp only [spec_l1In_eq, Option.bind_some]
        by_cases hx : inB l[i] 1 65535 = true <;> simp [hx])
      (fun k => by simp only [spec_AttrsFault.l0]; rw [if_neg (by omega)]) (by omega)

theorem spec_l2Addr_eq (n : Int) : spec_l2Addr.f n = some (inB n 0 65535) := by
  simp only [spec_l2Addr.f, spec_l1In_eq, Option.bind_some]

theorem spec_l6Export_eq {o : Int} {p : List Int} {n m l mine next : Int} (hl : p.length ≤ 1048576) : spec_l6Export.f o p n m l mine next = some (if (p.length : Int) ≥ 6 then (0, [], 0, 0, 0, false) else (o, [mine] ++ p, next, 0, 0, true)) := by
  simp only [spec_l6Export.f, Option.bind_some]
  by_cases h : (p.length : Int) ≥ 6
  · rw [if_pos h, if_pos h]
  · rw [if_neg h, if_neg h, if_pos (by simp; omega)]

theorem spec_ExportAttrs_eq {k : Nat} (hk : 20 ≤ k) (o : Int) (p : List Int) (n m l mine next : Int) : spec_ExportAttrs.f k o p n m l mine next = some (exportAttrs o p n m l mine next) := by
  obtain ⟨k, rfl⟩ : ∃ m, k = m + 1 := ⟨k - 1, by omega⟩
  simp only [spec_ExportAttrs.f, spec_AttrsFault_eq (show 10 ≤ k + 1 by omega), spec_l1In_eq, spec_l2Addr_eq, Option.bind_some, spec_ExportAttrs.j0]
  unfold exportAttrs
  by_cases h0 : attrsFault o p n m l = 0
  · rw [if_pos h0, if_pos h0]
    have hp := (attrsFault_ok h0).2.2.1
    cases h1 : inB mine 1 65535 <;> cases h2 : inB next 0 65535 <;> simp only [Bool.not_true, Bool.not_false, Bool.and_true, Bool.and_false, Bool.false_eq_true, if_true, if_false, Bool.true_and, Bool.false_and]
    rw [spec_l6Export_eq (by omega)]
    by_cases h6 : (p.length : Int) ≥ 6
    · rw [if_pos h6, if_pos h6]; rfl
    · rw [if_neg h6, if_neg h6]; rfl
  · rw [if_neg h0, if_neg h0]

theorem FnExports (l0 : List Int)
    (w0 : (l0.length ≤ maxLen ∧ ∀ z1 ∈ l0, (Lit.int .u8 z1).wf = true)) :
    ∃ k, laws_FnExports.f k l0 = some true := by
  refine ⟨1000, ?_⟩
  unfold laws_FnExports.f
  simp only [laws_lwBig_eq, Option.bind_some]
  by_cases hL : (l0.length : Int) > 1048576
  · rw [if_pos (decide_eq_true hL)]
  · rw [if_neg (by simpa using hL)]
    obtain ⟨o, p, n, m, l, mi, ne, hd, hp⟩ := spec_DrawExportAttrs_ex (k := 1000) w0.2 (by omega) (by decide)
    simp only [hd, impl_ExportAttrs_eq (show 20 ≤ 1000 by decide), spec_ExportAttrs_eq (show 20 ≤ 1000 by decide), Option.bind_some]
    by_cases h0 : (exportAttrs o p n m l mi ne).1 = 0
    · rw [if_pos h0]
      unfold exportAttrs at h0 ⊢
      by_cases h1 : attrsFault o p n m l = 0
      · rw [if_pos h1] at h0 ⊢
        by_cases h2 : (inB mi 1 65535 && inB ne 0 65535) = true
        · rw [if_pos h2] at h0 ⊢
          by_cases h3 : (p.length : Int) ≥ 6
          · rw [if_pos h3] at h0
            exact absurd h0 (by decide)
          · rw [if_neg h3]
            have ha := attrsFault_ok h1
            simp only [Bool.and_eq_true, inB_iff] at h2
            have hlen : ([mi] ++ p).length ≤ 1048576 := by simp <;> omega
            have hlen2 : ([mi] ++ p).length < 1000 := by simp <;> omega
            simp only [impl_HasLoop_eq hlen hlen2, impl_HasLoop_eq (show p.length ≤ 1048576 by omega) (show p.length < 1000 by omega), impl_AttrsFault_eq (show 10 ≤ 1000 by decide), Option.bind_some]
            have hm : memB ([mi] ++ p) mi = true := by unfold memB; simp
            have hlw : wrap64 ((p.length : Int) + 1) = (([mi] ++ p).length : Int) := by rw [wrap_id (by omega) (by omega)]; simp <;> omega
            have hf : attrsFault o ([mi] ++ p) ne 0 0 = 0 := attrsFault_of ⟨ha.1, ha.2.1⟩ (by simp <;> omega) (fun x hx => by
              rcases List.mem_append.1 hx with hx | hx
              · rw [List.mem_singleton.1 hx]; exact h2.1
              · exact ha.2.2.2.1 x hx) h2.2 ⟨by decide, by decide⟩ ⟨by decide, by decide⟩
            rw [hm, if_true, if_pos rfl, if_pos hlw.symm, hf, if_pos rfl]
            by_cases h7 : mi = 7
            · have h8 : memB ([mi] ++ p) 7 = true := by unfold memB; simp [h7]
              rw [if_pos h7, h8]; rfl
            · have h8 : memB ([mi] ++ p) 7 = memB p 7 := by
                unfold memB
                have h9 : ¬ (7 : Int) = mi := fun e => h7 e.symm
                simp [h9]
              rw [if_neg h7, h8]
              simp
        · rw [if_neg h2] at h0; exact absurd h0 (by decide)
      · rw [if_neg h1] at h0; exact absurd h0 h1
    · rw [if_neg h0]
      simp
end Go.Proofs.Ytmeaabgkndcikaa.Pure
