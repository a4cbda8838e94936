/- The pure part of the law FnFrames: what the printed functions compute, in closed form, and that the law's answer is true. -/
import Derived.Test.YtifkoddiodgfpaaSFnFramesza
import Derived.Test.YtifkoddiodgfpaaYFnFramesx1
import Derived.Test.YtifkoddiodgfpaaYFnFramesx2
import Derived.Test.YtifkoddiodgfpaaYFnFramesx3
import Derived.Test.YtifkoddiodgfpaaYFnFramesx4
import Derived.Test.YtifkoddiodgfpaaYFnFramesx5
import Derived.Test.YtifkoddiodgfpaaYFnFramesx6
import Derived.Test.YtifkoddiodgfpaaYFnFramesx7
namespace Go.Proofs.Ytifkoddiodgfpaa.Pure
open Go.RowKit Go.Proofs.Ytifkoddiodgfpaa.PFnFrames Go.Proofs.YtifkoddiodgfpaaW.PrintWords Go.Proofs.YtifkoddiodgfpaaW.PrintLast Go.Proofs.YtifkoddiodgfpaaW.PrintMore Go.Proofs.Ytifkoddiodgfpaa.B
set_option linter.unusedVariables false
set_option linter.unusedSimpArgs false
theorem laws_lwBig_eq (l : List Int) : laws_lwBig.f l = some (decide ((l.length : Int) > 1048576)) := rfl
theorem spec_l1Next_ex {c : List Int} (hc : ∀ x ∈ c, (Lit.int .u8 x).wf = true) (hl : c.length ≤ 1048580) {a n : Int} (ha : 0 ≤ a) (ha2 : a ≤ 10000000) (hn : n ≤ 10000000) :
    ∃ v, spec_l1Next.f c a n = some (v, a + 1) ∧ 0 ≤ v ∧ (1 ≤ n → v < n) ∧ (n < 1 → v = 0) := by
  have e1 : wrap64 (a + 1) = a + 1 := wrap_id (by omega) (by omega)
  have e2 : wrap64 (a + 1 - 1) = a := by rw [wrap_id (by omega) (by omega)]; omega
  have e3 : wrap64 (a * 7) = a * 7 := wrap_id (by omega) (by omega)
  unfold spec_l1Next.f
  simp only [e1, e2, e3]
  clear e1 e2 e3
  by_cases h : n < 1
  · rw [if_pos h]; exact ⟨0, rfl, by omega, fun h2 => by omega, fun _ => rfl⟩
  · rw [if_neg h]
    by_cases h0 : (c.length : Int) = 0
    · rw [if_pos h0, if_neg (by omega), Int.tmod_eq_emod_of_nonneg (by omega)]
      exact ⟨_, rfl, Int.emod_nonneg _ (by omega), fun _ => Int.emod_lt_of_pos _ (by omega), fun h2 => absurd h2 h⟩
    · rw [if_neg h0]
      have hpos : (0 : Int) < c.length := by omega
      have byteAt : ∀ i : Int, 0 ≤ i → i < c.length → 0 ≤ rd c i ∧ rd c i < 256 := fun i i0 i1 => by
        obtain ⟨j, rfl⟩ := Int.eq_ofNat_of_zero_le i0
        have hj : j < c.length := by omega
        rw [rd_nat hj]
        exact u8_wf (hc _ (List.getElem_mem hj))
      have m1 : 0 ≤ a % (c.length : Int) := Int.emod_nonneg _ (by omega)
      have m2 : a % (c.length : Int) < c.length := Int.emod_lt_of_pos _ hpos
      have m3 : 0 ≤ (a + 1) % (c.length : Int) := Int.emod_nonneg _ (by omega)
      have m4 : (a + 1) % (c.length : Int) < c.length := Int.emod_lt_of_pos _ hpos
      have b1 := byteAt _ m1 m2
      have b2 := byteAt _ m3 m4
      have q0 : 0 ≤ a / (c.length : Int) := Int.ediv_nonneg ha (by omega)
      have q1 : a / (c.length : Int) ≤ a := Int.ediv_le_self _ ha
      rw [Int.tmod_eq_emod_of_nonneg ha, Int.tmod_eq_emod_of_nonneg (show 0 ≤ a + 1 by omega), Int.tdiv_eq_ediv_of_nonneg ha, if_pos m1, if_pos m2]
      generalize rd c (a % (c.length : Int)) = x1 at *
      generalize rd c ((a + 1) % (c.length : Int)) = x2 at *
      generalize a / (c.length : Int) = q at *
      have e1 : wrap64 x1 = x1 := wrap_id (by omega) (by omega)
      have e2 : wrap64 x2 = x2 := wrap_id (by omega) (by omega)
      have e3 : wrap64 q = q := wrap_id (by omega) (by omega)
      have e4 : wrap64 (q * 37) = q * 37 := wrap_id (by omega) (by omega)
      have e5 : wrap64 (x1 + q * 37) = x1 + q * 37 := wrap_id (by omega) (by omega)
      have e6 : wrap64 ((x1 + q * 37) * 251) = (x1 + q * 37) * 251 := wrap_id (by omega) (by omega)
      have e7 : wrap64 (x2 * 13) = x2 * 13 := wrap_id (by omega) (by omega)
      have e8 : wrap64 ((x1 + q * 37) * 251 + x2 * 13) = (x1 + q * 37) * 251 + x2 * 13 := wrap_id (by omega) (by omega)
      have e9 : wrap64 a = a := wrap_id (by omega) (by omega)
      have e10 : wrap64 ((x1 + q * 37) * 251 + x2 * 13 + a) = (x1 + q * 37) * 251 + x2 * 13 + a := wrap_id (by omega) (by omega)
      simp only [e1, e2, e3, e4, e5, e6, e7, e8, e9, e10]
      clear e1 e2 e3 e4 e5 e6 e7 e8 e9 e10
      by_cases h2 : n > 200
      · rw [if_pos h2, if_pos m3, if_pos m4, if_neg (by omega), Int.tmod_eq_emod_of_nonneg (by omega)]
        exact ⟨_, rfl, Int.emod_nonneg _ (by omega), fun _ => Int.emod_lt_of_pos _ (by omega), fun h3 => absurd h3 h⟩
      · rw [if_neg h2, if_neg (by omega), Int.tmod_eq_emod_of_nonneg (by omega)]
        exact ⟨_, rfl, Int.emod_nonneg _ (by omega), fun _ => Int.emod_lt_of_pos _ (by omega), fun h3 => absurd h3 h⟩
theorem spec_l1Pick_ex {c : List Int} (hc : ∀ x ∈ c, (Lit.int .u8 x).wf = true) (hl : c.length ≤ 1048580) {a : Int} (ha : 0 ≤ a) (ha2 : a ≤ 10000000) {xs : List Int} (h0 : 0 < xs.length) (hx : xs.length ≤ 100) :
    ∃ v, spec_l1Pick.f c a xs = some (v, a + 1) ∧ v ∈ xs := by
  obtain ⟨i, hi, i0, i1, _⟩ := spec_l1Next_ex hc hl ha ha2 (n := (xs.length : Int)) (by omega)
  have i2 := i1 (by omega)
  simp only [spec_l1Pick.f, hi, Option.bind_some]
  rw [if_pos i0, if_pos i2]
  obtain ⟨j, rfl⟩ := Int.eq_ofNat_of_zero_le i0
  have hj : j < xs.length := by omega
  exact ⟨_, rfl, by rw [rd_nat hj]; exact List.getElem_mem hj⟩
theorem u8_mod (x : Int) : (Lit.int .u8 (x % 256)).wf = true := by
  rw [Lit.wf_int_iff]
  simp [IntKind.min, IntKind.max, IntKind.signed, IntKind.bits]
  omega
theorem spec_l1Some_loop {c : List Int} (hc : ∀ x ∈ c, (Lit.int .u8 x).wf = true) (hl : c.length ≤ 1048580) : ∀ (n : Nat) (k : Nat) (acc : List Int) (a : Int), n < k → n ≤ 1000 → acc.length + n ≤ 100000 → (∀ x ∈ acc, (Lit.int .u8 x).wf = true) → 0 ≤ a → a + 3 * n ≤ 9000000 →
    ∃ bs, spec_l1Some.l0 k (n : Int) acc c a = some (bs, a + 3 * n) ∧ bs.length = acc.length + n ∧ ∀ x ∈ bs, (Lit.int .u8 x).wf = true := by
  intro n
  induction n with
  | zero =>
    intro k acc a hk _ _ hw _ _
    obtain ⟨k, rfl⟩ : ∃ m, k = m + 1 := ⟨k - 1, by omega⟩
    refine ⟨acc, ?_, by omega, hw⟩
    rw [spec_l1Some.l0, if_neg (by omega)]; simp
  | succ n ih =>
    intro k acc a hk hn hacc hw ha ha2
    obtain ⟨k, rfl⟩ : ∃ m, k = m + 1 := ⟨k - 1, by omega⟩
    obtain ⟨v1, h1, p1, q1, _⟩ := spec_l1Next_ex hc hl (a := a) ha (by omega) (n := 256) (by omega)
    obtain ⟨v2, h2, p2, q2, _⟩ := spec_l1Next_ex hc hl (a := a + 1) (by omega) (by omega) (n := 8) (by omega)
    obtain ⟨v3, h3, p3⟩ := spec_l1Pick_ex hc hl (a := a + 1 + 1) (by omega) (by omega) (xs := [v1, v2, 255]) (by simp) (by simp)
    have hw' : ∀ x ∈ acc ++ [v3 % 256], (Lit.int .u8 x).wf = true := by
      intro x hx
      rcases List.mem_append.1 hx with h | h
      · exact hw x h
      · rw [List.mem_singleton.1 h]; exact u8_mod _
    obtain ⟨bs, e, e2, e3⟩ := ih k (acc ++ [v3 % 256]) (a + 1 + 1 + 1) (by omega) (by omega) (by simp; omega) hw' (by omega) (by omega)
    refine ⟨bs, ?_, by rw [e2]; simp; omega, e3⟩
    rw [spec_l1Some.l0, if_pos (by omega)]
    simp only [h1, h2, h3, Option.bind_some]
    rw [if_pos (by omega), wrap_id (by omega) (by omega), show ((n + 1 : Nat) : Int) - 1 = (n : Int) by omega, e]
    congr 2
    omega
theorem spec_l1Some_ex {c : List Int} (hc : ∀ x ∈ c, (Lit.int .u8 x).wf = true) (hl : c.length ≤ 1048580) {k n : Nat} {a : Int} (hk : n < k) (hn : n ≤ 1000) (ha : 0 ≤ a) (ha2 : a ≤ 8000000) :
    ∃ bs, spec_l1Some.f k c a (n : Int) = some (bs, a + 3 * n) ∧ bs.length = n ∧ ∀ x ∈ bs, (Lit.int .u8 x).wf = true := by
  obtain ⟨bs, e, e2, e3⟩ := spec_l1Some_loop hc hl n k [] a hk hn (by simp; omega) (by simp) ha (by omega)
  exact ⟨bs, e, by simpa using e2, e3⟩
theorem spec_l1Frame_ex {c : List Int} (hc : ∀ x ∈ c, (Lit.int .u8 x).wf = true) (hl : c.length ≤ 1048580) {k : Nat} {a : Int} (hk : 200 ≤ k) (ha : 0 ≤ a) (ha2 : a ≤ 7000000) :
    ∃ t bs a', spec_l1Frame.f k c a = some (t, bs, a') ∧ bs.length ≤ 121 ∧ (∀ x ∈ bs, (Lit.int .u8 x).wf = true) ∧ a ≤ a' ∧ a' ≤ a + 1000 := by
  obtain ⟨v1, h1, p1, q1, _⟩ := spec_l1Next_ex hc hl (a := a) ha (by omega) (n := 4) (by omega)
  obtain ⟨v2, h2, p2, q2, _⟩ := spec_l1Next_ex hc hl (a := a + 1) (by omega) (by omega) (n := 9) (by omega)
  obtain ⟨v3, h3, p3, q3, _⟩ := spec_l1Next_ex hc hl (a := a + 1 + 1) (by omega) (by omega) (n := 30) (by omega)
  have r1 := q1 (by decide)
  have r2 := q2 (by decide)
  have r3 := q3 (by decide)
  obtain ⟨v4, h4, p4⟩ := spec_l1Pick_ex hc hl (a := a + 1 + 1 + 1) (by omega) (by omega) (xs := [v2, v3, 0, 120]) (by simp) (by simp)
  have r4 : 0 ≤ v4 ∧ v4 ≤ 120 := by
    simp only [List.mem_cons, List.not_mem_nil, or_false] at p4
    omega
  obtain ⟨n, rfl⟩ := Int.eq_ofNat_of_zero_le r4.1
  obtain ⟨bs, h5, b1, b2⟩ := spec_l1Some_ex hc hl (k := k) (n := n) (a := a + 1 + 1 + 1 + 1) (by omega) (by omega) (by omega) (by omega)
  obtain ⟨v6, h6, p6, q6, _⟩ := spec_l1Next_ex hc hl (a := a + 1 + 1 + 1 + 1 + 3 * n) (by omega) (by omega) (n := 16) (by omega)
  have r6 := q6 (by decide)
  obtain ⟨v7, h7, _⟩ := spec_l1Pick_ex hc hl (a := a + 1 + 1 + 1 + 1 + 3 * n + 1) (by omega) (by omega) (xs := [0, 5]) (by simp) (by simp)
  simp only [spec_l1Frame.f, h1, h2, h3, h4, h5, h6, Option.bind_some]
  by_cases c0 : v6 = 0
  · rw [if_pos c0]
    simp only [h7, Option.bind_some]
    exact ⟨_, _, _, rfl, by omega, b2, by omega, by omega⟩
  · rw [if_neg c0]
    by_cases c1 : v6 = 1
    · rw [if_pos c1, if_pos (by decide)]
      exact ⟨_, _, _, rfl, by simp, fun x hx => by rw [(List.mem_replicate.1 hx).2]; exact u8_mod 0, by omega, by omega⟩
    · rw [if_neg c1]
      exact ⟨_, _, _, rfl, by omega, b2, by omega, by omega⟩
theorem spec_l1Source_eq (l : List Int) : spec_l1Source.f l = some (l, 0) := rfl
theorem spec_DrawPackFrame_ex {c : List Int} (hc : ∀ x ∈ c, (Lit.int .u8 x).wf = true) (hl : c.length ≤ 1048580) {k : Nat} (hk : 200 ≤ k) :
    ∃ t bs, spec_DrawPackFrame.f k c = some (t, bs) ∧ bs.length ≤ 121 ∧ ∀ x ∈ bs, (Lit.int .u8 x).wf = true := by
  obtain ⟨t, bs, a', h, b1, b2, _⟩ := spec_l1Frame_ex hc hl (k := k) (a := 0) hk (by omega) (by omega)
  refine ⟨t, bs, ?_, b1, b2⟩
  simp only [spec_DrawPackFrame.f, spec_l1Source.f, Option.bind_some, h]
theorem impl_in_eq (n lo hi : Int) : impl_in.f n lo hi = some (inB n lo hi) := inB_eq n lo hi
theorem impl_FrameFault_eq (a : Int) (l : List Int) : impl_FrameFault.f a l = some (frameFault a l.length) := by
  simp only [impl_FrameFault.f, impl_in_eq, Option.bind_some, ite_some]; rfl
theorem impl_putTwo_eq {l : List Int} (hl : l.length ≤ 10000000) (a : Int) : impl_putTwo.f l a = some (l ++ two a) := by
  simp only [impl_putTwo.f, Option.bind_some]
  rw [if_pos (by simp; omega)]; rfl
theorem impl_size_byte_eq (l : List Int) : impl_size_byte.f l = some (l.length : Int) := rfl
theorem impl_packFrame_eq {a : Int} {l : List Int} (hl : l.length ≤ 10000000) : impl_packFrame.f a l = some (packF a l) := by
  simp only [impl_packFrame.f, impl_size_byte_eq, Option.bind_some]
  rw [wrap_id (x := 5 + (l.length : Int)) (by omega) (by omega), impl_putTwo_eq (by simp)]
  simp only [Option.bind_some]
  rw [if_pos (by simp [two]), if_pos (by simp [two]; omega)]
  rfl
theorem impl_PackFrame_eq {a : Int} {l : List Int} (hl : l.length ≤ 10000000) : impl_PackFrame.f a l = some (if frameFault a l.length = 0 then (0, packF a l) else (frameFault a l.length, [])) := by
  simp only [impl_PackFrame.f, impl_FrameFault_eq, Option.bind_some]
  by_cases h : frameFault a l.length = 0
  · rw [if_pos h, if_pos h, impl_packFrame_eq hl]; rfl
  · rw [if_neg h, if_neg h]
theorem spec_l1In_eq (n lo hi : Int) : spec_l1In.f n lo hi = some (inB n lo hi) := inB_eq n lo hi
theorem spec_FrameFault_eq (a : Int) (l : List Int) : spec_FrameFault.f a l = some (frameFault a l.length) := by
  simp only [spec_FrameFault.f, spec_l1In_eq, Option.bind_some, ite_some]; rfl
theorem laws_lwAt_ex {c : List Int} (hc : ∀ x ∈ c, (Lit.int .u8 x).wf = true) (hl : c.length ≤ 1048580) {i n : Int} (hi : 0 ≤ i) (hi2 : i ≤ 10000000) (hn : n ≤ 100000000) :
    ∃ v, laws_lwAt.f c i n = some v ∧ 0 ≤ v ∧ (1 ≤ n → v < n) := by
  have e1 : wrap64 (i + 1) = i + 1 := wrap_id (by omega) (by omega)
  have e3 : wrap64 (i * 7) = i * 7 := wrap_id (by omega) (by omega)
  unfold laws_lwAt.f
  simp only [e1, e3]
  clear e1 e3
  by_cases h : n ≤ 1
  · rw [if_pos h]; exact ⟨0, rfl, by omega, fun h2 => by omega⟩
  · rw [if_neg h]
    by_cases h0 : (c.length : Int) = 0
    · rw [if_pos h0, if_neg (by omega), Int.tmod_eq_emod_of_nonneg (by omega)]
      exact ⟨_, rfl, Int.emod_nonneg _ (by omega), fun _ => Int.emod_lt_of_pos _ (by omega)⟩
    · rw [if_neg h0]
      have hpos : (0 : Int) < c.length := by omega
      have byteAt : ∀ i : Int, 0 ≤ i → i < c.length → 0 ≤ rd c i ∧ rd c i < 256 := fun i i0 i1 => by
        obtain ⟨j, rfl⟩ := Int.eq_ofNat_of_zero_le i0
        have hj : j < c.length := by omega
        rw [rd_nat hj]
        exact u8_wf (hc _ (List.getElem_mem hj))
      rw [Int.tmod_eq_emod_of_nonneg hi, Int.tdiv_eq_ediv_of_nonneg hi, Int.tmod_eq_emod_of_nonneg (show 0 ≤ i + 1 by omega)]
      have m0 := Int.emod_nonneg i (show (c.length : Int) ≠ 0 by omega)
      have m1 := Int.emod_lt_of_pos i hpos
      have m2 := Int.emod_nonneg (i + 1) (show (c.length : Int) ≠ 0 by omega)
      have m3 := Int.emod_lt_of_pos (i + 1) hpos
      have b0 := byteAt _ m0 m1
      have b1 := byteAt _ m2 m3
      have d0 : 0 ≤ i / (c.length : Int) := Int.ediv_nonneg hi (by omega)
      have d1 : i / (c.length : Int) ≤ i := Int.ediv_le_self _ hi
      generalize i / (c.length : Int) = d at d0 d1 ⊢
      generalize rd c (i % (c.length : Int)) = x at b0 ⊢
      generalize rd c ((i + 1) % (c.length : Int)) = y at b1 ⊢
      rw [if_pos m0, if_pos m1, if_pos m2, if_pos m3, wrap_id (x := d) (by omega) (by omega), wrap_id (x := d * 3) (by omega) (by omega), wrap_id (x := x) (by omega) (by omega), wrap_id (x := x + d * 3) (by omega) (by omega)]
      have e5 : wrap64 (wrap64 ((x + d * 3) * 251) + wrap64 y) = (x + d * 3) * 251 + y := by
        rw [wrap_id (x := (x + d * 3) * 251) (by omega) (by omega), wrap_id (x := y) (by omega) (by omega), wrap_id (by omega) (by omega)]
      by_cases h2 : n > 200
      · rw [if_pos h2]
        rw [e5, if_neg (by omega), Int.tmod_eq_emod_of_nonneg (by omega)]
        exact ⟨_, rfl, Int.emod_nonneg _ (by omega), fun _ => Int.emod_lt_of_pos _ (by omega)⟩
      · rw [if_neg h2, if_neg (by omega), Int.tmod_eq_emod_of_nonneg (by omega)]
        exact ⟨_, rfl, Int.emod_nonneg _ (by omega), fun _ => Int.emod_lt_of_pos _ (by omega)⟩
theorem impl_numberOf_eq {k : Nat} {l : List Int} (hl : l.length ≤ 5) (hb : ∀ x ∈ l, (Lit.int .u8 x).wf = true) (hk : l.length < k) : impl_numberOf.f k l = some (numOf l) := by
  unfold impl_numberOf.f numOf
  refine Eq.trans ?_ (congrArg some (run_foldl (fun n b => n * 256 + b) id l 0 0))
  exact run_loop (L := fun k s i => impl_numberOf.l0 k s l (l.length : Int) i) (fun i s => 0 ≤ s ∧ s < ((256 ^ i : Nat) : Int)) (B := 0)
    (fun k i s h _ hi => by
      have hx := u8_wf (hb _ (List.getElem_mem h))
      have hst := numOf_step (by omega) hi.1 hi.2 hx.1 hx.2
      simp only [impl_numberOf.l0]
      rw [if_pos (by omega), if_pos (by omega), if_pos (by omega), rd_nat h, or_wrap hi.1 hst.2.2 hx.1 hx.2, wrap_succ (by omega)])
    (fun i s s' h hi e => by
      have hx := u8_wf (hb _ (List.getElem_mem h))
      have hst := numOf_step (by omega) hi.1 hi.2 hx.1 hx.2
      injection e with e
      exact e ▸ ⟨hst.1, hst.2.1⟩)
    (fun k s _ => by simp only [impl_numberOf.l0]; rw [if_neg (by omega)]; rfl) ⟨by decide, by decide⟩ (by omega)
def tw (l : List Int) : Int := numOf ((l.drop 2).take 2)
def headF (l : List Int) : Int :=
  if (0 < l.length ∧ rd l 0 ≠ 255) ∨ (1 < l.length ∧ rd l 1 ≠ 255) then 1
  else if 3 < l.length ∧ ¬ (5 ≤ tw l ∧ tw l ≤ 125) then 2
  else if 4 < l.length ∧ ¬ (1 ≤ rd l 4 ∧ rd l 4 ≤ 4) then 3 else 0
def nextF (l : List Int) : Int × List Int × Int × Int :=
  if headF l ≠ 0 then (0, [], 0, headF l) else if l.length < 5 ∨ (l.length : Int) < tw l then (0, [], 0, 0) else (rd l 4, (l.take (tw l).toNat).drop 5, tw l, 0)
theorem rd_byte {l : List Int} (hb : ∀ x ∈ l, (Lit.int .u8 x).wf = true) {i : Nat} (h : i < l.length) : 0 ≤ rd l (i : Int) ∧ rd l (i : Int) < 256 := by
  rw [rd_nat h]; exact u8_wf (hb _ (List.getElem_mem h))
theorem tw_eq {l : List Int} (h : 3 < l.length) : tw l = rd l 2 * 256 + rd l 3 := by
  obtain ⟨a, b, c, d, r, rfl⟩ : ∃ a b c d r, l = a :: b :: c :: d :: r := by
    match l, h with
    | a :: b :: c :: d :: r, _ => exact ⟨a, b, c, d, r, rfl⟩
  simp [tw, numOf, rd]
theorem nextF_bad {l : List Int} {r : Int} (h : headF l = r) (hr : r ≠ 0) : nextF l = (0, [], 0, r) := by
  unfold nextF; rw [if_pos (by rw [h]; exact hr), h]
theorem nextF_ok {l : List Int} (h : headF l = 0) : nextF l = if l.length < 5 ∨ (l.length : Int) < tw l then (0, [], 0, 0) else (rd l 4, (l.take (tw l).toNat).drop 5, tw l, 0) := by
  unfold nextF; rw [if_neg (by rw [h]; simp)]
theorem impl_nextFrame_eq {k : Nat} {l : List Int} (hl : l.length ≤ 1048576) (hb : ∀ x ∈ l, (Lit.int .u8 x).wf = true) (hk : 10 ≤ k) : impl_nextFrame.f k l = some (nextF l) := by
  obtain ⟨k, rfl⟩ : ∃ m, k = m + 10 := ⟨k - 10, by omega⟩
  have j1 : ∀ k x, 3 < l.length → 5 ≤ tw l → tw l ≤ 125 → impl_nextFrame.j1 (k + 1) l (tw l) x = some (if x = true then (0, [], 0, 3) else if l.length < 5 ∨ (l.length : Int) < tw l then (0, [], 0, 0) else (rd l 4, (l.take (tw l).toNat).drop 5, tw l, 0)) := by
    intro k x h3 h5 h6
    rw [impl_nextFrame.j1]
    cases x
    · simp only [Bool.false_eq_true, if_false, impl_size_byte_eq, Option.bind_some]
      by_cases h4 : (l.length : Int) < tw l
      · rw [if_pos h4, if_pos (Or.inr h4)]
      · have h7 : ¬ (l.length < 5 ∨ (l.length : Int) < tw l) := by omega
        have hr : 0 ≤ rd l 4 ∧ rd l 4 < 256 := rd_byte hb (i := 4) (by omega)
        rw [if_neg h4, if_neg h7, if_pos (by omega), if_pos (by omega), if_pos (by omega), if_pos (by simp; omega), wrap_id (x := rd l 4) (by omega) (by omega), List.nil_append]
    · rfl
  have fin : ∀ k (m : List Int), m.length ≤ l.length → (¬ ((0 < l.length ∧ rd l 0 ≠ 255) ∨ (1 < l.length ∧ rd l 1 ≠ 255))) → impl_nextFrame.l0 (k + 6) l m (m.length : Int) (m.length : Int) = some (nextF l) := by
    intro k m hm hh
    show impl_nextFrame.l0 (k + 5 + 1) l m (m.length : Int) (m.length : Int) = _
    rw [impl_nextFrame.l0, if_neg (by omega)]
    by_cases h4 : l.length < 4
    · have hd : headF l = 0 := by unfold headF; rw [if_neg hh, if_neg (by omega), if_neg (by omega)]
      rw [if_pos (by omega), nextF_ok hd, if_pos (by omega)]
    · have e : (l.take 4).drop 2 = (l.drop 2).take 2 := by rw [List.drop_take]
      have hn : impl_numberOf.f (k + 5) ((l.take 4).drop 2) = some (tw l) := by
        rw [e]
        exact impl_numberOf_eq (by simp; omega) (fun x hx => hb x (List.mem_of_mem_drop (List.mem_of_mem_take hx))) (by simp; omega)
      rw [if_neg (by omega), if_pos (by decide), if_pos (by omega), hn]
      simp only [Option.bind_some]
      rw [impl_in_eq]
      simp only [Option.bind_some]
      by_cases h5 : 5 ≤ tw l ∧ tw l ≤ 125
      · rw [if_pos (inB_iff.2 h5)]
        by_cases h6 : 4 < l.length
        · have hr : 0 ≤ rd l 4 ∧ rd l 4 < 256 := rd_byte hb (i := 4) h6
          rw [if_pos (by omega), if_pos (by omega), wrap_id (x := rd l 4) (by omega) (by omega), impl_in_eq]
          simp only [Option.bind_some]
          rw [j1 _ _ (by omega) h5.1 h5.2]
          by_cases h7 : 1 ≤ rd l 4 ∧ rd l 4 ≤ 4
          · have hd : headF l = 0 := by unfold headF; rw [if_neg hh, if_neg (fun h : 3 < l.length ∧ ¬ (5 ≤ tw l ∧ tw l ≤ 125) => h.2 h5), if_neg (fun h : 4 < l.length ∧ ¬ (1 ≤ rd l 4 ∧ rd l 4 ≤ 4) => h.2 h7)]
            rw [inB_iff.2 h7, nextF_ok hd]; rfl
          · have hB : inB (rd l 4) 1 4 = false := by
              cases h : inB (rd l 4) 1 4
              · rfl
              · exact absurd (inB_iff.1 h) h7
            have hd : headF l = 3 := by unfold headF; rw [if_neg hh, if_neg (fun h : 3 < l.length ∧ ¬ (5 ≤ tw l ∧ tw l ≤ 125) => h.2 h5), if_pos ⟨h6, h7⟩]
            rw [hB, nextF_bad hd (by decide)]; rfl
        · have hd : headF l = 0 := by unfold headF; rw [if_neg hh, if_neg (fun h : 3 < l.length ∧ ¬ (5 ≤ tw l ∧ tw l ≤ 125) => h.2 h5), if_neg (fun h : 4 < l.length ∧ ¬ (1 ≤ rd l 4 ∧ rd l 4 ≤ 4) => h6 h.1)]
          rw [if_neg (by omega), j1 _ _ (by omega) h5.1 h5.2, nextF_ok hd]; rfl
      · have hd : headF l = 2 := by unfold headF; rw [if_neg hh, if_pos ⟨by omega, h5⟩]
        rw [if_neg (fun h => h5 (inB_iff.1 h)), nextF_bad hd (by decide)]
  have bad : ((0 < l.length ∧ rd l 0 ≠ 255) ∨ (1 < l.length ∧ rd l 1 ≠ 255)) → some (0, ([] : List Int), (0 : Int), (1 : Int)) = some (nextF l) := by
    intro hh
    have hd : headF l = 1 := by unfold headF; rw [if_pos hh]
    rw [nextF_bad hd (by decide)]
  unfold impl_nextFrame.f
  match l, fin, bad with
  | [], fin, _ =>
    rw [if_pos (by simp [mn]), if_pos (by simp [mn])]
    exact fin (k + 4) [] (by simp) (by simp)
  | [a], fin, bad =>
    have e : (List.take (mn (([a] : List Int).length : Int) 2).toNat [a]) = [a] := by simp [mn]
    rw [if_pos (by simp [mn]), if_pos (by simp [mn]), e]
    show impl_nextFrame.l0 (k + 9 + 1) [a] [a] 1 0 = _
    rw [impl_nextFrame.l0, if_pos (by decide), if_pos (by decide), if_pos (by simp)]
    by_cases ha : rd [a] 0 = 255
    · rw [if_pos ha, show wrap64 (0 + 1) = 1 by decide +kernel]
      exact fin (k + 3) [a] (by simp) (by simp [ha])
    · rw [if_neg ha]; exact bad (Or.inl ⟨by simp, ha⟩)
  | a :: b :: r, fin, bad =>
    have e : (List.take (mn ((a :: b :: r : List Int).length : Int) 2).toNat (a :: b :: r)) = [a, b] := by
      have : mn ((a :: b :: r : List Int).length : Int) 2 = 2 := by simp [mn]; omega
      rw [this]; rfl
    rw [if_pos (by simp [mn]; split <;> omega), if_pos (by simp [mn]; split <;> omega), e]
    show impl_nextFrame.l0 (k + 9 + 1) (a :: b :: r) [a, b] 2 0 = _
    rw [impl_nextFrame.l0, if_pos (by decide), if_pos (by decide), if_pos (by simp)]
    by_cases ha : rd [a, b] 0 = 255
    · rw [if_pos ha, show wrap64 (0 + 1) = 1 by decide +kernel]
      show impl_nextFrame.l0 (k + 8 + 1) (a :: b :: r) [a, b] 2 1 = _
      rw [impl_nextFrame.l0, if_pos (by decide), if_pos (by decide), if_pos (by simp)]
      by_cases hb1 : rd [a, b] 1 = 255
      · rw [if_pos hb1, show wrap64 (1 + 1) = 2 by decide +kernel]
        exact fin (k + 2) [a, b] (by simp) (by
          have h1 : rd (a :: b :: r) 0 = 255 := ha
          have h2 : rd (a :: b :: r) 1 = 255 := hb1
          simp [h1, h2])
      · rw [if_neg hb1]; exact bad (Or.inr ⟨by simp, hb1⟩)
    · rw [if_neg ha]; exact bad (Or.inl ⟨by simp, ha⟩)
theorem nextF_frame {l : List Int} (hb : ∀ x ∈ l, (Lit.int .u8 x).wf = true) (h : (nextF l).2.2.1 ≠ 0) :
    5 ≤ tw l ∧ tw l ≤ l.length ∧ headF l = 0 ∧ 5 ≤ l.length ∧ nextF l = (rd l 4, (l.take (tw l).toNat).drop 5, tw l, 0) ∧
    packF (rd l 4) ((l.take (tw l).toNat).drop 5) = l.take (tw l).toNat ∧ frameFault (rd l 4) ((l.take (tw l).toNat).drop 5).length = 0 := by
  unfold nextF at h ⊢
  by_cases hd : headF l ≠ 0
  · rw [if_pos hd] at h; exact absurd rfl h
  · rw [if_neg hd] at h ⊢
    by_cases h5 : l.length < 5 ∨ (l.length : Int) < tw l
    · rw [if_pos h5] at h; exact absurd rfl h
    · rw [if_neg h5]
      have hd0 : headF l = 0 := by omega
      have hd' := hd0
      unfold headF at hd0
      by_cases p1 : (0 < l.length ∧ rd l 0 ≠ 255) ∨ (1 < l.length ∧ rd l 1 ≠ 255)
      · rw [if_pos p1] at hd0; exact absurd hd0 (by decide)
      · rw [if_neg p1] at hd0
        by_cases p2 : 3 < l.length ∧ ¬ (5 ≤ tw l ∧ tw l ≤ 125)
        · rw [if_pos p2] at hd0; exact absurd hd0 (by decide)
        · rw [if_neg p2] at hd0
          by_cases p3 : 4 < l.length ∧ ¬ (1 ≤ rd l 4 ∧ rd l 4 ≤ 4)
          · rw [if_pos p3] at hd0; exact absurd hd0 (by decide)
          · have p4 : 5 ≤ tw l ∧ tw l ≤ 125 := by
              apply Decidable.byContradiction; intro q; exact p2 ⟨by omega, q⟩
            have p5 : 1 ≤ rd l 4 ∧ rd l 4 ≤ 4 := by
              apply Decidable.byContradiction; intro q; exact p3 ⟨by omega, q⟩
            have p6 : rd l 0 = 255 := by
              apply Decidable.byContradiction; intro q; exact p1 (Or.inl ⟨by omega, q⟩)
            have p7 : rd l 1 = 255 := by
              apply Decidable.byContradiction; intro q; exact p1 (Or.inr ⟨by omega, q⟩)
            have p8 := tw_eq (l := l) (by omega)
            have b2 : 0 ≤ rd l 2 ∧ rd l 2 < 256 := rd_byte hb (i := 2) (by omega)
            have b3 : 0 ≤ rd l 3 ∧ rd l 3 < 256 := rd_byte hb (i := 3) (by omega)
            refine ⟨p4.1, by omega, hd', by omega, rfl, ?_, ?_⟩
            · generalize ht : tw l = t at *
              obtain ⟨n, rfl⟩ : ∃ n : Nat, t = ((n + 5 : Nat) : Int) := ⟨(t - 5).toNat, by omega⟩
              obtain ⟨a, b, c, d, e, r, rfl⟩ : ∃ a b c d e r, l = a :: b :: c :: d :: e :: r := by
                match l, h5 with
                | a :: b :: c :: d :: e :: r, _ => exact ⟨a, b, c, d, e, r, rfl⟩
                | [], h5 => simp at h5
                | [_], h5 => simp at h5
                | [_, _], h5 => simp at h5
                | [_, _, _], h5 => simp at h5
                | [_, _, _, _], h5 => simp at h5
              have q0 : a = 255 := p6
              have q1 : b = 255 := p7
              have q4 : 1 ≤ e ∧ e ≤ 4 := p5
              have q8 : ((n + 5 : Nat) : Int) = c * 256 + d := p8
              have c2 : 0 ≤ c ∧ c < 256 := b2
              have c3 : 0 ≤ d ∧ d < 256 := b3
              have q9 : n ≤ r.length := by simp at h5; omega
              have e1 : (((n + 5 : Nat) : Int)).toNat = n + 5 := by omega
              rw [e1]
              have e2 : List.take (n + 5) (a :: b :: c :: d :: e :: r) = a :: b :: c :: d :: e :: r.take n := rfl
              rw [e2]
              show packF e (r.take n) = _
              have e3 : (r.take n).length = n := by simp; omega
              unfold packF two
              rw [e3]
              have f1 : (5 + (n : Int)) / 256 % 256 = c := by omega
              have f2 : (5 + (n : Int)) % 256 = d := by omega
              have f3 : e % 256 = e := by omega
              rw [f1, f2, f3, q0, q1]; rfl
            · have hlen : ((l.take (tw l).toNat).drop 5).length ≤ 120 := by simp; omega
              unfold frameFault
              rw [if_pos (inB_iff.2 p5), if_neg (by omega)]
theorem impl_split_step {k : Nat} {l : List Int} (hl : l.length ≤ 1048576) (hb : ∀ x ∈ l, (Lit.int .u8 x).wf = true) (hk : 10 ≤ k) {u : Nat} (hu : u ≤ l.length) {fs : List S26} (hf : fs.length ≤ 1048576) :
    impl_SplitFrames.l0 (k + 1) l 0 (u : Int) fs = (if (nextF (l.drop u)).2.2.1 = 0 then some ((nextF (l.drop u)).2.2.2, (u : Int), fs) else impl_SplitFrames.l0 k l 0 ((u : Int) + tw (l.drop u)) (fs ++ [⟨(nextF (l.drop u)).1, (nextF (l.drop u)).2.1⟩])) := by
  have hb' : ∀ x ∈ l.drop u, (Lit.int .u8 x).wf = true := fun x hx => hb x (List.mem_of_mem_drop hx)
  have hl' : (l.drop u).length ≤ 1048576 := by simp; omega
  have hun : (l.drop u).length = l.length - u := by simp
  rw [impl_SplitFrames.l0, if_pos (by omega), if_pos (by omega)]
  simp only [Int.toNat_natCast]
  rw [impl_nextFrame_eq hl' hb' hk]
  simp only [Option.bind_some]
  by_cases h : (nextF (l.drop u)).2.2.1 = 0
  · rw [if_pos h, if_pos h]
  · have hn := nextF_frame hb' h
    rw [if_neg h, if_neg h, if_pos (by omega)]
    have e : (nextF (l.drop u)).2.2.1 = tw (l.drop u) := by rw [hn.2.2.2.2.1]
    rw [e, wrap_id (by omega) (by omega)]
def goodF (g : S26) : Prop := frameFault g.f0 g.f1.length = 0 ∧ ∀ x ∈ g.f1, (Lit.int .u8 x).wf = true
def flatF (gs : List S26) : List Int := (gs.map (fun g => packF g.f0 g.f1)).flatten
theorem flatF_cons (g : S26) (gs : List S26) : flatF (g :: gs) = packF g.f0 g.f1 ++ flatF gs := rfl
theorem frame_ok {a : Int} {n : Nat} (h : frameFault a n = 0) : (1 ≤ a ∧ a ≤ 4) ∧ n ≤ 120 := by
  unfold frameFault at h
  by_cases h1 : inB a 1 4 = true
  · rw [if_pos h1] at h
    refine ⟨inB_iff.1 h1, ?_⟩
    by_cases h2 : (n : Int) > 120
    · rw [if_pos h2] at h; exact absurd h (by decide)
    · omega
  · rw [if_neg h1] at h; exact absurd h (by decide)
theorem packF_form (a : Int) (l : List Int) : packF a l = 255 :: 255 :: ((5 + (l.length : Int)) / 256 % 256) :: ((5 + (l.length : Int)) % 256) :: (a % 256) :: l := rfl
theorem nextF_good {a : Int} {b rest : List Int} (h : frameFault a b.length = 0) : nextF (packF a b ++ rest) = (a, b, ((5 + b.length : Nat) : Int), 0) ∧ tw (packF a b ++ rest) = ((5 + b.length : Nat) : Int) := by
  obtain ⟨⟨h1, h2⟩, h3⟩ := frame_ok h
  have hl : (packF a b ++ rest).length = 5 + b.length + rest.length := by rw [List.length_append, packF_length]
  have ht : tw (packF a b ++ rest) = ((5 + b.length : Nat) : Int) := by
    rw [tw_eq (by omega), packF_form]
    show ((5 + (b.length : Int)) / 256 % 256) * 256 + ((5 + (b.length : Int)) % 256) = _
    omega
  have e4 : rd (packF a b ++ rest) 4 = a := by
    rw [packF_form]
    show a % 256 = a
    omega
  have hh : headF (packF a b ++ rest) = 0 := by
    unfold headF
    rw [ht, e4, if_neg, if_neg, if_neg]
    · intro q; omega
    · intro q; omega
    · intro q
      rcases q with q | q
      · exact q.2 rfl
      · exact q.2 rfl
  refine ⟨?_, ht⟩
  rw [nextF_ok hh, ht, e4, if_neg (by omega), Int.toNat_natCast]
  have e : ((packF a b ++ rest).take (5 + b.length)).drop 5 = b := by
    have e0 : (packF a b ++ rest).take (5 + b.length) = packF a b := by
      rw [← packF_length a b, List.take_left']
      rfl
    rw [e0]; rfl
  rw [e]
theorem nextF_cut {a : Int} {b : List Int} (h : frameFault a b.length = 0) {m : Nat} (hm : m < 5 + b.length) : nextF ((packF a b).take m) = (0, [], 0, 0) := by
  obtain ⟨⟨h1, h2⟩, h3⟩ := frame_ok h
  have hl : ((packF a b).take m).length = m := by rw [List.length_take, packF_length]; omega
  have hh : ∀ {l : List Int}, l = (packF a b).take m → headF l = 0 ∧ (4 ≤ m → tw l = ((5 + b.length : Nat) : Int)) := by
    intro l e
    rw [packF_form] at e
    match m, e with
    | 0, e => subst e; exact ⟨rfl, fun q => absurd q (by omega)⟩
    | 1, e => subst e; exact ⟨rfl, fun q => absurd q (by omega)⟩
    | 2, e => subst e; exact ⟨rfl, fun q => absurd q (by omega)⟩
    | 3, e => subst e; exact ⟨rfl, fun q => absurd q (by omega)⟩
    | 4, e =>
      have ht : tw l = ((5 + b.length : Nat) : Int) := by
        subst e
        rw [tw_eq (by simp)]
        show ((5 + (b.length : Int)) / 256 % 256) * 256 + ((5 + (b.length : Int)) % 256) = _
        omega
      refine ⟨?_, fun _ => ht⟩
      have hll : l.length = 4 := by subst e; simp
      have r0 : rd l 0 = 255 := by subst e; rfl
      have r1 : rd l 1 = 255 := by subst e; rfl
      unfold headF
      rw [ht, r0, r1, hll, if_neg (by omega), if_neg (by omega), if_neg (by omega)]
    | m + 5, e =>
      have e2 : l = 255 :: 255 :: ((5 + (b.length : Int)) / 256 % 256) :: ((5 + (b.length : Int)) % 256) :: (a % 256) :: b.take m := e
      have ht : tw l = ((5 + b.length : Nat) : Int) := by
        subst e2
        rw [tw_eq (by simp)]
        show ((5 + (b.length : Int)) / 256 % 256) * 256 + ((5 + (b.length : Int)) % 256) = _
        omega
      refine ⟨?_, fun _ => ht⟩
      have r0 : rd l 0 = 255 := by subst e2; rfl
      have r1 : rd l 1 = 255 := by subst e2; rfl
      have r4 : rd l 4 = a := by subst e2; show a % 256 = a; omega
      unfold headF
      rw [ht, r0, r1, r4, if_neg (by omega), if_neg (by omega), if_neg (by omega)]
  obtain ⟨h4, h5⟩ := hh rfl
  rw [nextF_ok h4, hl]
  by_cases q : m < 5
  · rw [if_pos (Or.inl q)]
  · rw [h5 (by omega), if_pos (Or.inr (by omega))]
theorem goodF_bytes {gs : List S26} (hg : ∀ g ∈ gs, goodF g) : ∀ x ∈ flatF gs, (Lit.int .u8 x).wf = true := by
  intro x hx
  unfold flatF at hx
  rw [List.mem_flatten] at hx
  obtain ⟨l, hl, hx⟩ := hx
  obtain ⟨g, h1, rfl⟩ := List.mem_map.1 hl
  have hw := (hg g h1).2
  simp only [packF, two, List.mem_append, List.mem_cons, List.not_mem_nil, or_false] at hx
  rcases hx with ((h | h) | h) | h
  · rcases h with h | h <;> rw [h] <;> exact u8_mod 255
  · rcases h with h | h <;> rw [h] <;> exact u8_mod _
  · rw [h]; exact u8_mod _
  · exact hw x h
theorem split_good {l : List Int} (hl : l.length ≤ 1048576) (hb : ∀ x ∈ l, (Lit.int .u8 x).wf = true) : ∀ (gs : List S26) (u m : Nat) (fs : List S26), (∀ g ∈ gs, goodF g) → u ≤ l.length → l.drop u = (flatF gs).take m → fs.length + gs.length ≤ 1048576 →
    ∃ (j v : Nat), (∀ k, gs.length + 12 ≤ k → impl_SplitFrames.l0 k l 0 (u : Int) fs = some (0, (v : Int), fs ++ gs.take j)) ∧ u ≤ v ∧ v ≤ l.length ∧ j ≤ gs.length ∧ ((flatF gs).length ≤ m → j = gs.length ∧ v = l.length) := by
  intro gs
  induction gs with
  | nil =>
    intro u m fs hg hu hd hf
    have e : l.drop u = [] := by rw [hd]; exact List.take_nil
    have hn : nextF (l.drop u) = (0, [], 0, 0) := by rw [e]; rfl
    have hlen : l.length - u = 0 := by rw [← List.length_drop, e]; rfl
    refine ⟨0, u, fun k hk => ?_, Nat.le_refl _, hu, Nat.le_refl _, fun _ => ⟨rfl, by omega⟩⟩
    obtain ⟨k, rfl⟩ : ∃ m, k = m + 1 := ⟨k - 1, by omega⟩
    have hf' : fs.length ≤ 1048576 := by omega
    have hk' : 10 ≤ k := by simp at hk; omega
    rw [impl_split_step hl hb hk' hu hf', hn, if_pos rfl, List.take_zero, List.append_nil]
  | cons g gs ih =>
    intro u m fs hg hu hd hf
    have g1 := hg g (by simp)
    have hlen : l.length - u = ((flatF (g :: gs)).take m).length := by rw [← List.length_drop, hd]
    rw [flatF_cons, List.length_take, List.length_append, packF_length] at hlen
    simp only [List.length_cons] at hf
    by_cases hm : m < 5 + g.f1.length
    · have hn : nextF (l.drop u) = (0, [], 0, 0) := by
        rw [hd, flatF_cons, List.take_append_of_le_length (by rw [packF_length]; omega)]
        exact nextF_cut g1.1 hm
      refine ⟨0, u, fun k hk => ?_, Nat.le_refl _, hu, Nat.zero_le _, fun q => ?_⟩
      · obtain ⟨k, rfl⟩ : ∃ m, k = m + 1 := ⟨k - 1, by omega⟩
        have hf' : fs.length ≤ 1048576 := by omega
        have hk' : 10 ≤ k := by simp at hk; omega
        rw [impl_split_step hl hb hk' hu hf', hn, if_pos rfl, List.take_zero, List.append_nil]
      · rw [flatF_cons, List.length_append, packF_length] at q
        omega
    · have ed : l.drop u = packF g.f0 g.f1 ++ (flatF gs).take (m - (5 + g.f1.length)) := by
        rw [hd, flatF_cons, List.take_append, packF_length, List.take_of_length_le (by rw [packF_length]; omega)]
      obtain ⟨hn, ht⟩ := nextF_good (rest := (flatF gs).take (m - (5 + g.f1.length))) g1.1
      have hu2 : u + (5 + g.f1.length) ≤ l.length := by omega
      have ed2 : l.drop (u + (5 + g.f1.length)) = (flatF gs).take (m - (5 + g.f1.length)) := by
        rw [← List.drop_drop, ed, ← packF_length g.f0 g.f1, List.drop_left]
      obtain ⟨j, v, s1, s2, s3, s4, s5⟩ := ih (u + (5 + g.f1.length)) (m - (5 + g.f1.length)) (fs ++ [g]) (fun x hx => hg x (by simp [hx])) hu2 ed2 (by simp; omega)
      refine ⟨j + 1, v, fun k hk => ?_, by omega, s3, by simp; omega, fun q => ?_⟩
      · obtain ⟨k, rfl⟩ : ∃ m, k = m + 1 := ⟨k - 1, by omega⟩
        have hf' : fs.length ≤ 1048576 := by omega
        have hk' : 10 ≤ k := by simp at hk; omega
        have hk2 : gs.length + 12 ≤ k := by simp at hk; omega
        have hz : ¬ ((5 + g.f1.length : Nat) : Int) = 0 := by omega
        rw [impl_split_step hl hb hk' hu hf', ed, hn, ht, if_neg hz, show (u : Int) + ((5 + g.f1.length : Nat) : Int) = ((u + (5 + g.f1.length) : Nat) : Int) from by omega]
        have e := s1 k hk2
        rw [List.append_assoc] at e
        exact e
      · rw [flatF_cons, List.length_append, packF_length] at q
        have := s5 (by omega)
        exact ⟨by rw [this.1]; rfl, this.2⟩
theorem laws_FnFrames_l1 {gs : List S26} {j : Nat} {u v : Int} (hn : gs.length ≤ 1000) {k : Nat} (hk : 2000 ≤ k) : laws_FnFrames.l1 k gs 0 0 u gs 0 v (gs.take j) = some true := by
  have key : ∀ (d i : Nat) (k : Nat), i + d = gs.length → d + 10 ≤ k → laws_FnFrames.l1 k gs (i : Int) 0 u gs 0 v (gs.take j) = some true := by
    intro d
    induction d with
    | zero =>
      intro i k hi hk
      obtain ⟨k, rfl⟩ : ∃ m, k = m + 1 := ⟨k - 1, by omega⟩
      rw [laws_FnFrames.l1, if_neg (by omega)]
    | succ d ih =>
      intro i k hi hk
      obtain ⟨k, rfl⟩ : ∃ m, k = m + 1 := ⟨k - 1, by omega⟩
      have hlt : i < gs.length := by omega
      rw [laws_FnFrames.l1, if_pos (by omega), if_pos (by omega), if_pos (by omega), if_pos rfl, if_pos rfl, wrap_succ (by omega), ih (i + 1) k (by omega) (by omega)]
      by_cases h : (i : Int) < ((gs.take j).length : Int)
      · have hj : i < (gs.take j).length := by omega
        have e : rd_T26 (gs.take j) (i : Int) = rd_T26 gs (i : Int) := by
          have e1 : rd_T26 (gs.take j) (i : Int) = (gs.take j)[i] := getD_nat hj
          have e2 : rd_T26 gs (i : Int) = gs[i] := getD_nat hlt
          rw [e1, e2, List.getElem_take]
        rw [if_pos h, e, if_pos rfl]
      · rw [if_neg h]
  have := key gs.length 0 k (by omega) (by omega)
  simpa using this
theorem laws_FnFrames_end {c : List Int} (hc : ∀ x ∈ c, (Lit.int .u8 x).wf = true) (hl : c.length ≤ 1048576) {gs : List S26} (hg : ∀ g ∈ gs, goodF g) (hn : gs.length ≤ 3) (hf : (flatF gs).length ≤ 375) {k : Nat} (hk : 4000 ≤ k) :
    laws_FnFrames.l0 k c (flatF gs) gs 3 = some true := by
  obtain ⟨k, rfl⟩ : ∃ m, k = m + 1 := ⟨k - 1, by omega⟩
  have hb := goodF_bytes hg
  obtain ⟨t, h1, t0, t1⟩ := laws_lwAt_ex hc (show c.length ≤ 1048580 by omega) (i := 1) (n := (((flatF gs).length + 1 : Nat) : Int)) (by omega) (by omega) (by omega)
  have t2 := t1 (by omega)
  obtain ⟨m, rfl⟩ := Int.eq_ofNat_of_zero_le t0
  obtain ⟨j1, v1, a1, a2, a3, a4, a5⟩ := split_good (l := flatF gs) (by omega) hb gs 0 (flatF gs).length [] hg (by omega) (by rw [List.take_length]; rfl) (by simp; omega)
  obtain ⟨rfl, rfl⟩ := a5 (Nat.le_refl _)
  have hml : ((flatF gs).take m).length = m := by rw [List.length_take]; omega
  obtain ⟨j2, v2, b1, b2, b3, b4, _⟩ := split_good (l := (flatF gs).take m) (by omega) (fun x hx => hb x (List.mem_of_mem_take hx)) gs 0 m [] hg (by omega) rfl (by simp; omega)
  have f1 : impl_SplitFrames.f k (flatF gs) = some (0, ((flatF gs).length : Int), gs) := by
    unfold impl_SplitFrames.f
    rw [if_neg (by omega)]
    have := a1 k (by omega)
    rw [List.nil_append, List.take_length] at this
    exact this
  have f2 : impl_SplitFrames.f k ((flatF gs).take m) = some (0, (v2 : Int), gs.take j2) := by
    unfold impl_SplitFrames.f
    rw [if_neg (by omega)]
    have := b1 k (by omega)
    rw [List.nil_append] at this
    exact this
  rw [laws_FnFrames.l0, if_neg (by decide), wrap_succ (by omega), h1]
  simp only [Option.bind_some, Int.toNat_natCast, f1, f2]
  have hj : (gs.take j2).length ≤ gs.length := by rw [List.length_take]; omega
  have hd : decide (((gs.take j2).length : Int) > (gs.length : Int)) = false := decide_eq_false (by omega)
  rw [if_pos (by omega), if_pos (by omega), if_pos trivial, if_pos trivial, if_pos trivial, if_pos trivial, if_neg (by omega), hd]
  obtain ⟨k, rfl⟩ : ∃ m, k = m + 1 := ⟨k - 1, by omega⟩
  rw [laws_FnFrames.j1, if_neg (by decide)]
  exact laws_FnFrames_l1 (by omega) (by omega)
theorem laws_FnFrames_step {c : List Int} (hc : ∀ x ∈ c, (Lit.int .u8 x).wf = true) (hl : c.length ≤ 1048576) {gs : List S26} (hg : ∀ g ∈ gs, goodF g) {i : Nat} (hi : i < 3) (hn : gs.length ≤ i) (hf : (flatF gs).length ≤ 125 * i) {k : Nat} (hk : 4000 ≤ k) :
    ∃ gs' : List S26, (∀ g ∈ gs', goodF g) ∧ gs'.length ≤ i + 1 ∧ (flatF gs').length ≤ 125 * (i + 1) ∧ laws_FnFrames.l0 (k + 1) c (flatF gs) gs (i : Int) = laws_FnFrames.l0 k c (flatF gs') gs' ((i + 1 : Nat) : Int) := by
  have hc' : ∀ x ∈ ([(i : Int)] ++ c), (Lit.int .u8 x).wf = true := by
    intro x hx
    rcases List.mem_append.1 hx with h | h
    · rw [List.mem_singleton.1 h, show (i : Int) = (i : Int) % 256 by omega]; exact u8_mod _
    · exact hc x h
  obtain ⟨t, bs, h1, b1, b2⟩ := spec_DrawPackFrame_ex hc' (by simp; omega) (k := k) (by omega)
  have e5 : ((i : Int) + 1) % 256 = ((i + 1 : Nat) : Int) := by omega
  rw [laws_FnFrames.l0, if_pos (by omega)]
  simp only [Option.bind_some]
  rw [if_pos (by simp; omega), h1]
  simp only [Option.bind_some]
  rw [impl_PackFrame_eq (by omega)]
  simp only [Option.bind_some]
  by_cases h0 : frameFault t bs.length = 0
  · have hp := packF_length t bs
    have hb := (frame_ok h0).2
    have hg' : goodF (⟨t, bs⟩ : S26) := ⟨h0, b2⟩
    have ef : flatF (gs ++ [(⟨t, bs⟩ : S26)]) = flatF gs ++ packF t bs := by
      unfold flatF
      rw [List.map_append, List.flatten_append]
      simp
    refine ⟨gs ++ [⟨t, bs⟩], fun g hm => ?_, by simp; omega, by rw [ef, List.length_append, hp]; omega, ?_⟩
    · rcases List.mem_append.1 hm with h | h
      · exact hg g h
      · rw [List.mem_singleton.1 h]; exact hg'
    · rw [if_pos h0]
      simp only []
      rw [if_pos trivial, if_pos (by omega), if_pos (by omega), e5, ef]
  · refine ⟨gs, hg, by omega, by omega, ?_⟩
    rw [if_neg h0]
    simp only []
    rw [if_neg h0, impl_FrameFault_eq, spec_FrameFault_eq]
    simp only [Option.bind_some]
    rw [if_pos trivial, if_pos trivial, e5]
theorem FnFrames (l0 : List Int)
    (w0 : (l0.length ≤ maxLen ∧ ∀ z1 ∈ l0, (Lit.int .u8 z1).wf = true)) :
    ∃ k, laws_FnFrames.f k l0 = some true := by
  refine ⟨10000, ?_⟩
  unfold laws_FnFrames.f
  simp only [laws_lwBig_eq, Option.bind_some]
  by_cases hL : (l0.length : Int) > 1048576
  · rw [if_pos (decide_eq_true hL)]
  · rw [if_neg (by simpa using hL)]
    have hl : l0.length ≤ 1048576 := by omega
    obtain ⟨g1, a1, a2, a3, a4⟩ := laws_FnFrames_step w0.2 hl (gs := []) (by simp) (i := 0) (by decide) (by simp) (by simp [flatF]) (k := 9999) (by decide)
    obtain ⟨g2, b1, b2, b3, b4⟩ := laws_FnFrames_step w0.2 hl a1 (i := 1) (by decide) a2 a3 (k := 9998) (by decide)
    obtain ⟨g3, c1, c2, c3, c4⟩ := laws_FnFrames_step w0.2 hl b1 (i := 2) (by decide) b2 b3 (k := 9997) (by decide)
    refine a4.trans (b4.trans (c4.trans ?_))
    exact laws_FnFrames_end w0.2 hl c1 c2 c3 (by decide)
end Go.Proofs.Ytifkoddiodgfpaa.Pure
