/- The pure part of the law FnExactNumberAt: what the printed functions compute, in closed form, and that the law's answer is true. -/
import Derived.Test.YtbahoffaamccoaaPFnExactNumberAtx1
import Derived.Test.YtbahoffaamccoaaPFnExactNumberAtx2
import Derived.Test.YtbahoffaamccoaaBase
namespace Go.Proofs.Ytbahoffaamccoaa.Pure
open Go.RowKit Go.Proofs.Ytbahoffaamccoaa.PFnExactNumberAt Go.Proofs.YtbahoffaamccoaaW.PrintWords Go.Proofs.YtbahoffaamccoaaW.PrintLast Go.Proofs.YtbahoffaamccoaaW.PrintMore Go.Proofs.Ytbahoffaamccoaa.B
set_option linter.unusedVariables false
set_option linter.unusedSimpArgs false

theorem laws_toByteS_eq {k : Nat} {l : List Int} (hl : l.length ≤ 1048576) (hk : l.length < k) : laws_toByteS.f k l = some l := by
  unfold laws_toByteS.f
  rw [if_pos (by omega), if_pos (by omega)]
  have h := set_loop (L := fun k acc i => laws_toByteS.l0 k l acc i) (xs := l) (f := fun x => x) (B := 0) (k := k) (acc := List.replicate ((l.length : Int)).toNat 0)
    (fun k i acc h _ ha => by
      simp only [laws_toByteS.l0]
      rw [if_pos (by omega), if_pos (by omega), if_pos (by omega), rd_nat h, wrap_succ (by omega)]
      simp)
    (fun k acc _ => by simp only [laws_toByteS.l0]; rw [if_neg (by omega)]) (by simp) (by omega)
  simpa using h

theorem laws_eqByteS_refl {k : Nat} {l : List Int} (hl : l.length ≤ 1048576) (hk : l.length < k) : laws_eqByteS.f k l l = some true := by
  unfold laws_eqByteS.f
  rw [if_pos rfl]
  exact all_loop (L := fun k i => laws_eqByteS.l0 k l l i) (n := l.length) (B := 0)
    (fun k i h _ => by
      simp only [laws_eqByteS.l0]
      rw [if_pos (by omega), if_pos (by omega), if_pos (by omega)]
      simp only [if_true]
      rw [wrap_succ (by omega)])
    (fun k => by simp only [laws_eqByteS.l0]; rw [if_neg (by omega)]) (by omega)

theorem spec_l1In_eq (n lo hi : Int) : spec_l1In.f n lo hi = some (inB n lo hi) := inB_eq n lo hi

theorem spec_l1Take_eq {k : Nat} {l : List Int} {a m : Nat} (hm : m ≤ 5) (ha : a + m ≤ l.length) (hl : l.length ≤ 1048576) (hb : ∀ x ∈ l, (Lit.int .u8 x).wf = true) (hk : m < k) : spec_l1Take.f k l (a : Int) (m : Int) = some (numOf ((l.drop a).take m)) := by
  have hlen : ((l.drop a).take m).length = m := by simp; omega
  unfold spec_l1Take.f numOf
  refine Eq.trans ?_ (congrArg some (run_foldl (fun n b => n * 256 + b) id ((l.drop a).take m) 0 0))
  exact run_loop (L := fun k s i => spec_l1Take.l0 k l (a : Int) (m : Int) s i) (fun i s => 0 ≤ s ∧ s < ((256 ^ i : Nat) : Int)) (B := 0)
    (fun k i s h _ hi => by
      rw [hlen] at h
      have hq : a + i < l.length := by omega
      have he : ((l.drop a).take m)[i]'(by rw [hlen]; exact h) = l[a + i] := by simp
      have hx := u8_wf (hb _ (List.getElem_mem hq))
      have hs1 := (numOf_step (by omega) hi.1 hi.2 hx.1 hx.2).2.2
      have hs0 := hi.1
      clear hi
      have hw : wrap64 ((a : Int) + (i : Int)) = ((a + i : Nat) : Int) := by rw [wrap_id (by omega) (by omega)]; omega
      simp only [spec_l1Take.l0, hw]
      clear hw
      rw [if_pos (by omega), if_pos (by omega), if_pos (by omega), rd_nat hq, take_wrap hs0 hs1 hx.1 hx.2, wrap_succ (by omega), he])
    (fun i s s' h hi e => by
      rw [hlen] at h
      have hq : a + i < l.length := by omega
      have he : ((l.drop a).take m)[i]'(by rw [hlen]; exact h) = l[a + i] := by simp
      have hx := u8_wf (hb _ (List.getElem_mem hq))
      have hst := numOf_step (by omega) hi.1 hi.2 hx.1 hx.2
      injection e with e
      rw [he] at e
      exact e ▸ ⟨hst.1, hst.2.1⟩)
    (fun k s _ => by simp only [spec_l1Take.l0]; rw [hlen, if_neg (by omega)]; rfl) ⟨by decide, by decide⟩ (by omega)

theorem spec_NumberAt_eq {k : Nat} {l : List Int} (hl : l.length ≤ 1048576) (hb : ∀ x ∈ l, (Lit.int .u8 x).wf = true) {a m : Int} (ha : -9223372036854775808 ≤ a ∧ a ≤ 9223372036854775807) (hk : 5 < k) :
    spec_NumberAt.f k l a m = some (if inB m 1 4 = true then (if inB a 0 ((l.length : Int) - m) = true then (0, numOf ((l.drop a.toNat).take m.toNat)) else (3, 0)) else (3, 0)) := by
  simp only [spec_NumberAt.f, spec_l1In_eq, Option.bind_some]
  by_cases h1 : inB m 1 4 = true
  · have h2 := inB_iff.1 h1
    rw [if_pos h1, if_pos h1, wrap_id (by omega) (by omega)]
    by_cases h3 : inB a 0 ((l.length : Int) - m) = true
    · have h4 := inB_iff.1 h3
      rw [if_pos h3, if_pos h3]
      have h5 := spec_l1Take_eq (k := k) (l := l) (a := a.toNat) (m := m.toNat) (by omega) (by omega) hl hb (by omega)
      rw [Int.toNat_of_nonneg h4.1, Int.toNat_of_nonneg (by omega)] at h5
      rw [h5]; rfl
    · rw [if_neg h3, if_neg h3]
  · rw [if_neg h1, if_neg h1]

theorem impl_in_eq (n lo hi : Int) : impl_in.f n lo hi = some (inB n lo hi) := inB_eq n lo hi

theorem impl_size_byte_eq (l : List Int) : impl_size_byte.f l = some (l.length : Int) := rfl

theorem impl_numberOf_eq {k : Nat} {l : List Int} (hl : l.length ≤ 5) (hb : ∀ x ∈ l, (Lit.int .u8 x).wf = true) (hk : l.length < k) : impl_numberOf.f k l = some (numOf l) := by
  unfold impl_numberOf.f numOf
  refine Eq.trans ?_ (congrArg some (run_foldl (fun n b => n * 256 + b) id l 0 0))
  exact run_loop (L := fun k s i => impl_numberOf.l0 k s l (l.length : Int) i) (fun i s => 0 ≤ s ∧ s < ((256 ^ i : Nat) : Int)) (B := 0)
    (fun k i s h _ hi => by
      have hx := u8_wf (hb _ (List.getElem_mem h))
      have hst := numOf_step (by omega) hi.1 hi.2 hx.1 hx.2
      simp only [impl_numberOf.l0]
      rw [if_pos (by omega), if_pos (by omega), if_pos (by omega), rd_nat h, or_wrap hi.1 hst.2.2 hx.1 hx.2, wrap_succ (by omega)])
    (fun i s s' h hi e => by
      have hx := u8_wf (hb _ (List.getElem_mem h))
      have hst := numOf_step (by omega) hi.1 hi.2 hx.1 hx.2
      injection e with e
      exact e ▸ ⟨hst.1, hst.2.1⟩)
    (fun k s _ => by simp only [impl_numberOf.l0]; rw [if_neg (by omega)]; rfl) ⟨by decide, by decide⟩ (by omega)

theorem impl_NumberAt_eq {k : Nat} {l : List Int} (hl : l.length ≤ 1048576) (hb : ∀ x ∈ l, (Lit.int .u8 x).wf = true) {a m : Int} (ha : -9223372036854775808 ≤ a ∧ a ≤ 9223372036854775807) (hk : 5 < k) :
    impl_NumberAt.f k l a m = some (if inB m 1 4 = true then (if inB a 0 ((l.length : Int) - m) = true then (0, numOf ((l.drop a.toNat).take m.toNat)) else (3, 0)) else (3, 0)) := by
  simp only [impl_NumberAt.f, impl_in_eq, impl_size_byte_eq, Option.bind_some]
  by_cases h1 : inB m 1 4 = true
  · have h2 := inB_iff.1 h1
    rw [if_pos h1, if_pos h1, wrap_id (x := (l.length : Int) - m) (by omega) (by omega)]
    by_cases h3 : inB a 0 ((l.length : Int) - m) = true
    · have h4 := inB_iff.1 h3
      rw [if_pos h3, if_pos h3, wrap_id (x := a + m) (by omega) (by omega), if_pos (by omega), if_pos (by omega), if_pos (by omega)]
      have h6 : (l.take (a + m).toNat).drop a.toNat = (l.drop a.toNat).take m.toNat := by
        rw [List.drop_take]; congr 1; omega
      rw [h6, impl_numberOf_eq (by simp; omega) (fun x hx => hb x (List.mem_of_mem_drop (List.mem_of_mem_take hx))) (by simp; omega)]; rfl
    · rw [if_neg h3, if_neg h3]
  · rw [if_neg h1, if_neg h1]

theorem laws_eqIntResult_refl (a b : Int) : laws_eqIntResult.f a b a b = some true := by
  simp only [laws_eqIntResult.f, if_true]

theorem FnExactNumberAt (l0 : List Int) (a1 : Int) (a2 : Int)
    (w0 : (l0.length ≤ maxLen ∧ ∀ z1 ∈ l0, (Lit.int .u8 z1).wf = true)) (w1 : (Lit.int .i64 a1).wf = true) (w2 : (Lit.int .i64 a2).wf = true) :
    ∃ k, laws_FnExactNumberAt.f k l0 a1 a2 = some true := by
  refine ⟨2000000, ?_⟩
  unfold laws_FnExactNumberAt.f
  by_cases hL : (l0.length : Int) > 1048576
  · rw [if_pos hL]
  · rw [if_neg hL]
    have h1 : l0.length ≤ 1048576 := by omega
    have h2 : l0.length < 2000000 := by omega
    simp only [laws_toByteS_eq h1 h2, laws_eqByteS_refl h1 h2, spec_NumberAt_eq h1 w0.2 (i64_wf w1) (show 5 < 2000000 by decide), impl_NumberAt_eq h1 w0.2 (i64_wf w1) (show 5 < 2000000 by decide), laws_eqIntResult_refl, Option.bind_some, if_true]
end Go.Proofs.Ytbahoffaamccoaa.Pure
