/- The pure part of the law FnExactSumBytes: what the printed functions compute, in closed form, and that the law's answer is true. -/
import Derived.Test.YtbahoffaamccoaaPFnExactSumBytesx1
import Derived.Test.YtbahoffaamccoaaBase
namespace Go.Proofs.Ytbahoffaamccoaa.Pure
open Go.RowKit Go.Proofs.Ytbahoffaamccoaa.PFnExactSumBytes Go.Proofs.YtbahoffaamccoaaW.PrintWords Go.Proofs.YtbahoffaamccoaaW.PrintLast Go.Proofs.YtbahoffaamccoaaW.PrintMore Go.Proofs.Ytbahoffaamccoaa.B
set_option linter.unusedVariables false
set_option linter.unusedSimpArgs false

theorem spec_SumBytes_eq {k : Nat} {l : List Int} (hl : l.length ≤ 1048576) (hb : ∀ x ∈ l, (Lit.int .u8 x).wf = true) (hk : l.length < k) : spec_SumBytes.f k l = some (sumOf l) := by
  unfold spec_SumBytes.f sumOf
  refine Eq.trans ?_ (congrArg some (run_foldl (fun h b => (h * 257 + b + 1) % 65521) id l 0 7))
  exact run_loop (L := fun k s i => spec_SumBytes.l0 k l s i) (fun _ s => 0 ≤ s ∧ s < 65521) (B := 0)
    (fun k i s h _ hi => by
      have hx := u8_wf (hb _ (List.getElem_mem h))
      simp only [spec_SumBytes.l0]
      rw [if_pos (by omega), if_pos (by omega), rd_nat h, sumOf_step hi.1 hi.2 hx.1 hx.2, wrap_succ (by omega)])
    (fun i s s' h hi e => by
      injection e with e
      exact e ▸ ⟨Int.emod_nonneg _ (by decide), Int.emod_lt_of_pos _ (by decide)⟩)
    (fun k s _ => by simp only [spec_SumBytes.l0]; rw [if_neg (by omega)]; rfl) ⟨by decide, by decide⟩ (by omega)

theorem laws_toByteS_eq {k : Nat} {l : List Int} (hl : l.length ≤ 1048576) (hk : l.length < k) : laws_toByteS.f k l = some l := by
  unfold laws_toByteS.f
  rw [if_pos (by omega), if_pos (by omega)]
  have h := set_loop (L := fun k acc i => laws_toByteS.l0 k l acc i) (xs := l) (f := fun x => x) (B := 0) (k := k) (acc := List.replicate ((l.length : Int)).toNat 0)
    (fun k i acc h _ ha => by
      simp only [laws_toByteS.l0]
      rw [if_pos (by omega), if_pos (by omega), if_pos (by omega), rd_nat h, wrap_succ (by omega)]
      simp)
    (fun k acc _ => by simp only [laws_toByteS.l0]; rw [if_neg (by omega)]) (by simp) (by omega)
  simpa using h

theorem impl_SumBytes_eq {k : Nat} {l : List Int} (hl : l.length ≤ 1048576) (hb : ∀ x ∈ l, (Lit.int .u8 x).wf = true) (hk : l.length < k) : impl_SumBytes.f k l = some (sumOf l) := by
  unfold impl_SumBytes.f sumOf
  refine Eq.trans ?_ (congrArg some (run_foldl (fun h b => (h * 257 + b + 1) % 65521) id l 0 7))
  exact run_loop (L := fun k s i => impl_SumBytes.l0 k s l (l.length : Int) i) (fun _ s => 0 ≤ s ∧ s < 65521) (B := 0)
    (fun k i s h _ hi => by
      have hx := u8_wf (hb _ (List.getElem_mem h))
      simp only [impl_SumBytes.l0]
      rw [if_pos (by omega), if_pos (by omega), if_pos (by omega), rd_nat h, sumOf_step hi.1 hi.2 hx.1 hx.2, wrap_succ (by omega)])
    (fun i s s' h hi e => by
      injection e with e
      exact e ▸ ⟨Int.emod_nonneg _ (by decide), Int.emod_lt_of_pos _ (by decide)⟩)
    (fun k s _ => by simp only [impl_SumBytes.l0]; rw [if_neg (by omega)]; rfl) ⟨by decide, by decide⟩ (by omega)

theorem laws_eqByteS_refl {k : Nat} {l : List Int} (hl : l.length ≤ 1048576) (hk : l.length < k) : laws_eqByteS.f k l l = some true := by
  unfold laws_eqByteS.f
  rw [if_pos rfl]
  exact all_loop (L := fun k i => laws_eqByteS.l0 k l l i) (n := l.length) (B := 0)
    (fun k i h _ => by
      simp only [laws_eqByteS.l0]
      rw [if_pos (by omega), if_pos (by omega), if_pos (by omega)]
      simp only [if_true]
      rw [wrap_succ (by omega)])
    (fun k => by simp only [laws_eqByteS.l0]; rw [if_neg (by omega)]) (by omega)

theorem FnExactSumBytes (l0 : List Int)
    (w0 : (l0.length ≤ maxLen ∧ ∀ z1 ∈ l0, (Lit.int .u8 z1).wf = true)) :
    ∃ k, laws_FnExactSumBytes.f k l0 = some true := by
  refine ⟨2000000, ?_⟩
  unfold laws_FnExactSumBytes.f
  by_cases hL : (l0.length : Int) > 1048576
  · rw [if_pos hL]
  · rw [if_neg hL]
    simp only [laws_toByteS_eq (show l0.length ≤ 1048576 by omega) (show l0.length < 2000000 by omega), laws_eqByteS_refl (show l0.length ≤ 1048576 by omega) (show l0.length < 2000000 by omega), spec_SumBytes_eq (show l0.length ≤ 1048576 by omega) w0.2 (show l0.length < 2000000 by omega), impl_SumBytes_eq (show l0.length ≤ 1048576 by omega) w0.2 (show l0.length < 2000000 by omega), Option.bind_some, if_true]
end Go.Proofs.Ytbahoffaamccoaa.Pure
