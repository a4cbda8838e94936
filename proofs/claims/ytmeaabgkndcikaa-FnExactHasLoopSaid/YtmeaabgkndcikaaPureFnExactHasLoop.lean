/- The pure part of the law FnExactHasLoop: what the printed functions compute, in closed form, and that the law's answer is true. -/
import Derived.Test.YtmeaabgkndcikaaPFnExactHasLoopx1
import Derived.Test.YtmeaabgkndcikaaPFnExactHasLoopx2
import Derived.Test.YtmeaabgkndcikaaBase
namespace Go.Proofs.Ytmeaabgkndcikaa.Pure
open Go.RowKit Go.Proofs.Ytmeaabgkndcikaa.PFnExactHasLoop Go.Proofs.YtmeaabgkndcikaaW.PrintWords Go.Proofs.YtmeaabgkndcikaaW.PrintLast Go.Proofs.YtmeaabgkndcikaaW.PrintMore Go.Proofs.Ytmeaabgkndcikaa.B
set_option linter.unusedVariables false
set_option linter.unusedSimpArgs false

theorem laws_szInt64S_eq {l : List Int} {a : Int} (hl : l.length ≤ maxLen) (h0 : -1 ≤ a) (h1 : a ≤ 1048576) : laws_szInt64S.f l a = some (szB a l.length) := szB_eq h0 h1 hl

theorem laws_szAttrs_eq {a c d e : Int} {l : List Int} {b : Int} (hl : l.length ≤ maxLen) (h0 : -1 ≤ b) (h1 : b ≤ 1048576) : laws_szAttrs.f a l c d e b = some (szB b l.length) := by
  simp only [laws_szAttrs.f, laws_szInt64S_eq hl h0 h1, Option.bind_some, szB_again]

theorem spec_HasLoop_eq {k : Nat} {a c d e : Int} {l : List Int} {x : Int} (hl : l.length ≤ 1048576) (hk : l.length < k) : spec_HasLoop.f k a l c d e x = some (memB l x) := by
  unfold spec_HasLoop.f
  refine Eq.trans ?_ (congrArg some (scan_mem l x))
  exact scan_loop (L := fun k i => spec_HasLoop.l0 k x i a l c d e) (B := 0)
    (fun k i h _ => by
      simp only [spec_HasLoop.l0]
      rw [if_pos (by omega), if_pos (by omega), rd_nat h, wrap_succ (by omega)]
      by_cases hx : l[i] = x <;> simp [hx])
    (fun k => by simp only [spec_HasLoop.l0]; rw [if_neg (by omega)]) (by omega)

theorem laws_toInt64S_eq {k : Nat} {l : List Int} (hl : l.length ≤ 1048576) (hk : l.length < k) : laws_toInt64S.f k l = some l := by
  unfold laws_toInt64S.f
  rw [if_pos (by omega), if_pos (by omega)]
  have h := set_loop (L := fun k acc i => laws_toInt64S.l0 k l acc i) (xs := l) (f := fun x => x) (B := 0) (k := k) (acc := List.replicate ((l.length : Int)).toNat 0)
    (fun k i acc h _ ha => by
      simp only [laws_toInt64S.l0]
      rw [if_pos (by omega), if_pos (by omega), if_pos (by omega), rd_nat h, wrap_succ (by omega)]
      simp)
    (fun k acc _ => by simp only [laws_toInt64S.l0]; rw [if_neg (by omega)]) (by simp) (by omega)
  simpa using h

theorem laws_toAttrs_eq {k : Nat} {a c d e : Int} {l : List Int} (hl : l.length ≤ 1048576) (hk : l.length < k) : laws_toAttrs.f k a l c d e = some (a, l, c, d, e) := by
  simp only [laws_toAttrs.f, laws_toInt64S_eq hl hk, Option.bind_some]

theorem slices_Index_int64_int64_eq {k : Nat} {l : List Int} {x : Int} (hl : l.length ≤ 1048576) (hk : l.length < k) : ∃ r, slices_Index_int64_int64.f k l x = some r ∧ (decide (r ≥ 0) = memB l x) := by
  refine ⟨_, run_loop (L := fun k (_ : Unit) i => slices_Index_int64_int64.l0 k l x (l.length : Int) i) (xs := l) (step := fun i _ y => if x = y then .inr (i : Int) else .inl ()) (fin := fun _ => -1) (B := 0) (s := ()) (fun _ _ => True)
    (fun k i _ h _ _ => by
      simp only [slices_Index_int64_int64.l0]
      rw [if_pos (by omega), if_pos (by omega), if_pos (by omega), rd_nat h, wrap_succ (by omega)]
      by_cases hx : x = l[i] <;> simp [hx])
    (fun _ _ _ _ _ _ => trivial)
    (fun k _ _ => by simp only [slices_Index_int64_int64.l0]; rw [if_neg (by omega)]) trivial (by omega), run_index l x 0⟩

theorem slices_Contains_int64_int64_eq {k : Nat} {l : List Int} {x : Int} (hl : l.length ≤ 1048576) (hk : l.length < k) : slices_Contains_int64_int64.f k l x = some (memB l x) := by
  obtain ⟨r, hr, hm⟩ := slices_Index_int64_int64_eq (x := x) hl hk
  simp only [slices_Contains_int64_int64.f, hr, Option.bind_some, hm]

theorem impl_HasLoop_eq {k : Nat} {a c d e : Int} {l : List Int} {x : Int} (hl : l.length ≤ 1048576) (hk : l.length < k) : impl_HasLoop.f k a l c d e x = some (memB l x) := by
  simp only [impl_HasLoop.f, slices_Contains_int64_int64_eq hl hk, Option.bind_some]

theorem laws_eqInt64S_refl {k : Nat} {l : List Int} (hl : l.length ≤ 1048576) (hk : l.length < k) : laws_eqInt64S.f k l l = some true := by
  unfold laws_eqInt64S.f
  rw [if_pos rfl]
  exact all_loop (L := fun k i => laws_eqInt64S.l0 k l l i) (n := l.length) (B := 0)
    (fun k i h _ => by
      simp only [laws_eqInt64S.l0]
      rw [if_pos (by omega), if_pos (by omega), if_pos (by omega)]
      simp only [if_true]
      rw [wrap_succ (by omega)])
    (fun k => by simp only [laws_eqInt64S.l0]; rw [if_neg (by omega)]) (by omega)

theorem laws_eqAttrs_refl {k : Nat} {a c d e : Int} {l : List Int} (hl : l.length ≤ 1048576) (hk : l.length < k) : laws_eqAttrs.f k a l c d e a l c d e = some true := by
  simp only [laws_eqAttrs.f, laws_eqInt64S_refl hl hk, Option.bind_some, if_true]

theorem FnExactHasLoop (a0_0 : Int) (l0_1 : List Int) (a0_2 : Int) (a0_3 : Int) (a0_4 : Int) (a1 : Int)
    (w0_0 : (Lit.int .i64 a0_0).wf = true) (w0_1 : (l0_1.length ≤ maxLen ∧ ∀ z1 ∈ l0_1, (Lit.int .i64 z1).wf = true)) (w0_2 : (Lit.int .i64 a0_2).wf = true) (w0_3 : (Lit.int .i64 a0_3).wf = true) (w0_4 : (Lit.int .i64 a0_4).wf = true) (w1 : (Lit.int .i64 a1).wf = true) :
    ∃ k, laws_FnExactHasLoop.f k a0_0 l0_1 a0_2 a0_3 a0_4 a1 = some true := by
  refine ⟨2000000, ?_⟩
  unfold laws_FnExactHasLoop.f
  rw [laws_szAttrs_eq w0_1.1 (by decide) (by decide)]
  simp only [Option.bind_some]
  by_cases hL : (1048576 : Int) < l0_1.length
  · rw [if_pos (szB_neg.2 hL)]
  · rw [if_neg (fun h => hL (szB_neg.1 h))]
    have h1 : l0_1.length ≤ 1048576 := by omega
    have h2 : l0_1.length < 2000000 := by omega
    simp [laws_toAttrs_eq h1 h2, laws_eqAttrs_refl h1 h2, spec_HasLoop_eq h1 h2, impl_HasLoop_eq h1 h2]
end Go.Proofs.Ytmeaabgkndcikaa.Pure
