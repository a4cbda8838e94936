/- The pure part of the law FnExactFrameFault: what the printed functions compute, in closed form, and that the law's answer is true. -/
import Derived.Test.YtbahoffaamccoaaPFnExactFrameFaultx1
import Derived.Test.YtbahoffaamccoaaPFnExactFrameFaultx2
import Derived.Test.YtbahoffaamccoaaBase
namespace Go.Proofs.Ytbahoffaamccoaa.Pure
open Go.RowKit Go.Proofs.Ytbahoffaamccoaa.PFnExactFrameFault Go.Proofs.YtbahoffaamccoaaW.PrintWords Go.Proofs.YtbahoffaamccoaaW.PrintLast Go.Proofs.YtbahoffaamccoaaW.PrintMore Go.Proofs.Ytbahoffaamccoaa.B
set_option linter.unusedVariables false
set_option linter.unusedSimpArgs false

theorem laws_szByteS_eq {l : List Int} {a : Int} (hl : l.length ≤ maxLen) (h0 : -1 ≤ a) (h1 : a ≤ 1048576) : laws_szByteS.f l a = some (szB a l.length) := szB_eq h0 h1 hl

theorem laws_szFrame_eq {a : Int} {l : List Int} {b : Int} (hl : l.length ≤ maxLen) (h0 : -1 ≤ b) (h1 : b ≤ 1048576) : laws_szFrame.f a l b = some (szB b l.length) := by
  simp only [laws_szFrame.f, laws_szByteS_eq hl h0 h1, Option.bind_some, szB_again]

theorem spec_l1In_eq (n lo hi : Int) : spec_l1In.f n lo hi = some (inB n lo hi) := inB_eq n lo hi

theorem spec_FrameFault_eq (a : Int) (l : List Int) : spec_FrameFault.f a l = some (frameFault a l.length) := by
  simp only [spec_FrameFault.f, spec_l1In_eq, Option.bind_some, ite_some]; rfl

theorem laws_toByteS_eq {k : Nat} {l : List Int} (hl : l.length ≤ 1048576) (hk : l.length < k) : laws_toByteS.f k l = some l := by
  unfold laws_toByteS.f
  rw [if_pos (by omega), if_pos (by omega)]
  have h := set_loop (L := fun k acc i => laws_toByteS.l0 k l acc i) (xs := l) (f := fun x => x) (B := 0) (k := k) (acc := List.replicate ((l.length : Int)).toNat 0)
    (fun k i acc h _ ha => by
      simp only [laws_toByteS.l0]
      rw [if_pos (by omega), if_pos (by omega), if_pos (by omega), rd_nat h, wrap_succ (by omega)]
      simp)
    (fun k acc _ => by simp only [laws_toByteS.l0]; rw [if_neg (by omega)]) (by simp) (by omega)
  simpa using h

theorem laws_toFrame_eq {k : Nat} {a : Int} {l : List Int} (hl : l.length ≤ 1048576) (hk : l.length < k) : laws_toFrame.f k a l = some (a, l) := by
  simp only [laws_toFrame.f, laws_toByteS_eq hl hk, Option.bind_some]

theorem impl_in_eq (n lo hi : Int) : impl_in.f n lo hi = some (inB n lo hi) := inB_eq n lo hi

theorem impl_FrameFault_eq (a : Int) (l : List Int) : impl_FrameFault.f a l = some (frameFault a l.length) := by
  simp only [impl_FrameFault.f, impl_in_eq, Option.bind_some, ite_some]; rfl

theorem laws_eqByteS_refl {k : Nat} {l : List Int} (hl : l.length ≤ 1048576) (hk : l.length < k) : laws_eqByteS.f k l l = some true := by
  unfold laws_eqByteS.f
  rw [if_pos rfl]
  exact all_loop (L := fun k i => laws_eqByteS.l0 k l l i) (n := l.length) (B := 0)
    (fun k i h _ => by
      simp only [laws_eqByteS.l0]
      rw [if_pos (by omega), if_pos (by omega), if_pos (by omega)]
      simp only [if_true]
      rw [wrap_succ (by omega)])
    (fun k => by simp only [laws_eqByteS.l0]; rw [if_neg (by omega)]) (by omega)

theorem laws_eqFrame_refl {k : Nat} {a : Int} {l : List Int} (hl : l.length ≤ 1048576) (hk : l.length < k) : laws_eqFrame.f k a l a l = some true := by
  simp only [laws_eqFrame.f, laws_eqByteS_refl hl hk, Option.bind_some, if_true]

theorem FnExactFrameFault (a0_0 : Int) (l0_1 : List Int)
    (w0_0 : (Lit.int .i64 a0_0).wf = true) (w0_1 : (l0_1.length ≤ maxLen ∧ ∀ z1 ∈ l0_1, (Lit.int .u8 z1).wf = true)) :
    ∃ k, laws_FnExactFrameFault.f k a0_0 l0_1 = some true := by
  refine ⟨2000000, ?_⟩
  unfold laws_FnExactFrameFault.f
  rw [laws_szFrame_eq w0_1.1 (by decide) (by decide)]
  simp only [Option.bind_some]
  by_cases hL : (1048576 : Int) < l0_1.length
  · rw [if_pos (szB_neg.2 hL)]
  · rw [if_neg (fun h => hL (szB_neg.1 h))]
    simp only [laws_toFrame_eq (show l0_1.length ≤ 1048576 by omega) (show l0_1.length < 2000000 by omega), laws_eqFrame_refl (show l0_1.length ≤ 1048576 by omega) (show l0_1.length < 2000000 by omega), spec_FrameFault_eq, impl_FrameFault_eq, Option.bind_some, if_true]
end Go.Proofs.Ytbahoffaamccoaa.Pure
