/- The pure part of the law FnExactPackFrame: what the printed functions compute, in closed form, and that the law's answer is true. -/
import Derived.Test.YtmeaabgkndcikaaXFnExactPackFramex1
import Derived.Test.YtmeaabgkndcikaaXFnExactPackFramex2
import Derived.Test.YtmeaabgkndcikaaXFnExactPackFramex3
import Derived.Test.YtmeaabgkndcikaaXFnExactPackFramex4
import Derived.Test.YtmeaabgkndcikaaXFnExactPackFramex5
import Derived.Test.YtmeaabgkndcikaaXFnExactPackFramex6
import Derived.Test.YtmeaabgkndcikaaBase
namespace Go.Proofs.Ytmeaabgkndcikaa.Pure
open Go.RowKit Go.Proofs.Ytmeaabgkndcikaa.PFnExactPackFrame Go.Proofs.YtmeaabgkndcikaaW.PrintWords Go.Proofs.YtmeaabgkndcikaaW.PrintLast Go.Proofs.YtmeaabgkndcikaaW.PrintMore Go.Proofs.Ytmeaabgkndcikaa.B
set_option linter.unusedVariables false
set_option linter.unusedSimpArgs false

theorem impl_in_eq (n lo hi : Int) : impl_in.f n lo hi = some (inB n lo hi) := inB_eq n lo hi

theorem impl_FrameFault_eq (a : Int) (l : List Int) : impl_FrameFault.f a l = some (frameFault a l.length) := by
  simp only [impl_FrameFault.f, impl_in_eq, Option.bind_some, ite_some]; rfl

theorem impl_putTwo_eq {l : List Int} (hl : l.length ≤ 10000000) (a : Int) : impl_putTwo.f l a = some (l ++ two a) := by
  simp only [impl_putTwo.f, Option.bind_some]
  rw [if_pos (by simp; omega)]; rfl

theorem impl_size_byte_eq (l : List Int) : impl_size_byte.f l = some (l.length : Int) := rfl

theorem impl_packFrame_eq {a : Int} {l : List Int} (hl : l.length ≤ 10000000) : impl_packFrame.f a l = some (packF a l) := by
  simp only [impl_packFrame.f, impl_size_byte_eq, Option.bind_some]
  rw [wrap_id (x := 5 + (l.length : Int)) (by omega) (by omega), impl_putTwo_eq (by simp)]
  simp only [Option.bind_some]
  rw [if_pos (by simp [two]), if_pos (by simp [two]; omega)]
  rfl

theorem impl_PackFrame_eq {a : Int} {l : List Int} (hl : l.length ≤ 10000000) : impl_PackFrame.f a l = some (if frameFault a l.length = 0 then (0, packF a l) else (frameFault a l.length, [])) := by
  simp only [impl_PackFrame.f, impl_FrameFault_eq, Option.bind_some]
  by_cases h : frameFault a l.length = 0
  · rw [if_pos h, if_pos h, impl_packFrame_eq hl]; rfl
  · rw [if_neg h, if_neg h]

theorem laws_szByteS_eq {l : List Int} {a : Int} (hl : l.length ≤ maxLen) (h0 : -1 ≤ a) (h1 : a ≤ 1048576) : laws_szByteS.f l a = some (szB a l.length) := szB_eq h0 h1 hl

theorem laws_szFrame_eq {a : Int} {l : List Int} {b : Int} (hl : l.length ≤ maxLen) (h0 : -1 ≤ b) (h1 : b ≤ 1048576) : laws_szFrame.f a l b = some (szB b l.length) := by
  simp only [laws_szFrame.f, laws_szByteS_eq hl h0 h1, Option.bind_some, szB_again]

theorem spec_l1In_eq (n lo hi : Int) : spec_l1In.f n lo hi = some (inB n lo hi) := inB_eq n lo hi

theorem spec_FrameFault_eq (a : Int) (l : List Int) : spec_FrameFault.f a l = some (frameFault a l.length) := by
  simp only [spec_FrameFault.f, spec_l1In_eq, Option.bind_some, ite_some]; rfl

theorem spec_l1Bytes_two {k : Nat} (hk : 3 ≤ k) (a : Int) : spec_l1Bytes.f k a 2 = some (two a) := by
  obtain ⟨k, rfl⟩ : ∃ m, k = m + 3 := ⟨k - 3, by omega⟩
  have e1 : wrap64 (2 - 1) = 1 := by decide +kernel
  have e2 : IntKind.u64.wrap (wrap64 (8 * 1)) = 8 := by decide +kernel
  have e3 : wrap64 (1 - 1) = 0 := by decide +kernel
  have e4 : IntKind.u64.wrap (wrap64 (8 * 0)) = 0 := by decide +kernel
  have e5 : wrap64 (0 - 1) = -1 := by decide +kernel
  unfold spec_l1Bytes.f
  rw [e1]
  show spec_l1Bytes.l0 (k + 2 + 1) a [] 1 = _
  rw [spec_l1Bytes.l0, e2, e3, if_pos (by decide), if_pos (by decide), if_pos (by simp)]
  show spec_l1Bytes.l0 (k + 1 + 1) a _ 0 = _
  rw [spec_l1Bytes.l0, e4, e5, if_pos (by decide), if_pos (by decide), if_pos (by simp)]
  rw [spec_l1Bytes.l0, if_neg (by decide)]
  simp [shr, two, IntKind.bits]

theorem spec_l1Pack_eq {k : Nat} (hk : 3 ≤ k) {a : Int} {l : List Int} (hl : l.length ≤ 10000000) : spec_l1Pack.f k a l = some (packF a l) := by
  have e : (l.length : Int) + 5 = 5 + (l.length : Int) := by omega
  simp only [spec_l1Pack.f, Option.bind_some]
  rw [wrap_id (x := (l.length : Int) + 5) (by omega) (by omega), spec_l1Bytes_two hk, e]
  simp only [Option.bind_some]
  rw [if_pos (by simp [two]), if_pos (by simp [two]), if_pos (by simp [two]; omega)]
  rfl

theorem spec_PackFrame_eq {k : Nat} (hk : 3 ≤ k) {a : Int} {l : List Int} (hl : l.length ≤ 10000000) : spec_PackFrame.f k a l = some (if frameFault a l.length = 0 then (0, packF a l) else (frameFault a l.length, [])) := by
  simp only [spec_PackFrame.f, spec_FrameFault_eq, Option.bind_some]
  by_cases h : frameFault a l.length = 0
  · rw [if_pos h, if_pos h, spec_l1Pack_eq hk hl]; rfl
  · rw [if_neg h, if_neg h]

theorem laws_toByteS_eq {k : Nat} {l : List Int} (hl : l.length ≤ 1048576) (hk : l.length < k) : laws_toByteS.f k l = some l := by
  unfold laws_toByteS.f
  rw [if_pos (by omega), if_pos (by omega)]
  have h := set_loop (L := fun k acc i => laws_toByteS.l0 k l acc i) (xs := l) (f := fun x => x) (B := 0) (k := k) (acc := List.replicate ((l.length : Int)).toNat 0)
    (fun k i acc h _ ha => by
      simp only [laws_toByteS.l0]
      rw [if_pos (by omega), if_pos (by omega), if_pos (by omega), rd_nat h, wrap_succ (by omega)]
      simp)
    (fun k acc _ => by simp only [laws_toByteS.l0]; rw [if_neg (by omega)]) (by simp) (by omega)
  simpa using h

theorem laws_toFrame_eq {k : Nat} {a : Int} {l : List Int} (hl : l.length ≤ 1048576) (hk : l.length < k) : laws_toFrame.f k a l = some (a, l) := by
  simp only [laws_toFrame.f, laws_toByteS_eq hl hk, Option.bind_some]

theorem laws_eqByteS_refl {k : Nat} {l : List Int} (hl : l.length ≤ 1048576) (hk : l.length < k) : laws_eqByteS.f k l l = some true := by
  unfold laws_eqByteS.f
  rw [if_pos rfl]
  exact all_loop (L := fun k i => laws_eqByteS.l0 k l l i) (n := l.length) (B := 0)
    (fun k i h _ => by
      simp only [laws_eqByteS.l0]
      rw [if_pos (by omega), if_pos (by omega), if_pos (by omega)]
      simp only [if_true]
      rw [wrap_succ (by omega)])
    (fun k => by simp only [laws_eqByteS.l0]; rw [if_neg (by omega)]) (by omega)

theorem laws_eqBytesResult_refl {k : Nat} {a : Int} {l : List Int} (hl : l.length ≤ 1048576) (hk : l.length < k) : laws_eqBytesResult.f k a l a l = some true := by
  simp only [laws_eqBytesResult.f, laws_eqByteS_refl hl hk, Option.bind_some, if_true]

theorem laws_eqFrame_refl {k : Nat} {a : Int} {l : List Int} (hl : l.length ≤ 1048576) (hk : l.length < k) : laws_eqFrame.f k a l a l = some true := by
  simp only [laws_eqFrame.f, laws_eqByteS_refl hl hk, Option.bind_some, if_true]

theorem laws_markByteS_eq {k : Nat} {l : List Int} {m : Int} (h0 : 0 ≤ m) (h1 : m + l.length ≤ 1000000000) (hk : l.length < k) : laws_markByteS.f k l m = some (m + l.length, marks (fun x => x % 256) m l.length) := by
  unfold laws_markByteS.f
  exact mark_loop (L := fun k acc m i => laws_markByteS.l0 k acc m i) (g := (fun x => x % 256))
    (fun k acc m i h hl h0 h1 => by
      simp only [laws_markByteS.l0]
      rw [if_pos (by omega), if_pos (by omega), wrap_succ (by omega), wrap_id (x := m + 1) (by omega) (by omega)]
      simp)
    (fun k acc m hl => by simp only [laws_markByteS.l0]; rw [if_neg (by omega)]) rfl h0 h1 hk

theorem laws_markFrame_eq {k : Nat} {a : Int} {l : List Int} {m : Int} (h0 : 0 ≤ m) (h1 : m + l.length ≤ 1000000000) (hk : l.length < k) : laws_markFrame.f k a l m = some (m + l.length, marks (fun x => x % 256) m l.length) := by
  simp only [laws_markFrame.f, laws_markByteS_eq h0 h1 hk, Option.bind_some]

theorem laws_markBytesResult_eq {k : Nat} {a : Int} {l : List Int} {m : Int} (h0 : 0 ≤ m) (h1 : m + l.length ≤ 1000000000) (hk : l.length < k) : laws_markBytesResult.f k a l m = some (m + l.length, marks (fun x => x % 256) m l.length) := by
  simp only [laws_markBytesResult.f, laws_markByteS_eq h0 h1 hk, Option.bind_some]

theorem laws_heldByteS_eq {k n : Nat} {m : Int} (h0 : 0 ≤ m) (h1 : m + n ≤ 1000000000) (hk : n < k) : laws_heldByteS.f k (marks (fun x => x % 256) m n) m = some (m + n) := by
  unfold laws_heldByteS.f
  exact held_loop (L := fun k m' i => laws_heldByteS.l0 k (marks (fun x => x % 256) m n) m' i)
    (fun k i h => by
      have hl := marks_length (fun x => x % 256) m n
      have hr : rd (marks (fun x => x % 256) m n) (i : Int) = (m + i) % 256 := by
        rw [rd_nat (by omega), marks_get]
      simp only [laws_heldByteS.l0, hr]
      rw [if_pos (by omega), if_pos (by omega), if_true, wrap_succ (by omega), wrap_id (x := m + i + 1) (by omega) (by omega)]
      congr 1
      omega)
    (fun k m' => by
      have hl := marks_length (fun x => x % 256) m n
      simp only [laws_heldByteS.l0]; rw [if_neg (by omega)]) hk

theorem laws_heldBytesResult_eq {k n : Nat} {a m : Int} (h0 : 0 ≤ m) (h1 : m + n ≤ 1000000000) (hk : n < k) : laws_heldBytesResult.f k a (marks (fun x => x % 256) m n) m = some (m + n) := by
  simp only [laws_heldBytesResult.f, laws_heldByteS_eq h0 h1 hk, Option.bind_some]
  rw [if_neg (by omega)]

theorem FnExactPackFrame (a0_0 : Int) (l0_1 : List Int)
    (w0_0 : (Lit.int .i64 a0_0).wf = true) (w0_1 : (l0_1.length ≤ maxLen ∧ ∀ z1 ∈ l0_1, (Lit.int .u8 z1).wf = true)) :
    ∃ k, laws_FnExactPackFrame.f k a0_0 l0_1 = some true := by
  refine ⟨2000000 + 1, ?_⟩
  unfold laws_FnExactPackFrame.f
  rw [laws_szFrame_eq w0_1.1 (by decide) (by decide)]
  simp only [Option.bind_some]
  by_cases hL : (1048576 : Int) < l0_1.length
  · rw [if_pos (szB_neg.2 hL)]
  · rw [if_neg (fun h => hL (szB_neg.1 h))]
    have h1 : l0_1.length ≤ 1048576 := by omega
    have h2 : l0_1.length < 2000000 + 1 := by omega
    have h2' : l0_1.length < 2000000 := by omega
    have h3 : l0_1.length ≤ 10000000 := by omega
    have hr : ∀ q : Int × List Int, q = (if frameFault a0_0 l0_1.length = 0 then (0, packF a0_0 l0_1) else (frameFault a0_0 l0_1.length, [])) → q.2.length ≤ 1048600 ∧ (q.2.length ≤ 1048576) := by
      intro q hq
      by_cases hf : frameFault a0_0 l0_1.length = 0
      · rw [if_pos hf] at hq
        have hlen : l0_1.length ≤ 120 := by
          unfold frameFault at hf
          repeat' split at hf
          all_goals (try omega)
          all_goals (exact absurd hf (by decide))
        rw [hq]
        simp only [packF_length]
        omega
      · rw [if_neg hf] at hq
        rw [hq]; simp
    simp only [laws_toFrame_eq h1 h2, laws_toFrame_eq h1 h2', spec_PackFrame_eq (show 3 ≤ 2000000 + 1 by decide) h3, impl_PackFrame_eq h3, Option.bind_some, laws_FnExactPackFrame.j0]
    generalize hq : (if frameFault a0_0 l0_1.length = 0 then ((0 : Int), packF a0_0 l0_1) else (frameFault a0_0 l0_1.length, ([] : List Int))) = q
    obtain ⟨q1, q2⟩ := hr q hq.symm
    rw [laws_eqBytesResult_refl q2 (by omega)]
    simp only [Option.bind_some, if_true]
    rw [laws_eqFrame_refl h1 h2]
    simp only [Option.bind_some, if_true]
    rw [laws_markFrame_eq (by decide) (by omega) h2]
    simp only [Option.bind_some]
    rw [if_neg (by omega)]
    simp only [Option.bind_some, Bool.not_true, Bool.false_eq_true, if_false]
    rw [laws_markBytesResult_eq (by decide) (by omega) (by omega)]
    simp only [Option.bind_some]
    rw [laws_heldBytesResult_eq (by decide) (by omega) (by omega)]
    simp only [Option.bind_some]
    rw [if_neg (by omega), if_true, laws_eqBytesResult_refl q2 (by omega)]
    simp only [Option.bind_some, if_true]
    rw [if_neg (by omega)]
end Go.Proofs.Ytmeaabgkndcikaa.Pure
