/- The pure part of the law FnExactExportAttrs: what the printed functions compute, in closed form, and that the law's answer is true. -/
import Derived.Test.YtfbojdagjecjcaaXFnExactExportAttrsx1
import Derived.Test.YtfbojdagjecjcaaXFnExactExportAttrsx2
import Derived.Test.YtfbojdagjecjcaaXFnExactExportAttrsx3
import Derived.Test.YtfbojdagjecjcaaXFnExactExportAttrsx4
import Derived.Test.YtfbojdagjecjcaaXFnExactExportAttrsx5
import Derived.Test.YtfbojdagjecjcaaXFnExactExportAttrsx6
import Derived.Test.YtfbojdagjecjcaaXFnExactExportAttrsx7
import Derived.Test.YtfbojdagjecjcaaBase
namespace Go.Proofs.Ytfbojdagjecjcaa.Pure
open Go.RowKit Go.Proofs.Ytfbojdagjecjcaa.PFnExactExportAttrs Go.Proofs.YtfbojdagjecjcaaW.PrintWords Go.Proofs.YtfbojdagjecjcaaW.PrintLast Go.Proofs.YtfbojdagjecjcaaW.PrintMore Go.Proofs.Ytfbojdagjecjcaa.B
set_option linter.unusedVariables false
set_option linter.unusedSimpArgs false

theorem laws_szInt64S_eq {l : List Int} {a : Int} (hl : l.length ≤ maxLen) (h0 : -1 ≤ a) (h1 : a ≤ 1048576) : laws_szInt64S.f l a = some (szB a l.length) := szB_eq h0 h1 hl

theorem laws_szAttrs_eq {a c d e : Int} {l : List Int} {b : Int} (hl : l.length ≤ maxLen) (h0 : -1 ≤ b) (h1 : b ≤ 1048576) : laws_szAttrs.f a l c d e b = some (szB b l.length) := by
  simp only [laws_szAttrs.f, laws_szInt64S_eq hl h0 h1, Option.bind_some, szB_again]

theorem spec_l1In_eq (n lo hi : Int) : spec_l1In.f n lo hi = some (inB n lo hi) := inB_eq n lo hi

theorem spec_l3Word_eq (n : Int) : spec_l3Word.f n = some (inB n 0 65535) := by
  simp only [spec_l3Word.f, spec_l1In_eq, Option.bind_some]

theorem spec_AttrsFault_eq {k : Nat} (hk : 10 ≤ k) (a : Int) (l : List Int) (b c d : Int) : spec_AttrsFault.f k a l b c d = some (attrsFault a l b c d) := by
  obtain ⟨k, rfl⟩ : ∃ m, k = m + 1 := ⟨k - 1, by omega⟩
  simp only [spec_AttrsFault.f, spec_l1In_eq, spec_l3Word_eq, Option.bind_some, spec_AttrsFault.j0]
  unfold attrsFault
  cases h1 : inB a 0 2 <;> cases h2 : inB b 0 65535 <;> cases h3 : inB c 0 65535 <;> cases h4 : inB d 0 65535 <;> simp only [Bool.not_true, Bool.not_false, Bool.and_true, Bool.and_false, Bool.false_eq_true, if_true, if_false, Bool.true_and, Bool.false_and]
  by_cases h6 : (6 : Int) < l.length
  · rw [if_pos h6, if_pos h6]
  · rw [if_neg h6, if_neg h6]
    refine Eq.trans ?_ (congrArg some (scan_anyNot l 3 0))
    exact scan_loop (L := fun k i => spec_AttrsFault.l0 k i a l b c d) (B := 0)
      (fun k i h _ => by
        simp only [spec_AttrsFault.l0]
        rw [if_pos (by omega), if_pos (by omega), rd_nat h, wrap_succ (by omega)]
        simp only [spec_l1In_eq, Option.bind_some]
        by_cases hx : inB l[i] 1 65535 = true <;> simp [hx])
      (fun k => by simp only [spec_AttrsFault.l0]; rw [if_neg (by omega)]) (by omega)

theorem spec_l2Addr_eq (n : Int) : spec_l2Addr.f n = some (inB n 0 65535) := by
  simp only [spec_l2Addr.f, spec_l1In_eq, Option.bind_some]

theorem spec_l6Export_eq {o : Int} {p : List Int} {n m l mine next : Int} (hl : p.length ≤ 1048576) : spec_l6Export.f o p n m l mine next = some (if (p.length : Int) ≥ 6 then (0, [], 0, 0, 0, false) else (o, [mine] ++ p, next, 0, 0, true)) := by
  simp only [spec_l6Export.f, Option.bind_some]
  by_cases h : (p.length : Int) ≥ 6
  · rw [if_pos h, if_pos h]
  · rw [if_neg h, if_neg h, if_pos (by simp; omega)]

theorem spec_ExportAttrs_eq {k : Nat} (hk : 20 ≤ k) (o : Int) (p : List Int) (n m l mine next : Int) : spec_ExportAttrs.f k o p n m l mine next = some (exportAttrs o p n m l mine next) := by
  obtain ⟨k, rfl⟩ : ∃ m, k = m + 1 := ⟨k - 1, by omega⟩
  simp only [spec_ExportAttrs.f, spec_AttrsFault_eq (show 10 ≤ k + 1 by omega), spec_l1In_eq, spec_l2Addr_eq, Option.bind_some, spec_ExportAttrs.j0]
  unfold exportAttrs
  by_cases h0 : attrsFault o p n m l = 0
  · rw [if_pos h0, if_pos h0]
    have hp := (attrsFault_ok h0).2.2.1
    cases h1 : inB mine 1 65535 <;> cases h2 : inB next 0 65535 <;> simp only [Bool.not_true, Bool.not_false, Bool.and_true, Bool.and_false, Bool.false_eq_true, if_true, if_false, Bool.true_and, Bool.false_and]
    rw [spec_l6Export_eq (by omega)]
    by_cases h6 : (p.length : Int) ≥ 6
    · rw [if_pos h6, if_pos h6]; rfl
    · rw [if_neg h6, if_neg h6]; rfl
  · rw [if_neg h0, if_neg h0]

theorem laws_toInt64S_eq {k : Nat} {l : List Int} (hl : l.length ≤ 1048576) (hk : l.length < k) : laws_toInt64S.f k l = some l := by
  unfold laws_toInt64S.f
  rw [if_pos (by omega), if_pos (by omega)]
  have h := set_loop (L := fun k acc i => laws_toInt64S.l0 k l acc i) (xs := l) (f := fun x => x) (B := 0) (k := k) (acc := List.replicate ((l.length : Int)).toNat 0)
    (fun k i acc h _ ha => by
      simp only [laws_toInt64S.l0]
      rw [if_pos (by omega), if_pos (by omega), if_pos (by omega), rd_nat h, wrap_succ (by omega)]
      simp)
    (fun k acc _ => by simp only [laws_toInt64S.l0]; rw [if_neg (by omega)]) (by simp) (by omega)
  simpa using h

theorem laws_toAttrs_eq {k : Nat} {a c d e : Int} {l : List Int} (hl : l.length ≤ 1048576) (hk : l.length < k) : laws_toAttrs.f k a l c d e = some (a, l, c, d, e) := by
  simp only [laws_toAttrs.f, laws_toInt64S_eq hl hk, Option.bind_some]

theorem impl_in_eq (n lo hi : Int) : impl_in.f n lo hi = some (inB n lo hi) := inB_eq n lo hi

theorem impl_isAddr_eq (n : Int) : impl_isAddr.f n = some (inB n 0 65535) := by
  simp only [impl_isAddr.f, impl_in_eq, Option.bind_some]

theorem impl_isTwo_eq (n : Int) : impl_isTwo.f n = some (inB n 0 65535) := by
  simp only [impl_isTwo.f, impl_in_eq, Option.bind_some]

theorem impl_isSystem_eq (n : Int) : impl_isSystem.f n = some (inB n 1 65535) := by
  simp only [impl_isSystem.f, impl_in_eq, Option.bind_some]

theorem impl_AttrsFault_1_eq (n : Int) : impl_AttrsFault_1.f n = some (!inB n 1 65535) := by simp only [impl_AttrsFault_1.f, impl_isSystem_eq, Option.bind_some]

theorem slices_IndexFunc_int64_int64_eq {k : Nat} {l : List Int} (hl : l.length ≤ 1048576) (hk : l.length < k) : ∃ r, slices_IndexFunc_int64_int64.f k l = some r ∧ (decide (r ≥ 0) = l.any (fun x => !inB x 1 65535)) := by
  refine ⟨_, run_loop (L := fun k (_ : Unit) i => slices_IndexFunc_int64_int64.l0 k l (l.length : Int) i) (xs := l) (step := fun i _ y => if (!inB y 1 65535) = true then .inr (i : Int) else .inl ()) (fin := fun _ => -1) (B := 0) (s := ()) (fun _ _ => True)
    (fun k i _ h _ _ => by
      simp only [slices_IndexFunc_int64_int64.l0]
      rw [if_pos (by omega), if_pos (by omega), if_pos (by omega), rd_nat h, wrap_succ (by omega), impl_AttrsFault_1_eq]
      by_cases hx : (!inB l[i] 1 65535) = true <;> simp [hx])
    (fun _ _ _ _ _ _ => trivial)
    (fun k _ _ => by simp only [slices_IndexFunc_int64_int64.l0]; rw [if_neg (by omega)]) trivial (by omega), run_indexP _ l 0⟩

theorem slices_ContainsFunc_int64_int64_eq {k : Nat} {l : List Int} (hl : l.length ≤ 1048576) (hk : l.length < k) : slices_ContainsFunc_int64_int64.f k l = some (l.any (fun x => !inB x 1 65535)) := by
  obtain ⟨r, hr, hm⟩ := slices_IndexFunc_int64_int64_eq hl hk
  simp only [slices_ContainsFunc_int64_int64.f, hr, Option.bind_some, hm]

theorem impl_AttrsFault_eq {k : Nat} (hk : 10 ≤ k) (a : Int) (l : List Int) (b c d : Int) : impl_AttrsFault.f k a l b c d = some (attrsFault a l b c d) := by
  obtain ⟨k, rfl⟩ : ∃ m, k = m + 1 := ⟨k - 1, by omega⟩
  simp only [impl_AttrsFault.f, impl_in_eq, impl_isAddr_eq, impl_isTwo_eq, Option.bind_some, impl_AttrsFault.j0]
  unfold attrsFault
  cases h1 : inB a 0 2 <;> cases h2 : inB b 0 65535 <;> cases h3 : inB c 0 65535 <;> cases h4 : inB d 0 65535 <;> simp only [Bool.not_true, Bool.not_false, Bool.and_true, Bool.and_false, Bool.false_eq_true, if_true, if_false, Bool.true_and, Bool.false_and]
  by_cases h6 : (6 : Int) < l.length
  · rw [if_pos h6, if_pos h6]
  · rw [if_neg h6, if_neg h6]
    rw [slices_ContainsFunc_int64_int64_eq (by omega) (by omega)]
    simp only [Option.bind_some, ite_some]

theorem impl_exported_eq {o : Int} {p : List Int} {n m l mine next : Int} (hl : p.length ≤ 1048576) : impl_exported.f o p n m l mine next = some (o, [mine] ++ p, next, 0, 0) := by
  simp only [impl_exported.f, Option.bind_some]
  rw [if_pos (by simp; omega)]

theorem impl_ExportAttrs_eq {k : Nat} (hk : 20 ≤ k) (o : Int) (p : List Int) (n m l mine next : Int) : impl_ExportAttrs.f k o p n m l mine next = some (exportAttrs o p n m l mine next) := by
  obtain ⟨k, rfl⟩ : ∃ m, k = m + 1 := ⟨k - 1, by omega⟩
  simp only [impl_ExportAttrs.f, impl_AttrsFault_eq (show 10 ≤ k + 1 by omega), impl_isSystem_eq, impl_isAddr_eq, Option.bind_some, impl_ExportAttrs.j0]
  unfold exportAttrs
  by_cases h0 : attrsFault o p n m l = 0
  · rw [if_pos h0, if_pos h0]
    have hp := (attrsFault_ok h0).2.2.1
    cases h1 : inB mine 1 65535 <;> cases h2 : inB next 0 65535 <;> simp only [Bool.not_true, Bool.not_false, Bool.and_true, Bool.and_false, Bool.false_eq_true, if_true, if_false, Bool.true_and, Bool.false_and]
    by_cases h6 : (p.length : Int) = 6
    · rw [if_pos h6, if_pos (by omega)]
    · rw [if_neg h6, if_neg (by omega), impl_exported_eq (by omega)]; rfl
  · rw [if_neg h0, if_neg h0]

theorem laws_eqInt64S_refl {k : Nat} {l : List Int} (hl : l.length ≤ 1048576) (hk : l.length < k) : laws_eqInt64S.f k l l = some true := by
  unfold laws_eqInt64S.f
  rw [if_pos rfl]
  exact all_loop (L := fun k i => laws_eqInt64S.l0 k l l i) (n := l.length) (B := 0)
    (fun k i h _ => by
      simp only [laws_eqInt64S.l0]
      rw [if_pos (by omega), if_pos (by omega), if_pos (by omega)]
      simp only [if_true]
      rw [wrap_succ (by omega)])
    (fun k => by simp only [laws_eqInt64S.l0]; rw [if_neg (by omega)]) (by omega)

theorem laws_eqAttrs_refl {k : Nat} {a c d e : Int} {l : List Int} (hl : l.length ≤ 1048576) (hk : l.length < k) : laws_eqAttrs.f k a l c d e a l c d e = some true := by
  simp only [laws_eqAttrs.f, laws_eqInt64S_refl hl hk, Option.bind_some, if_true]

theorem laws_eqAttrsResult_refl {k : Nat} {c r o n m l : Int} {p : List Int} (hl : p.length ≤ 1048576) (hk : p.length < k) : laws_eqAttrsResult.f k c r o p n m l c r o p n m l = some true := by
  simp only [laws_eqAttrsResult.f, laws_eqAttrs_refl hl hk, Option.bind_some, if_true]

theorem laws_markInt64S_eq {k : Nat} {l : List Int} {m : Int} (h0 : 0 ≤ m) (h1 : m + l.length ≤ 1000000000) (hk : l.length < k) : laws_markInt64S.f k l m = some (m + l.length, marks (fun x => x) m l.length) := by
  unfold laws_markInt64S.f
  exact mark_loop (L := fun k acc m i => laws_markInt64S.l0 k acc m i) (g := (fun x => x))
    (fun k acc m i h hl h0 h1 => by
      simp only [laws_markInt64S.l0]
      rw [if_pos (by omega), if_pos (by omega), wrap_succ (by omega), wrap_id (x := m + 1) (by omega) (by omega)]
      simp)
    (fun k acc m hl => by simp only [laws_markInt64S.l0]; rw [if_neg (by omega)]) rfl h0 h1 hk

theorem laws_markAttrs_eq {k : Nat} {o n m l : Int} {p : List Int} {q : Int} (h0 : 0 ≤ q) (h1 : q + p.length ≤ 1000000000) (hk : p.length < k) : laws_markAttrs.f k o p n m l q = some (q + p.length, marks (fun x => x) q p.length) := by
  simp only [laws_markAttrs.f, laws_markInt64S_eq h0 h1 hk, Option.bind_some]

theorem laws_markAttrsResult_eq {k : Nat} {c r o n m l : Int} {p : List Int} {q : Int} (h0 : 0 ≤ q) (h1 : q + p.length ≤ 1000000000) (hk : p.length < k) : laws_markAttrsResult.f k c r o p n m l q = some (q + p.length, marks (fun x => x) q p.length) := by
  simp only [laws_markAttrsResult.f, laws_markAttrs_eq h0 h1 hk, Option.bind_some]

theorem laws_heldInt64S_eq {k n : Nat} {m : Int} (h0 : 0 ≤ m) (h1 : m + n ≤ 1000000000) (hk : n < k) : laws_heldInt64S.f k (marks (fun x => x) m n) m = some (m + n) := by
  unfold laws_heldInt64S.f
  exact held_loop (L := fun k m' i => laws_heldInt64S.l0 k (marks (fun x => x) m n) m' i)
    (fun k i h => by
      have hl := marks_length (fun x => x) m n
      have hr : rd (marks (fun x => x) m n) (i : Int) = m + i := by
        rw [rd_nat (by omega), marks_get]
      simp only [laws_heldInt64S.l0, hr]
      rw [if_pos (by omega), if_pos (by omega), if_true, wrap_succ (by omega), wrap_id (x := m + i + 1) (by omega) (by omega)]
      congr 1
      omega)
    (fun k m' => by
      have hl := marks_length (fun x => x) m n
      simp only [laws_heldInt64S.l0]; rw [if_neg (by omega)]) hk

theorem laws_heldAttrs_eq {k a : Nat} {o n m l : Int} {q : Int} (h0 : 0 ≤ q) (h1 : q + a ≤ 1000000000) (hk : a < k) : laws_heldAttrs.f k o (marks (fun x => x) q a) n m l q = some (q + a) := by
  simp only [laws_heldAttrs.f, laws_heldInt64S_eq h0 h1 hk, Option.bind_some]
  rw [if_neg (by omega)]

theorem laws_heldAttrsResult_eq {k a : Nat} {c r o n m l : Int} {q : Int} (h0 : 0 ≤ q) (h1 : q + a ≤ 1000000000) (hk : a < k) : laws_heldAttrsResult.f k c r o (marks (fun x => x) q a) n m l q = some (q + a) := by
  simp only [laws_heldAttrsResult.f, laws_heldAttrs_eq h0 h1 hk, Option.bind_some]
  rw [if_neg (by omega)]

theorem FnExactExportAttrs (a0_0 : Int) (l0_1 : List Int) (a0_2 : Int) (a0_3 : Int) (a0_4 : Int) (a1 : Int) (a2 : Int)
    (w0_0 : (Lit.int .i64 a0_0).wf = true) (w0_1 : (l0_1.length ≤ maxLen ∧ ∀ z1 ∈ l0_1, (Lit.int .i64 z1).wf = true)) (w0_2 : (Lit.int .i64 a0_2).wf = true) (w0_3 : (Lit.int .i64 a0_3).wf = true) (w0_4 : (Lit.int .i64 a0_4).wf = true) (w1 : (Lit.int .i64 a1).wf = true) (w2 : (Lit.int .i64 a2).wf = true) :
    ∃ k, laws_FnExactExportAttrs.f k a0_0 l0_1 a0_2 a0_3 a0_4 a1 a2 = some true := by
  refine ⟨2000000 + 1, ?_⟩
  unfold laws_FnExactExportAttrs.f
  rw [laws_szAttrs_eq w0_1.1 (by decide) (by decide)]
  simp only [Option.bind_some]
  by_cases hL : (1048576 : Int) < l0_1.length
  · rw [if_pos (szB_neg.2 hL)]
  · rw [if_neg (fun h => hL (szB_neg.1 h))]
    have h1 : l0_1.length ≤ 1048576 := by omega
    have h2 : l0_1.length < 2000000 + 1 := by omega
    have h2' : l0_1.length < 2000000 := by omega
    have hq := exportAttrs_len a0_0 l0_1 a0_2 a0_3 a0_4 a1 a2
    simp only [laws_toAttrs_eq h1 h2, laws_toAttrs_eq h1 h2', spec_ExportAttrs_eq (show 20 ≤ 2000000 + 1 by decide), impl_ExportAttrs_eq (show 20 ≤ 2000000 + 1 by decide), impl_ExportAttrs_eq (show 20 ≤ 2000000 by decide), Option.bind_some, laws_FnExactExportAttrs.j0]
    generalize exportAttrs a0_0 l0_1 a0_2 a0_3 a0_4 a1 a2 = q at *
    rw [laws_eqAttrsResult_refl (by omega) (by omega)]
    simp only [Option.bind_some, if_true]
    rw [laws_eqAttrs_refl h1 h2]
    simp only [Option.bind_some, if_true]
    rw [laws_markAttrs_eq (by decide) (by omega) h2]
    simp only [Option.bind_some]
    rw [if_neg (by omega)]
    simp only [Option.bind_some, Bool.not_true, Bool.false_eq_true, if_false]
    rw [laws_markAttrsResult_eq (by decide) (by omega) (by omega)]
    simp only [Option.bind_some]
    rw [laws_heldAttrsResult_eq (by decide) (by omega) (by omega)]
    simp only [Option.bind_some]
    rw [if_neg (by omega), if_true, laws_eqAttrsResult_refl (by omega) (by omega)]
    simp only [Option.bind_some, if_true]
    rw [if_neg (by omega)]
end Go.Proofs.Ytfbojdagjecjcaa.Pure
