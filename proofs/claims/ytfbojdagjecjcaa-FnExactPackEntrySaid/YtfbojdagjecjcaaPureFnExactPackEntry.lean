/- The pure part of the law FnExactPackEntry: what the printed functions compute, in closed form, and that the law's answer is true. -/
import Derived.Test.YtfbojdagjecjcaaHFnExactPackEntryx1
import Derived.Test.YtfbojdagjecjcaaHFnExactPackEntryx2
import Derived.Test.YtfbojdagjecjcaaHFnExactPackEntryx3
import Derived.Test.YtfbojdagjecjcaaHFnExactPackEntryx4
import Derived.Test.YtfbojdagjecjcaaHFnExactPackEntryx7
import Derived.Test.YtfbojdagjecjcaaXFnExactPackEntryx5
import Derived.Test.YtfbojdagjecjcaaXFnExactPackEntryx6
import Derived.Test.YtfbojdagjecjcaaBase
namespace Go.Proofs.Ytfbojdagjecjcaa.Pure
open Go.RowKit Go.Proofs.Ytfbojdagjecjcaa.PFnExactPackEntry Go.Proofs.YtfbojdagjecjcaaW.PrintWords Go.Proofs.YtfbojdagjecjcaaW.PrintLast Go.Proofs.YtfbojdagjecjcaaW.PrintMore Go.Proofs.Ytfbojdagjecjcaa.B
set_option linter.unusedVariables false
set_option linter.unusedSimpArgs false

theorem laws_szByteS_eq {l : List Int} {a : Int} (hl : l.length ≤ maxLen) (h0 : -1 ≤ a) (h1 : a ≤ 1048576) : laws_szByteS.f l a = some (szB a l.length) := szB_eq h0 h1 hl

theorem laws_szEvent_eq {a b : Int} {l : List Int} {c : Int} (hl : l.length ≤ maxLen) (h0 : -1 ≤ c) (h1 : c ≤ 1048576) : laws_szEvent.f a b l c = some (szB c l.length) := by
  simp only [laws_szEvent.f, laws_szByteS_eq hl h0 h1, Option.bind_some, szB_again]

theorem laws_szEntry_eq {e a b : Int} {l : List Int} {c : Int} (hl : l.length ≤ maxLen) (h0 : -1 ≤ c) (h1 : c ≤ 1048576) : laws_szEntry.f e a b l c = some (szB c l.length) := by
  simp only [laws_szEntry.f, laws_szEvent_eq hl h0 h1, Option.bind_some, szB_again]

theorem spec_l1In_eq (n lo hi : Int) : spec_l1In.f n lo hi = some (inB n lo hi) := inB_eq n lo hi

theorem spec_l10Epoch_eq (n : Int) : spec_l10Epoch.f n = some (inB n 1 1000) := by simp only [spec_l10Epoch.f, spec_l1In_eq, Option.bind_some]

theorem spec_l7Peer_eq (n : Int) : spec_l7Peer.f n = some (inB n 0 2) := by simp only [spec_l7Peer.f, spec_l1In_eq, Option.bind_some]

theorem spec_EventFault_eq {k : Nat} (hk : 1 ≤ k) (a b : Int) (l : List Int) : spec_EventFault.f k a b l = some (eventFault a b l.length) := by
  obtain ⟨k, rfl⟩ : ∃ m, k = m + 1 := ⟨k - 1, by omega⟩
  simp only [spec_EventFault.f, spec_l1In_eq, spec_l7Peer_eq, Option.bind_some, spec_EventFault.j0]
  unfold eventFault
  cases h1 : inB a 1 4 <;> cases h2 : inB b 0 2 <;> simp
  by_cases ha : a = 3
  · subst ha
    by_cases hb : b = 0
    · cases l <;> simp [hb]
    · simp [hb]
  · rw [if_neg ha]
    by_cases ha2 : a = 2
    · subst ha2
      cases l with
      | nil => simp
      | cons x xs => simp [ite_some]
    · cases l with
      | nil => simp [ha, ha2]
      | cons x xs => simp [ha, ha2]

theorem spec_EntryFault_eq {k : Nat} (hk : 1 ≤ k) (e a b : Int) (l : List Int) : spec_EntryFault.f k e a b l = some (entryFault e a b l.length) := by
  simp only [spec_EntryFault.f, spec_l10Epoch_eq, spec_EventFault_eq hk, Option.bind_some, ite_some]; rfl

theorem spec_SumBytes_eq {k : Nat} {l : List Int} (hl : l.length ≤ 1048576) (hb : ∀ x ∈ l, (Lit.int .u8 x).wf = true) (hk : l.length < k) : spec_SumBytes.f k l = some (sumOf l) := by
  unfold spec_SumBytes.f sumOf
  refine Eq.trans ?_ (congrArg some (run_foldl (fun h b => (h * 257 + b + 1) % 65521) id l 0 7))
  exact run_loop (L := fun k s i => spec_SumBytes.l0 k l s i) (fun _ s => 0 ≤ s ∧ s < 65521) (B := 0)
    (fun k i s h _ hi => by
      have hx := u8_wf (hb _ (List.getElem_mem h))
      simp only [spec_SumBytes.l0]
      rw [if_pos (by omega), if_pos (by omega), rd_nat h, sumOf_step hi.1 hi.2 hx.1 hx.2, wrap_succ (by omega)])
    (fun i s s' h hi e => by
      injection e with e
      exact e ▸ ⟨Int.emod_nonneg _ (by decide), Int.emod_lt_of_pos _ (by decide)⟩)
    (fun k s _ => by simp only [spec_SumBytes.l0]; rw [if_neg (by omega)]; rfl) ⟨by decide, by decide⟩ (by omega)

theorem spec_l1Bytes_two {k : Nat} (hk : 3 ≤ k) (a : Int) : spec_l1Bytes.f k a 2 = some (two a) := by
  obtain ⟨k, rfl⟩ : ∃ m, k = m + 3 := ⟨k - 3, by omega⟩
  have e1 : wrap64 (2 - 1) = 1 := by decide +kernel
  have e2 : IntKind.u64.wrap (wrap64 (8 * 1)) = 8 := by decide +kernel
  have e3 : wrap64 (1 - 1) = 0 := by decide +kernel
  have e4 : IntKind.u64.wrap (wrap64 (8 * 0)) = 0 := by decide +kernel
  have e5 : wrap64 (0 - 1) = -1 := by decide +kernel
  unfold spec_l1Bytes.f
  rw [e1]
  show spec_l1Bytes.l0 (k + 2 + 1) a [] 1 = _
  rw [spec_l1Bytes.l0, e2, e3, if_pos (by decide), if_pos (by decide), if_pos (by simp)]
  show spec_l1Bytes.l0 (k + 1 + 1) a _ 0 = _
  rw [spec_l1Bytes.l0, e4, e5, if_pos (by decide), if_pos (by decide), if_pos (by simp)]
  rw [spec_l1Bytes.l0, if_neg (by decide)]
  simp [shr, two, IntKind.bits]

def bodyE (e a b : Int) (l : List Int) : List Int := two e ++ [a % 256, b % 256, (l.length : Int) % 256] ++ l
theorem bodyE_length (e a b : Int) (l : List Int) : (bodyE e a b l).length = 5 + l.length := by simp [bodyE, two]; omega
theorem bodyE_wf {e a b : Int} {l : List Int} (h : ∀ x ∈ l, (Lit.int .u8 x).wf = true) : ∀ x ∈ bodyE e a b l, (Lit.int .u8 x).wf = true := by
  have w : ∀ x : Int, (Lit.int .u8 (x % 256)).wf = true := by
    intro x
    rw [Lit.wf_int_iff]
    simp [IntKind.min, IntKind.max, IntKind.signed, IntKind.bits]
    omega
  intro x hx
  simp only [bodyE, two, List.mem_append, List.mem_cons, List.not_mem_nil, or_false] at hx
  rcases hx with (h1 | h1) | h1
  · rcases h1 with h1 | h1 <;> rw [h1] <;> exact w _
  · rcases h1 with h1 | h1 | h1 <;> rw [h1] <;> exact w _
  · exact h x h1
def packE (e a b : Int) (l : List Int) : List Int := [((bodyE e a b l).length : Int) % 256] ++ two (sumOf (bodyE e a b l)) ++ bodyE e a b l
theorem packE_length (e a b : Int) (l : List Int) : (packE e a b l).length = 8 + l.length := by simp [packE, two, bodyE_length]; omega
theorem spec_l10Pack_eq {k : Nat} {e a b : Int} {l : List Int} (hl : l.length ≤ 1000000) (hb : ∀ x ∈ l, (Lit.int .u8 x).wf = true) (hk : l.length + 8 < k) : spec_l10Pack.f k e a b l = some (packE e a b l) := by
  have hw := bodyE_wf (e := e) (a := a) (b := b) hb
  have hn := bodyE_length e a b l
  have ht : ∀ x, (two x).length = 2 := fun x => rfl
  simp only [spec_l10Pack.f, Option.bind_some]
  rw [spec_l1Bytes_two (by omega)]
  simp only [Option.bind_some]
  rw [if_pos (by simp [two]), if_pos (by simp [two]; omega)]
  rw [show two e ++ [a % 256, b % 256, (l.length : Int) % 256] ++ l = bodyE e a b l from rfl]
  rw [spec_SumBytes_eq (by omega) hw (by omega)]
  simp only [Option.bind_some]
  rw [spec_l1Bytes_two (by omega)]
  simp only [Option.bind_some]
  rw [if_pos (by simp [two]), if_pos (by simp [two]; omega)]
  rfl

theorem entryFault_len {e a b : Int} {n : Nat} (h : entryFault e a b n = 0) : n ≤ 60 := by
  unfold entryFault eventFault at h
  repeat' split at h
  all_goals (try omega)
  all_goals (exact absurd h (by decide))
theorem spec_PackEntry_eq {k : Nat} {e a b : Int} {l : List Int} (hl : l.length ≤ 1048576) (hb : ∀ x ∈ l, (Lit.int .u8 x).wf = true) (hk : l.length + 100 < k) :
    spec_PackEntry.f k e a b l = some (if entryFault e a b l.length = 0 then (0, packE e a b l) else (entryFault e a b l.length, [])) := by
  simp only [spec_PackEntry.f, spec_EntryFault_eq (show 1 ≤ k by omega), Option.bind_some]
  by_cases h : entryFault e a b l.length = 0
  · have := entryFault_len h
    rw [if_pos h, if_pos h, spec_l10Pack_eq (by omega) hb (by omega)]; rfl
  · rw [if_neg h, if_neg h]

theorem laws_toByteS_eq {k : Nat} {l : List Int} (hl : l.length ≤ 1048576) (hk : l.length < k) : laws_toByteS.f k l = some l := by
  unfold laws_toByteS.f
  rw [if_pos (by omega), if_pos (by omega)]
  have h := set_loop (L := fun k acc i => laws_toByteS.l0 k l acc i) (xs := l) (f := fun x => x) (B := 0) (k := k) (acc := List.replicate ((l.length : Int)).toNat 0)
    (fun k i acc h _ ha => by
      simp only [laws_toByteS.l0]
      rw [if_pos (by omega), if_pos (by omega), if_pos (by omega), rd_nat h, wrap_succ (by omega)]
      simp)
    (fun k acc _ => by simp only [laws_toByteS.l0]; rw [if_neg (by omega)]) (by simp) (by omega)
  simpa using h

theorem laws_toEvent_eq {k : Nat} {a b : Int} {l : List Int} (hl : l.length ≤ 1048576) (hk : l.length < k) : laws_toEvent.f k a b l = some (a, b, l) := by
  simp only [laws_toEvent.f, laws_toByteS_eq hl hk, Option.bind_some]

theorem laws_toEntry_eq {k : Nat} {e a b : Int} {l : List Int} (hl : l.length ≤ 1048576) (hk : l.length < k) : laws_toEntry.f k e a b l = some (e, a, b, l) := by
  simp only [laws_toEntry.f, laws_toEvent_eq hl hk, Option.bind_some]

theorem impl_in_eq (n lo hi : Int) : impl_in.f n lo hi = some (inB n lo hi) := inB_eq n lo hi

theorem impl_isEpoch_eq (n : Int) : impl_isEpoch.f n = some (inB n 1 1000) := by simp only [impl_isEpoch.f, impl_in_eq, Option.bind_some]

theorem impl_isPeer_eq (n : Int) : impl_isPeer.f n = some (inB n 0 2) := by simp only [impl_isPeer.f, impl_in_eq, Option.bind_some]

theorem impl_EventFault_eq {k : Nat} (hk : 1 ≤ k) (a b : Int) (l : List Int) : impl_EventFault.f k a b l = some (eventFault a b l.length) := by
  obtain ⟨k, rfl⟩ : ∃ m, k = m + 1 := ⟨k - 1, by omega⟩
  simp only [impl_EventFault.f, impl_in_eq, impl_isPeer_eq, Option.bind_some, impl_EventFault.j0]
  unfold eventFault
  cases h1 : inB a 1 4 <;> cases h2 : inB b 0 2 <;> simp
  by_cases ha : a = 3
  · subst ha
    by_cases hb : b = 0
    · cases l <;> simp [hb]
    · simp [hb]
  · rw [if_neg ha]
    by_cases ha2 : a = 2
    · subst ha2
      cases l with
      | nil => simp
      | cons x xs => simp [ite_some]
    · cases l with
      | nil => simp [ha, ha2]
      | cons x xs => simp [ha, ha2]

theorem impl_EntryFault_eq {k : Nat} (hk : 1 ≤ k) (e a b : Int) (l : List Int) : impl_EntryFault.f k e a b l = some (entryFault e a b l.length) := by
  simp only [impl_EntryFault.f, impl_isEpoch_eq, impl_EventFault_eq hk, Option.bind_some, ite_some]; rfl

theorem impl_SumBytes_eq {k : Nat} {l : List Int} (hl : l.length ≤ 1048576) (hb : ∀ x ∈ l, (Lit.int .u8 x).wf = true) (hk : l.length < k) : impl_SumBytes.f k l = some (sumOf l) := by
  unfold impl_SumBytes.f sumOf
  refine Eq.trans ?_ (congrArg some (run_foldl (fun h b => (h * 257 + b + 1) % 65521) id l 0 7))
  exact run_loop (L := fun k s i => impl_SumBytes.l0 k s l (l.length : Int) i) (fun _ s => 0 ≤ s ∧ s < 65521) (B := 0)
    (fun k i s h _ hi => by
      have hx := u8_wf (hb _ (List.getElem_mem h))
      simp only [impl_SumBytes.l0]
      rw [if_pos (by omega), if_pos (by omega), if_pos (by omega), rd_nat h, sumOf_step hi.1 hi.2 hx.1 hx.2, wrap_succ (by omega)])
    (fun i s s' h hi e => by
      injection e with e
      exact e ▸ ⟨Int.emod_nonneg _ (by decide), Int.emod_lt_of_pos _ (by decide)⟩)
    (fun k s _ => by simp only [impl_SumBytes.l0]; rw [if_neg (by omega)]; rfl) ⟨by decide, by decide⟩ (by omega)

theorem impl_putTwo_eq {l : List Int} (hl : l.length ≤ 10000000) (a : Int) : impl_putTwo.f l a = some (l ++ two a) := by
  simp only [impl_putTwo.f, Option.bind_some]
  rw [if_pos (by simp; omega)]; rfl

theorem impl_packEntry_eq {k : Nat} {e a b : Int} {l : List Int} (hl : l.length ≤ 1000000) (hb : ∀ x ∈ l, (Lit.int .u8 x).wf = true) (hk : l.length + 8 < k) : impl_packEntry.f k e a b l = some (packE e a b l) := by
  have hw := bodyE_wf (e := e) (a := a) (b := b) hb
  have hn := bodyE_length e a b l
  simp only [impl_packEntry.f, Option.bind_some]
  rw [impl_putTwo_eq (by simp)]
  simp only [Option.bind_some, List.nil_append]
  rw [if_pos (by simp [two]), if_pos (by simp [two]; omega)]
  rw [show two e ++ [a % 256, b % 256, (l.length : Int) % 256] ++ l = bodyE e a b l from rfl]
  rw [impl_SumBytes_eq (by omega) hw (by omega)]
  simp only [Option.bind_some]
  rw [impl_putTwo_eq (by simp)]
  simp only [Option.bind_some]
  rw [if_pos (by simp [two]; omega)]
  rfl

theorem impl_PackEntry_eq {k : Nat} {e a b : Int} {l : List Int} (hl : l.length ≤ 1048576) (hb : ∀ x ∈ l, (Lit.int .u8 x).wf = true) (hk : l.length + 100 < k) :
    impl_PackEntry.f k e a b l = some (if entryFault e a b l.length = 0 then (0, packE e a b l) else (entryFault e a b l.length, [])) := by
  simp only [impl_PackEntry.f, impl_EntryFault_eq (show 1 ≤ k by omega), Option.bind_some]
  by_cases h : entryFault e a b l.length = 0
  · have := entryFault_len h
    rw [if_pos h, if_pos h, impl_packEntry_eq (by omega) hb (by omega)]; rfl
  · rw [if_neg h, if_neg h]

theorem laws_eqByteS_refl {k : Nat} {l : List Int} (hl : l.length ≤ 1048576) (hk : l.length < k) : laws_eqByteS.f k l l = some true := by
  unfold laws_eqByteS.f
  rw [if_pos rfl]
  exact all_loop (L := fun k i => laws_eqByteS.l0 k l l i) (n := l.length) (B := 0)
    (fun k i h _ => by
      simp only [laws_eqByteS.l0]
      rw [if_pos (by omega), if_pos (by omega), if_pos (by omega)]
      simp only [if_true]
      rw [wrap_succ (by omega)])
    (fun k => by simp only [laws_eqByteS.l0]; rw [if_neg (by omega)]) (by omega)

theorem laws_eqBytesResult_refl {k : Nat} {a : Int} {l : List Int} (hl : l.length ≤ 1048576) (hk : l.length < k) : laws_eqBytesResult.f k a l a l = some true := by
  simp only [laws_eqBytesResult.f, laws_eqByteS_refl hl hk, Option.bind_some, if_true]

theorem laws_eqEvent_refl {k : Nat} {a b : Int} {l : List Int} (hl : l.length ≤ 1048576) (hk : l.length < k) : laws_eqEvent.f k a b l a b l = some true := by
  simp only [laws_eqEvent.f, laws_eqByteS_refl hl hk, Option.bind_some, if_true]

theorem laws_eqEntry_refl {k : Nat} {e a b : Int} {l : List Int} (hl : l.length ≤ 1048576) (hk : l.length < k) : laws_eqEntry.f k e a b l e a b l = some true := by
  simp only [laws_eqEntry.f, laws_eqEvent_refl hl hk, Option.bind_some, if_true]

theorem laws_markByteS_eq {k : Nat} {l : List Int} {m : Int} (h0 : 0 ≤ m) (h1 : m + l.length ≤ 1000000000) (hk : l.length < k) : laws_markByteS.f k l m = some (m + l.length, marks (fun x => x % 256) m l.length) := by
  unfold laws_markByteS.f
  exact mark_loop (L := fun k acc m i => laws_markByteS.l0 k acc m i) (g := (fun x => x % 256))
    (fun k acc m i h hl h0 h1 => by
      simp only [laws_markByteS.l0]
      rw [if_pos (by omega), if_pos (by omega), wrap_succ (by omega), wrap_id (x := m + 1) (by omega) (by omega)]
      simp)
    (fun k acc m hl => by simp only [laws_markByteS.l0]; rw [if_neg (by omega)]) rfl h0 h1 hk

theorem laws_markEvent_eq {k : Nat} {a b : Int} {l : List Int} {m : Int} (h0 : 0 ≤ m) (h1 : m + l.length ≤ 1000000000) (hk : l.length < k) : laws_markEvent.f k a b l m = some (m + l.length, marks (fun x => x % 256) m l.length) := by
  simp only [laws_markEvent.f, laws_markByteS_eq h0 h1 hk, Option.bind_some]

theorem laws_markEntry_eq {k : Nat} {e a b : Int} {l : List Int} {m : Int} (h0 : 0 ≤ m) (h1 : m + l.length ≤ 1000000000) (hk : l.length < k) : laws_markEntry.f k e a b l m = some (m + l.length, marks (fun x => x % 256) m l.length) := by
  simp only [laws_markEntry.f, laws_markEvent_eq h0 h1 hk, Option.bind_some]

theorem laws_markBytesResult_eq {k : Nat} {a : Int} {l : List Int} {m : Int} (h0 : 0 ≤ m) (h1 : m + l.length ≤ 1000000000) (hk : l.length < k) : laws_markBytesResult.f k a l m = some (m + l.length, marks (fun x => x % 256) m l.length) := by
  simp only [laws_markBytesResult.f, laws_markByteS_eq h0 h1 hk, Option.bind_some]

theorem laws_heldByteS_eq {k n : Nat} {m : Int} (h0 : 0 ≤ m) (h1 : m + n ≤ 1000000000) (hk : n < k) : laws_heldByteS.f k (marks (fun x => x % 256) m n) m = some (m + n) := by
  unfold laws_heldByteS.f
  exact held_loop (L := fun k m' i => laws_heldByteS.l0 k (marks (fun x => x % 256) m n) m' i)
    (fun k i h => by
      have hl := marks_length (fun x => x % 256) m n
      have hr : rd (marks (fun x => x % 256) m n) (i : Int) = (m + i) % 256 := by
        rw [rd_nat (by omega), marks_get]
      simp only [laws_heldByteS.l0, hr]
      rw [if_pos (by omega), if_pos (by omega), if_true, wrap_succ (by omega), wrap_id (x := m + i + 1) (by omega) (by omega)]
      congr 1
      omega)
    (fun k m' => by
      have hl := marks_length (fun x => x % 256) m n
      simp only [laws_heldByteS.l0]; rw [if_neg (by omega)]) hk

theorem laws_heldBytesResult_eq {k n : Nat} {a m : Int} (h0 : 0 ≤ m) (h1 : m + n ≤ 1000000000) (hk : n < k) : laws_heldBytesResult.f k a (marks (fun x => x % 256) m n) m = some (m + n) := by
  simp only [laws_heldBytesResult.f, laws_heldByteS_eq h0 h1 hk, Option.bind_some]
  rw [if_neg (by omega)]

theorem FnExactPackEntry (a0_0 : Int) (a0_1 : Int) (a0_2 : Int) (l0_3 : List Int)
    (w0_0 : (Lit.int .i64 a0_0).wf = true) (w0_1 : (Lit.int .i64 a0_1).wf = true) (w0_2 : (Lit.int .i64 a0_2).wf = true) (w0_3 : (l0_3.length ≤ maxLen ∧ ∀ z1 ∈ l0_3, (Lit.int .u8 z1).wf = true)) :
    ∃ k, laws_FnExactPackEntry.f k a0_0 a0_1 a0_2 l0_3 = some true := by
  refine ⟨2000000 + 1, ?_⟩
  unfold laws_FnExactPackEntry.f
  rw [laws_szEntry_eq w0_3.1 (by decide) (by decide)]
  simp only [Option.bind_some]
  by_cases hL : (1048576 : Int) < l0_3.length
  · rw [if_pos (szB_neg.2 hL)]
  · rw [if_neg (fun h => hL (szB_neg.1 h))]
    have hb := w0_3.2
    have h1 : l0_3.length ≤ 1048576 := by omega
    have h2 : l0_3.length < 2000000 + 1 := by omega
    have h2' : l0_3.length < 2000000 := by omega
    have h3 : l0_3.length + 100 < 2000000 + 1 := by omega
    have h3' : l0_3.length + 100 < 2000000 := by omega
    have hr : ∀ q : Int × List Int, q = (if entryFault a0_0 a0_1 a0_2 l0_3.length = 0 then (0, packE a0_0 a0_1 a0_2 l0_3) else (entryFault a0_0 a0_1 a0_2 l0_3.length, [])) → q.2.length ≤ 1000 := by
      intro q hq
      by_cases hf : entryFault a0_0 a0_1 a0_2 l0_3.length = 0
      · rw [if_pos hf] at hq
        have hlen := entryFault_len hf
        rw [hq]
        simp only [packE_length]
        omega
      · rw [if_neg hf] at hq
        rw [hq]; simp
    simp only [laws_toEntry_eq h1 h2, laws_toEntry_eq h1 h2', spec_PackEntry_eq h1 hb h3, impl_PackEntry_eq h1 hb h3, impl_PackEntry_eq h1 hb h3', Option.bind_some, laws_FnExactPackEntry.j0]
    generalize hq : (if entryFault a0_0 a0_1 a0_2 l0_3.length = 0 then ((0 : Int), packE a0_0 a0_1 a0_2 l0_3) else (entryFault a0_0 a0_1 a0_2 l0_3.length, ([] : List Int))) = q
    have q1 := hr q hq.symm
    rw [laws_eqBytesResult_refl (by omega) (by omega)]
    simp only [Option.bind_some, if_true]
    rw [laws_eqEntry_refl h1 h2]
    simp only [Option.bind_some, if_true]
    rw [laws_markEntry_eq (by decide) (by omega) h2]
    simp only [Option.bind_some]
    rw [if_neg (by omega)]
    simp only [Option.bind_some, Bool.not_true, Bool.false_eq_true, if_false]
    rw [laws_markBytesResult_eq (by decide) (by omega) (by omega)]
    simp only [Option.bind_some]
    rw [laws_heldBytesResult_eq (by decide) (by omega) (by omega)]
    simp only [Option.bind_some]
    rw [if_neg (by omega), if_true, laws_eqBytesResult_refl (by omega) (by omega)]
    simp only [Option.bind_some, if_true]
    rw [if_neg (by omega)]
end Go.Proofs.Ytfbojdagjecjcaa.Pure
