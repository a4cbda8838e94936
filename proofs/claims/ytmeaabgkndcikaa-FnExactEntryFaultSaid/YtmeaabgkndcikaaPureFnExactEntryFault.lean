/- The pure part of the law FnExactEntryFault: what the printed functions compute, in closed form, and that the law's answer is true. -/
import Derived.Test.YtmeaabgkndcikaaHFnExactEntryFaultx1
import Derived.Test.YtmeaabgkndcikaaHFnExactEntryFaultx2
import Derived.Test.YtmeaabgkndcikaaHFnExactEntryFaultx3
import Derived.Test.YtmeaabgkndcikaaBase
namespace Go.Proofs.Ytmeaabgkndcikaa.Pure
open Go.RowKit Go.Proofs.Ytmeaabgkndcikaa.PFnExactEntryFault Go.Proofs.YtmeaabgkndcikaaW.PrintWords Go.Proofs.YtmeaabgkndcikaaW.PrintLast Go.Proofs.YtmeaabgkndcikaaW.PrintMore Go.Proofs.Ytmeaabgkndcikaa.B
set_option linter.unusedVariables false
set_option linter.unusedSimpArgs false

theorem laws_szByteS_eq {l : List Int} {a : Int} (hl : l.length ≤ maxLen) (h0 : -1 ≤ a) (h1 : a ≤ 1048576) : laws_szByteS.f l a = some (szB a l.length) := szB_eq h0 h1 hl

theorem laws_szEvent_eq {a b : Int} {l : List Int} {c : Int} (hl : l.length ≤ maxLen) (h0 : -1 ≤ c) (h1 : c ≤ 1048576) : laws_szEvent.f a b l c = some (szB c l.length) := by
  simp only [laws_szEvent.f, laws_szByteS_eq hl h0 h1, Option.bind_some, szB_again]

theorem laws_szEntry_eq {e a b : Int} {l : List Int} {c : Int} (hl : l.length ≤ maxLen) (h0 : -1 ≤ c) (h1 : c ≤ 1048576) : laws_szEntry.f e a b l c = some (szB c l.length) := by
  simp only [laws_szEntry.f, laws_szEvent_eq hl h0 h1, Option.bind_some, szB_again]

theorem spec_l1In_eq (n lo hi : Int) : spec_l1In.f n lo hi = some (inB n lo hi) := inB_eq n lo hi

theorem spec_l7Peer_eq (n : Int) : spec_l7Peer.f n = some (inB n 0 2) := by simp only [spec_l7Peer.f, spec_l1In_eq, Option.bind_some]

theorem spec_EventFault_eq {k : Nat} (hk : 1 ≤ k) (a b : Int) (l : List Int) : spec_EventFault.f k a b l = some (eventFault a b l.length) := by
  obtain ⟨k, rfl⟩ : ∃ m, k = m + 1 := ⟨k - 1, by omega⟩
  simp only [spec_EventFault.f, spec_l1In_eq, spec_l7Peer_eq, Option.bind_some, spec_EventFault.j0]
  unfold eventFault
  cases h1 : inB a 1 4 <;> cases h2 : inB b 0 2 <;> simp
  by_cases ha : a = 3
  · subst ha
    by_cases hb : b = 0
    · cases l <;> simp [hb]
    · simp [hb]
  · rw [if_neg ha]
    by_cases ha2 : a = 2
    · subst ha2
      cases l with
      | nil => simp
      | cons x xs => simp [ite_some]
    · cases l with
      | nil => simp [ha, ha2]
      | cons x xs => simp [ha, ha2]

theorem spec_l10Epoch_eq (n : Int) : spec_l10Epoch.f n = some (inB n 1 1000) := by simp only [spec_l10Epoch.f, spec_l1In_eq, Option.bind_some]

theorem spec_EntryFault_eq {k : Nat} (hk : 1 ≤ k) (e a b : Int) (l : List Int) : spec_EntryFault.f k e a b l = some (entryFault e a b l.length) := by
  simp only [spec_EntryFault.f, spec_l10Epoch_eq, spec_EventFault_eq hk, Option.bind_some, ite_some]; rfl

theorem laws_toByteS_eq {k : Nat} {l : List Int} (hl : l.length ≤ 1048576) (hk : l.length < k) : laws_toByteS.f k l = some l := by
  unfold laws_toByteS.f
  rw [if_pos (by omega), if_pos (by omega)]
  have h := set_loop (L := fun k acc i => laws_toByteS.l0 k l acc i) (xs := l) (f := fun x => x) (B := 0) (k := k) (acc := List.replicate ((l.length : Int)).toNat 0)
    (fun k i acc h _ ha => by
      simp only [laws_toByteS.l0]
      rw [if_pos (by omega), if_pos (by omega), if_pos (by omega), rd_nat h, wrap_succ (by omega)]
      simp)
    (fun k acc _ => by simp only [laws_toByteS.l0]; rw [if_neg (by omega)]) (by simp) (by omega)
  simpa using h

theorem laws_toEvent_eq {k : Nat} {a b : Int} {l : List Int} (hl : l.length ≤ 1048576) (hk : l.length < k) : laws_toEvent.f k a b l = some (a, b, l) := by
  simp only [laws_toEvent.f, laws_toByteS_eq hl hk, Option.bind_some]

theorem laws_toEntry_eq {k : Nat} {e a b : Int} {l : List Int} (hl : l.length ≤ 1048576) (hk : l.length < k) : laws_toEntry.f k e a b l = some (e, a, b, l) := by
  simp only [laws_toEntry.f, laws_toEvent_eq hl hk, Option.bind_some]

theorem impl_in_eq (n lo hi : Int) : impl_in.f n lo hi = some (inB n lo hi) := inB_eq n lo hi

theorem impl_isPeer_eq (n : Int) : impl_isPeer.f n = some (inB n 0 2) := by simp only [impl_isPeer.f, impl_in_eq, Option.bind_some]

theorem impl_EventFault_eq {k : Nat} (hk : 1 ≤ k) (a b : Int) (l : List Int) : impl_EventFault.f k a b l = some (eventFault a b l.length) := by
  obtain ⟨k, rfl⟩ : ∃ m, k = m + 1 := ⟨k - 1, by omega⟩
  simp only [impl_EventFault.f, impl_in_eq, impl_isPeer_eq, Option.bind_some, impl_EventFault.j0]
  unfold eventFault
  cases h1 : inB a 1 4 <;> cases h2 : inB b 0 2 <;> simp
  by_cases ha : a = 3
  · subst ha
    by_cases hb : b = 0
    · cases l <;> simp [hb]
    · simp [hb]
  · rw [if_neg ha]
    by_cases ha2 : a = 2
    · subst ha2
      cases l with
      | nil => simp
      | cons x xs => simp [ite_some]
    · cases l with
      | nil => simp [ha, ha2]
      | cons x xs => simp [ha, ha2]

theorem impl_isEpoch_eq (n : Int) : impl_isEpoch.f n = some (inB n 1 1000) := by simp only [impl_isEpoch.f, impl_in_eq, Option.bind_some]

theorem impl_EntryFault_eq {k : Nat} (hk : 1 ≤ k) (e a b : Int) (l : List Int) : impl_EntryFault.f k e a b l = some (entryFault e a b l.length) := by
  simp only [impl_EntryFault.f, impl_isEpoch_eq, impl_EventFault_eq hk, Option.bind_some, ite_some]; rfl

theorem laws_eqByteS_refl {k : Nat} {l : List Int} (hl : l.length ≤ 1048576) (hk : l.length < k) : laws_eqByteS.f k l l = some true := by
  unfold laws_eqByteS.f
  rw [if_pos rfl]
  exact all_loop (L := fun k i => laws_eqByteS.l0 k l l i) (n := l.length) (B := 0)
    (fun k i h _ => by
      simp only [laws_eqByteS.l0]
      rw [if_pos (by omega), if_pos (by omega), if_pos (by omega)]
      simp only [if_true]
      rw [wrap_succ (by omega)])
    (fun k => by simp only [laws_eqByteS.l0]; rw [if_neg (by omega)]) (by omega)

theorem laws_eqEvent_refl {k : Nat} {a b : Int} {l : List Int} (hl : l.length ≤ 1048576) (hk : l.length < k) : laws_eqEvent.f k a b l a b l = some true := by
  simp only [laws_eqEvent.f, laws_eqByteS_refl hl hk, Option.bind_some, if_true]

theorem laws_eqEntry_refl {k : Nat} {e a b : Int} {l : List Int} (hl : l.length ≤ 1048576) (hk : l.length < k) : laws_eqEntry.f k e a b l e a b l = some true := by
  simp only [laws_eqEntry.f, laws_eqEvent_refl hl hk, Option.bind_some, if_true]

theorem FnExactEntryFault (a0_0 : Int) (a0_1 : Int) (a0_2 : Int) (l0_3 : List Int)
    (w0_0 : (Lit.int .i64 a0_0).wf = true) (w0_1 : (Lit.int .i64 a0_1).wf = true) (w0_2 : (Lit.int .i64 a0_2).wf = true) (w0_3 : (l0_3.length ≤ maxLen ∧ ∀ z1 ∈ l0_3, (Lit.int .u8 z1).wf = true)) :
    ∃ k, laws_FnExactEntryFault.f k a0_0 a0_1 a0_2 l0_3 = some true := by
  refine ⟨2000000, ?_⟩
  unfold laws_FnExactEntryFault.f
  rw [laws_szEntry_eq w0_3.1 (by decide) (by decide)]
  simp only [Option.bind_some]
  by_cases hL : (1048576 : Int) < l0_3.length
  · rw [if_pos (szB_neg.2 hL)]
  · rw [if_neg (fun h => hL (szB_neg.1 h))]
    have h1 : l0_3.length ≤ 1048576 := by omega
    have h2 : l0_3.length < 2000000 := by omega
    simp only [laws_toEntry_eq h1 h2, laws_eqEntry_refl h1 h2, spec_EntryFault_eq (show 1 ≤ 2000000 by decide), impl_EntryFault_eq (show 1 ≤ 2000000 by decide), Option.bind_some, if_true]
end Go.Proofs.Ytmeaabgkndcikaa.Pure
