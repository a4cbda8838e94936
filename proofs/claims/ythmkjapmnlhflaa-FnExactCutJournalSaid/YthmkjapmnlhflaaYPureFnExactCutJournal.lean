/- The pure part of the law FnExactCutJournal: what the printed functions compute, in closed form, and that the law's answer is true. -/
import Derived.Test.YthmkjapmnlhflaaSFnExactCutJournalza
import Derived.Lib.Bytes
import Derived.Test.YthmkjapmnlhflaaYFnExactCutJournalx3
import Derived.Test.YthmkjapmnlhflaaYFnExactCutJournalx4
import Derived.Test.YthmkjapmnlhflaaYFnExactCutJournalx5
import Derived.Test.YthmkjapmnlhflaaYFnExactCutJournalx6
import Derived.Test.YthmkjapmnlhflaaYFnExactCutJournalx7
import Derived.Test.YthmkjapmnlhflaaYFnExactCutJournalx8
import Derived.Test.YthmkjapmnlhflaaYFnExactCutJournalx9
import Derived.Test.YthmkjapmnlhflaaYFnExactCutJournalx1
import Derived.Test.YthmkjapmnlhflaaYFnExactCutJournalx2
import Derived.Test.YthmkjapmnlhflaaYFnExactCutJournalx10
import Derived.Test.YthmkjapmnlhflaaYFnExactCutJournalx11
import Derived.Test.YthmkjapmnlhflaaYFnExactCutJournalx12
import Derived.Test.YthmkjapmnlhflaaYFnExactCutJournalx13
import Derived.Test.YthmkjapmnlhflaaYFnExactCutJournalx14
namespace Go.Proofs.Ythmkjapmnlhflaa.Pure
open Go.RowKit Go.Proofs.Ythmkjapmnlhflaa.PFnExactCutJournal Go.Proofs.YthmkjapmnlhflaaW.PrintWords Go.Proofs.YthmkjapmnlhflaaW.PrintLast Go.Proofs.YthmkjapmnlhflaaW.PrintMore Go.Proofs.Ythmkjapmnlhflaa.B
set_option linter.unusedVariables false
set_option linter.unusedSimpArgs false
theorem laws_szByteS_eq {l : List Int} {a : Int} (hl : l.length ≤ maxLen) (h0 : -1 ≤ a) (h1 : a ≤ 1048576) : laws_szByteS.f l a = some (szB a l.length) := szB_eq h0 h1 hl
theorem laws_szJournal_eq {s l : List Int} {c : Int} (hs : s.length ≤ maxLen) (hl : l.length ≤ maxLen) (h0 : -1 ≤ c) (h1 : c ≤ 1048576) : laws_szJournal.f s l c = some (if szB c s.length < 0 then -1 else szB (szB c s.length) l.length) := by
  simp only [laws_szJournal.f, laws_szByteS_eq hs h0 h1, Option.bind_some]
  by_cases h : szB c s.length < 0
  · rw [if_pos h, if_pos h]
  · have := szB_bound (left := c) (n := s.length) h1
    rw [if_neg h, if_neg h, laws_szByteS_eq hl this.1 this.2]
    simp only [Option.bind_some, szB_again]
theorem szJournal_ok {s l : List Int} (h : ¬ (if szB 1048576 s.length < 0 then -1 else szB (szB 1048576 s.length) l.length) < 0) : s.length ≤ 1048576 ∧ l.length ≤ 1048576 := by
  by_cases h1 : szB 1048576 s.length < 0
  · rw [if_pos h1] at h; exact absurd (by decide) h
  · rw [if_neg h1] at h
    have h2 := mt szB_neg.2 h1
    have h3 := mt szB_neg.2 h
    have h4 : szB 1048576 s.length ≤ 1048576 := (szB_bound (Int.le_refl _)).2
    omega
theorem laws_toByteS_eq {k : Nat} {l : List Int} (hl : l.length ≤ 1048576) (hk : l.length < k) : laws_toByteS.f k l = some l := by
  unfold laws_toByteS.f
  rw [if_pos (by omega), if_pos (by omega)]
  have h := set_loop (L := fun k acc i => laws_toByteS.l0 k l acc i) (xs := l) (f := fun x => x) (B := 0) (k := k) (acc := List.replicate ((l.length : Int)).toNat 0)
    (fun k i acc h _ ha => by
      simp only [laws_toByteS.l0]
      rw [if_pos (by omega), if_pos (by omega), if_pos (by omega), rd_nat h, wrap_succ (by omega)]
      simp)
    (fun k acc _ => by simp only [laws_toByteS.l0]; rw [if_neg (by omega)]) (by simp) (by omega)
  simpa using h
theorem laws_toJournal_eq {k : Nat} {s l : List Int} (hs : s.length ≤ 1048576) (hl : l.length ≤ 1048576) (hk : 1060000 ≤ k) : laws_toJournal.f k s l = some (s, l) := by
  simp only [laws_toJournal.f, laws_toByteS_eq hs (show s.length < k by omega), laws_toByteS_eq hl (show l.length < k by omega), Option.bind_some]
theorem laws_eqByteS_refl {k : Nat} {l : List Int} (hl : l.length ≤ 1048576) (hk : l.length < k) : laws_eqByteS.f k l l = some true := by
  unfold laws_eqByteS.f
  rw [if_pos rfl]
  exact all_loop (L := fun k i => laws_eqByteS.l0 k l l i) (n := l.length) (B := 0)
    (fun k i h _ => by
      simp only [laws_eqByteS.l0]
      rw [if_pos (by omega), if_pos (by omega), if_pos (by omega)]
      simp only [if_true]
      rw [wrap_succ (by omega)])
    (fun k => by simp only [laws_eqByteS.l0]; rw [if_neg (by omega)]) (by omega)
theorem laws_eqJournal_refl {k : Nat} {s l : List Int} (hs : s.length ≤ 1048576) (hl : l.length ≤ 1048576) (hk : 1060000 ≤ k) : laws_eqJournal.f k s l s l = some true := by
  simp only [laws_eqJournal.f, laws_eqByteS_refl hs (show s.length < k by omega), laws_eqByteS_refl hl (show l.length < k by omega), Option.bind_some, if_true]
theorem laws_eqJournalResult_refl {k : Nat} {a b : Int} {s l : List Int} (hs : s.length ≤ 1048576) (hl : l.length ≤ 1048576) (hk : 1060000 ≤ k) : laws_eqJournalResult.f k a b s l a b s l = some true := by
  unfold laws_eqJournalResult.f
  rw [if_pos rfl, if_pos rfl]
  exact B.bind_of (laws_eqJournal_refl hs hl hk) (if_pos rfl)
theorem laws_markByteS_eq {k : Nat} {l : List Int} {m : Int} (h0 : 0 ≤ m) (h1 : m + l.length ≤ 1000000000) (hk : l.length < k) : laws_markByteS.f k l m = some (m + l.length, marks (fun x => x % 256) m l.length) := by
  unfold laws_markByteS.f
  exact mark_loop (L := fun k acc m i => laws_markByteS.l0 k acc m i) (g := (fun x => x % 256))
    (fun k acc m i h hl h0 h1 => by
      simp only [laws_markByteS.l0]
      rw [if_pos (by omega), if_pos (by omega), wrap_succ (by omega), wrap_id (x := m + 1) (by omega) (by omega)]
      simp)
    (fun k acc m hl => by simp only [laws_markByteS.l0]; rw [if_neg (by omega)]) rfl h0 h1 hk
theorem laws_markJournal_eq {k : Nat} {s l : List Int} {m : Int} (h0 : 0 ≤ m) (h1 : m + s.length + l.length ≤ 1000000000) (hk : s.length + l.length < k) :
    laws_markJournal.f k s l m = some (m + s.length + l.length, marks (fun x => x % 256) m s.length, marks (fun x => x % 256) (m + s.length) l.length) := by
  unfold laws_markJournal.f
  exact B.bind_of (laws_markByteS_eq h0 (by omega) (by omega)) (B.bind_of (laws_markByteS_eq (by omega) (by omega) (by omega)) rfl)
theorem laws_markJournalResult_eq {k : Nat} {a b : Int} {s l : List Int} {m : Int} (h0 : 0 ≤ m) (h1 : m + s.length + l.length ≤ 1000000000) (hk : s.length + l.length < k) :
    laws_markJournalResult.f k a b s l m = some (m + s.length + l.length, marks (fun x => x % 256) m s.length, marks (fun x => x % 256) (m + s.length) l.length) := by
  unfold laws_markJournalResult.f
  exact B.bind_of (laws_markJournal_eq h0 h1 hk) rfl
theorem laws_heldByteS_eq {k n : Nat} {m : Int} (h0 : 0 ≤ m) (h1 : m + n ≤ 1000000000) (hk : n < k) : laws_heldByteS.f k (marks (fun x => x % 256) m n) m = some (m + n) := by
  unfold laws_heldByteS.f
  exact held_loop (L := fun k m' i => laws_heldByteS.l0 k (marks (fun x => x % 256) m n) m' i)
    (fun k i h => by
      have hl := marks_length (fun x => x % 256) m n
      have hr : rd (marks (fun x => x % 256) m n) (i : Int) = (m + i) % 256 := by
        rw [rd_nat (by omega), marks_get]
      simp only [laws_heldByteS.l0, hr]
      rw [if_pos (by omega), if_pos (by omega), if_true, wrap_succ (by omega), wrap_id (x := m + i + 1) (by omega) (by omega)]
      congr 1
      omega)
    (fun k m' => by
      have hl := marks_length (fun x => x % 256) m n
      simp only [laws_heldByteS.l0]; rw [if_neg (by omega)]) hk
theorem laws_heldJournal_eq {k n1 n2 : Nat} {m : Int} (h0 : 0 ≤ m) (h1 : m + n1 + n2 ≤ 1000000000) (hk : n1 + n2 < k) :
    laws_heldJournal.f k (marks (fun x => x % 256) m n1) (marks (fun x => x % 256) (m + n1) n2) m = some (m + n1 + n2) := by
  unfold laws_heldJournal.f
  refine B.bind_of (laws_heldByteS_eq h0 (by omega) (by omega)) ?_
  rw [if_neg (by omega)]
  refine B.bind_of (laws_heldByteS_eq (by omega) (by omega) (by omega)) ?_
  rw [if_neg (by omega)]
theorem laws_heldJournalResult_eq {k n1 n2 : Nat} {a b m : Int} (h0 : 0 ≤ m) (h1 : m + n1 + n2 ≤ 1000000000) (hk : n1 + n2 < k) :
    laws_heldJournalResult.f k a b (marks (fun x => x % 256) m n1) (marks (fun x => x % 256) (m + n1) n2) m = some (m + n1 + n2) := by
  unfold laws_heldJournalResult.f
  refine B.bind_of (laws_heldJournal_eq h0 h1 hk) ?_
  rw [if_neg (by omega)]
theorem spec_l1In_eq (n lo hi : Int) : spec_l1In.f n lo hi = some (inB n lo hi) := inB_eq n lo hi
theorem spec_l10Epoch_eq (n : Int) : spec_l10Epoch.f n = some (inB n 1 1000) := by simp only [spec_l10Epoch.f, spec_l1In_eq, Option.bind_some]
theorem spec_l7Peer_eq (n : Int) : spec_l7Peer.f n = some (inB n 0 2) := by simp only [spec_l7Peer.f, spec_l1In_eq, Option.bind_some]
theorem spec_EventFault_eq {k : Nat} (hk : 1 ≤ k) (a b : Int) (l : List Int) : spec_EventFault.f k a b l = some (eventFault a b l.length) := by
  obtain ⟨k, rfl⟩ : ∃ m, k = m + 1 := ⟨k - 1, by omega⟩
  simp only [spec_EventFault.f, spec_l1In_eq, spec_l7Peer_eq, Option.bind_some, spec_EventFault.j0]
  unfold eventFault
  cases h1 : inB a 1 4 <;> cases h2 : inB b 0 2 <;> simp
  by_cases ha : a = 3
  · subst ha
    by_cases hb : b = 0
    · cases l <;> simp [hb]
    · simp [hb]
  · rw [if_neg ha]
    by_cases ha2 : a = 2
    · subst ha2
      cases l with
      | nil => simp
      | cons x xs => simp [ite_some]
    · cases l with
      | nil => simp [ha, ha2]
      | cons x xs => simp [ha, ha2]
theorem spec_EntryFault_eq {k : Nat} (hk : 1 ≤ k) (e a b : Int) (l : List Int) : spec_EntryFault.f k e a b l = some (entryFault e a b l.length) := by
  simp only [spec_EntryFault.f, spec_l10Epoch_eq, spec_EventFault_eq hk, Option.bind_some, ite_some]; rfl
theorem spec_l1Bytes_two {k : Nat} (hk : 3 ≤ k) (a : Int) : spec_l1Bytes.f k a 2 = some (two a) := by
  obtain ⟨k, rfl⟩ : ∃ m, k = m + 3 := ⟨k - 3, by omega⟩
  have e1 : wrap64 (2 - 1) = 1 := by decide +kernel
  have e2 : IntKind.u64.wrap (wrap64 (8 * 1)) = 8 := by decide +kernel
  have e3 : wrap64 (1 - 1) = 0 := by decide +kernel
  have e4 : IntKind.u64.wrap (wrap64 (8 * 0)) = 0 := by decide +kernel
  have e5 : wrap64 (0 - 1) = -1 := by decide +kernel
  unfold spec_l1Bytes.f
  rw [e1]
  show spec_l1Bytes.l0 (k + 2 + 1) a [] 1 = _
  rw [spec_l1Bytes.l0, e2, e3, if_pos (by decide), if_pos (by decide), if_pos (by simp)]
  show spec_l1Bytes.l0 (k + 1 + 1) a _ 0 = _
  rw [spec_l1Bytes.l0, e4, e5, if_pos (by decide), if_pos (by decide), if_pos (by simp)]
  rw [spec_l1Bytes.l0, if_neg (by decide)]
  simp [shr, two, IntKind.bits]
theorem spec_SumBytes_eq {k : Nat} {l : List Int} (hl : l.length ≤ 1048576) (hb : ∀ x ∈ l, (Lit.int .u8 x).wf = true) (hk : l.length < k) : spec_SumBytes.f k l = some (sumOf l) := by
  unfold spec_SumBytes.f sumOf
  refine Eq.trans ?_ (congrArg some (run_foldl (fun h b => (h * 257 + b + 1) % 65521) id l 0 7))
  exact run_loop (L := fun k s i => spec_SumBytes.l0 k l s i) (fun _ s => 0 ≤ s ∧ s < 65521) (B := 0)
    (fun k i s h _ hi => by
      have hx := u8_wf (hb _ (List.getElem_mem h))
      simp only [spec_SumBytes.l0]
      rw [if_pos (by omega), if_pos (by omega), rd_nat h, sumOf_step hi.1 hi.2 hx.1 hx.2, wrap_succ (by omega)])
    (fun i s s' h hi e => by
      injection e with e
      exact e ▸ ⟨Int.emod_nonneg _ (by decide), Int.emod_lt_of_pos _ (by decide)⟩)
    (fun k s _ => by simp only [spec_SumBytes.l0]; rw [if_neg (by omega)]; rfl) ⟨by decide, by decide⟩ (by omega)
def bodyE (e a b : Int) (l : List Int) : List Int := two e ++ [a % 256, b % 256, (l.length : Int) % 256] ++ l
theorem bodyE_length (e a b : Int) (l : List Int) : (bodyE e a b l).length = 5 + l.length := by simp [bodyE, two]; omega
theorem bodyE_wf {e a b : Int} {l : List Int} (h : ∀ x ∈ l, (Lit.int .u8 x).wf = true) : ∀ x ∈ bodyE e a b l, (Lit.int .u8 x).wf = true := by
  have w : ∀ x : Int, (Lit.int .u8 (x % 256)).wf = true := by
    intro x
    rw [Lit.wf_int_iff]
    simp [IntKind.min, IntKind.max, IntKind.signed, IntKind.bits]
    omega
  intro x hx
  simp only [bodyE, two, List.mem_append, List.mem_cons, List.not_mem_nil, or_false] at hx
  rcases hx with (h1 | h1) | h1
  · rcases h1 with h1 | h1 <;> rw [h1] <;> exact w _
  · rcases h1 with h1 | h1 | h1 <;> rw [h1] <;> exact w _
  · exact h x h1
def packE (e a b : Int) (l : List Int) : List Int := [((bodyE e a b l).length : Int) % 256] ++ two (sumOf (bodyE e a b l)) ++ bodyE e a b l
theorem packE_length (e a b : Int) (l : List Int) : (packE e a b l).length = 8 + l.length := by simp [packE, two, bodyE_length]; omega
theorem spec_l10Pack_eq {k : Nat} {e a b : Int} {l : List Int} (hl : l.length ≤ 1000000) (hb : ∀ x ∈ l, (Lit.int .u8 x).wf = true) (hk : l.length + 8 < k) : spec_l10Pack.f k e a b l = some (packE e a b l) := by
  have hw := bodyE_wf (e := e) (a := a) (b := b) hb
  have hn := bodyE_length e a b l
  have ht : ∀ x, (two x).length = 2 := fun x => rfl
  simp only [spec_l10Pack.f, Option.bind_some]
  rw [spec_l1Bytes_two (by omega)]
  simp only [Option.bind_some]
  rw [if_pos (by simp [two]), if_pos (by simp [two]; omega)]
  rw [show two e ++ [a % 256, b % 256, (l.length : Int) % 256] ++ l = bodyE e a b l from rfl]
  rw [spec_SumBytes_eq (by omega) hw (by omega)]
  simp only [Option.bind_some]
  rw [spec_l1Bytes_two (by omega)]
  simp only [Option.bind_some]
  rw [if_pos (by simp [two]), if_pos (by simp [two]; omega)]
  rfl
theorem spec_l1Take_eq {k : Nat} {l : List Int} {a m : Nat} (hm : m ≤ 5) (ha : a + m ≤ l.length) (hl : l.length ≤ 1048576) (hb : ∀ x ∈ l, (Lit.int .u8 x).wf = true) (hk : m < k) : spec_l1Take.f k l (a : Int) (m : Int) = some (numOf ((l.drop a).take m)) := by
  have hlen : ((l.drop a).take m).length = m := by simp; omega
  unfold spec_l1Take.f numOf
  refine Eq.trans ?_ (congrArg some (run_foldl (fun n b => n * 256 + b) id ((l.drop a).take m) 0 0))
  exact run_loop (L := fun k s i => spec_l1Take.l0 k l (a : Int) (m : Int) s i) (fun i s => 0 ≤ s ∧ s < ((256 ^ i : Nat) : Int)) (B := 0)
    (fun k i s h _ hi => by
      rw [hlen] at h
      have hq : a + i < l.length := by omega
      have he : ((l.drop a).take m)[i]'(by rw [hlen]; exact h) = l[a + i] := by simp
      have hx := u8_wf (hb _ (List.getElem_mem hq))
      have hs1 := (numOf_step (by omega) hi.1 hi.2 hx.1 hx.2).2.2
      have hs0 := hi.1
      clear hi
      have hw : wrap64 ((a : Int) + (i : Int)) = ((a + i : Nat) : Int) := by rw [wrap_id (by omega) (by omega)]; omega
      simp only [spec_l1Take.l0, hw]
      clear hw
      rw [if_pos (by omega), if_pos (by omega), if_pos (by omega), rd_nat hq, take_wrap hs0 hs1 hx.1 hx.2, wrap_succ (by omega), he])
    (fun i s s' h hi e => by
      rw [hlen] at h
      have hq : a + i < l.length := by omega
      have he : ((l.drop a).take m)[i]'(by rw [hlen]; exact h) = l[a + i] := by simp
      have hx := u8_wf (hb _ (List.getElem_mem hq))
      have hst := numOf_step (by omega) hi.1 hi.2 hx.1 hx.2
      injection e with e
      rw [he] at e
      exact e ▸ ⟨hst.1, hst.2.1⟩)
    (fun k s _ => by simp only [spec_l1Take.l0]; rw [hlen, if_neg (by omega)]; rfl) ⟨by decide, by decide⟩ (by omega)
theorem u8_mod' (x : Int) : (Lit.int .u8 (x % 256)).wf = true := by
  rw [Lit.wf_int_iff]
  simp [IntKind.min, IntKind.max, IntKind.signed, IntKind.bits]
  omega
theorem entryFault_len {e a b : Int} {n : Nat} (h : entryFault e a b n = 0) : n ≤ 60 := by
  unfold entryFault eventFault at h
  repeat' split at h
  all_goals (try omega)
  all_goals (exact absurd h (by decide))
def zeroE : Int × Int × Int × List Int × Int := (0, 0, 0, [], 0)
def bodyOf (l : List Int) : List Int := (l.take (3 + rd l 0).toNat).drop 3
def goodE (l : List Int) : Prop := numOf ((l.drop 1).take 2) = sumOf (bodyOf l) ∧ rd (bodyOf l) 4 = (((bodyOf l).drop 5).length : Int) ∧ entryFault (numOf ((bodyOf l).take 2)) (rd (bodyOf l) 2) (rd (bodyOf l) 3) ((bodyOf l).drop 5).length = 0
instance (l : List Int) : Decidable (goodE l) := by unfold goodE; exact inferInstance
def oneE (l : List Int) : Int × Int × Int × List Int × Int :=
  if l.length = 0 ∨ rd l 0 < 5 ∨ (l.length : Int) < 3 + rd l 0 then zeroE
  else if goodE l then (numOf ((bodyOf l).take 2), rd (bodyOf l) 2, rd (bodyOf l) 3, (bodyOf l).drop 5, 3 + rd l 0) else zeroE
theorem str_toList (xs : List Int) : (strOfNums xs).toList = xs.map fun n => UInt8.ofNat n.toNat := by
  have h := Go.Lib.strOfNums_toList xs
  rw [h]; rfl
theorem str_inj : ∀ {xs ys : List Int}, (∀ x ∈ xs, (Lit.int .u8 x).wf = true) → (∀ y ∈ ys, (Lit.int .u8 y).wf = true) → (strOfNums xs).toList = (strOfNums ys).toList → xs = ys := by
  intro xs ys hx hy h
  rw [str_toList, str_toList] at h
  induction xs generalizing ys with
  | nil => cases ys with
    | nil => rfl
    | cons y ys => simp at h
  | cons x xs ih => cases ys with
    | nil => simp at h
    | cons y ys =>
      simp only [List.map_cons, List.cons.injEq] at h
      have h1 := u8_wf (hx x (by simp))
      have h2 := u8_wf (hy y (by simp))
      have h3 := congrArg UInt8.toNat h.1
      simp only [UInt8.toNat_ofNat'] at h3
      have h4 : x = y := by omega
      rw [h4, ih (fun z hz => hx z (by simp [hz])) (fun z hz => hy z (by simp [hz])) h.2]
theorem pack_iff {x0 x1 x2 b0 b1 b2 b3 b4 : Int} {bs : List Int} (h1 : 0 ≤ x1 ∧ x1 < 256) (h2 : 0 ≤ x2 ∧ x2 < 256) (g0 : 0 ≤ b0 ∧ b0 < 256) (g1 : 0 ≤ b1 ∧ b1 < 256) (g2 : 0 ≤ b2 ∧ b2 < 256) (g3 : 0 ≤ b3 ∧ b3 < 256)
    (hx : x0 = 5 + (bs.length : Int)) (hn : bs.length ≤ 250) :
    packE (b0 * 256 + b1) b2 b3 bs = [x0, x1, x2, b0, b1, b2, b3, b4] ++ bs ↔ (x1 * 256 + x2 = sumOf ([b0, b1, b2, b3, b4] ++ bs) ∧ b4 = (bs.length : Int)) := by
  have e0 : two (b0 * 256 + b1) = [b0, b1] := by
    unfold two
    rw [show (b0 * 256 + b1) / 256 % 256 = b0 by omega, show (b0 * 256 + b1) % 256 = b1 by omega]
  have e1 : bodyE (b0 * 256 + b1) b2 b3 bs = [b0, b1, b2, b3, (bs.length : Int)] ++ bs := by
    unfold bodyE
    rw [e0, show b2 % 256 = b2 by omega, show b3 % 256 = b3 by omega, show (bs.length : Int) % 256 = bs.length by omega]
    rfl
  have hs := sumOf_bound (l := [b0, b1, b2, b3, (bs.length : Int)] ++ bs)
  unfold packE
  rw [e1]
  have e2 : ((([b0, b1, b2, b3, (bs.length : Int)] ++ bs).length : Nat) : Int) % 256 = x0 := by
    simp only [List.length_append, List.length_cons, List.length_nil]
    omega
  rw [e2]
  constructor
  · intro h
    simp only [two, List.cons_append, List.nil_append, List.cons.injEq, true_and, and_true] at h
    obtain ⟨p1, p2, p3⟩ := h
    have p4 : b4 = (bs.length : Int) := p3.symm
    rw [p4]
    refine ⟨?_, rfl⟩
    simp only [List.cons_append, List.nil_append] at hs ⊢
    omega
  · rintro ⟨p1, rfl⟩
    simp only [List.cons_append, List.nil_append] at hs p1 ⊢
    simp only [two, List.cons_append, List.nil_append, List.cons.injEq, true_and, and_true]
    omega
theorem eight_of {l : List Int} (h : 8 ≤ l.length) : ∃ x0 x1 x2 b0 b1 b2 b3 b4 r, l = x0 :: x1 :: x2 :: b0 :: b1 :: b2 :: b3 :: b4 :: r := by
  match l, h with
  | x0 :: x1 :: x2 :: b0 :: b1 :: b2 :: b3 :: b4 :: r, _ => exact ⟨x0, x1, x2, b0, b1, b2, b3, b4, r, rfl⟩
theorem spec_l10One_eq {k : Nat} {l : List Int} (hl : l.length ≤ 1048576) (hb : ∀ x ∈ l, (Lit.int .u8 x).wf = true) (hk : 2000 ≤ k) : spec_l10One.f k l = some (oneE l) := by
  obtain ⟨k, rfl⟩ : ∃ m, k = m + 1 := ⟨k - 1, by omega⟩
  unfold spec_l10One.f
  by_cases h8 : (l.length : Int) < 8
  · rw [if_pos h8]
    unfold oneE
    rw [if_pos (by omega)]; rfl
  · obtain ⟨x0, x1, x2, b0, b1, b2, b3, b4, r, rfl⟩ := eight_of (l := l) (by omega)
    have m0 := u8_wf (hb x0 (by simp))
    have m1 := u8_wf (hb x1 (by simp))
    have m2 := u8_wf (hb x2 (by simp))
    have n0 := u8_wf (hb b0 (by simp))
    have n1 := u8_wf (hb b1 (by simp))
    have n2 := u8_wf (hb b2 (by simp))
    have n3 := u8_wf (hb b3 (by simp))
    have hr : ∀ x ∈ r, (Lit.int .u8 x).wf = true := fun x hx => hb x (by simp [hx])
    have hlen : (x0 :: x1 :: x2 :: b0 :: b1 :: b2 :: b3 :: b4 :: r).length = r.length + 8 := rfl
    have e0 : rd (x0 :: x1 :: x2 :: b0 :: b1 :: b2 :: b3 :: b4 :: r) 0 = x0 := rfl
    have e5 : rd (x0 :: x1 :: x2 :: b0 :: b1 :: b2 :: b3 :: b4 :: r) 5 = b2 := rfl
    have e6 : rd (x0 :: x1 :: x2 :: b0 :: b1 :: b2 :: b3 :: b4 :: r) 6 = b3 := rfl
    have w0 : Aside0 (wrap64 (3 + wrap64 x0) = 3 + x0) := ⟨by rw [wrap_id (x := x0) (by omega) (by omega), wrap_id (by omega) (by omega)]⟩
    have w5 : Aside0 (wrap64 b2 = b2) := ⟨wrap_id (by omega) (by omega)⟩
    have w6 : Aside0 (wrap64 b3 = b3) := ⟨wrap_id (by omega) (by omega)⟩
    rw [if_neg h8, if_pos (by omega), e0, w0.out]
    by_cases h5 : x0 < 5
    · rw [if_pos (by omega), spec_l10One.j0, if_pos rfl]
      unfold oneE
      rw [e0, if_pos (Or.inr (Or.inl h5))]; rfl
    · rw [if_neg (by omega), spec_l10One.j0]
      by_cases hn : (r.length : Int) + 8 < 3 + x0
      · rw [if_pos (decide_eq_true (by omega))]
        unfold oneE
        rw [e0, if_pos (Or.inr (Or.inr (by omega)))]; rfl
      · rw [if_neg (by simp; omega)]
        obtain ⟨m, rfl⟩ : ∃ m : Nat, x0 = ((m + 5 : Nat) : Int) := ⟨(x0 - 5).toNat, by omega⟩
        have et : (3 + ((m + 5 : Nat) : Int)).toNat = m + 8 := by omega
        have hbo : bodyOf (((m + 5 : Nat) : Int) :: x1 :: x2 :: b0 :: b1 :: b2 :: b3 :: b4 :: r) = b0 :: b1 :: b2 :: b3 :: b4 :: r.take m := by
          unfold bodyOf
          rw [e0, et]; rfl
        have htk : spec_l1Take.f k (((m + 5 : Nat) : Int) :: x1 :: x2 :: b0 :: b1 :: b2 :: b3 :: b4 :: r) 3 2 = some (b0 * 256 + b1) := by
          have := spec_l1Take_eq (k := k) (l := ((m + 5 : Nat) : Int) :: x1 :: x2 :: b0 :: b1 :: b2 :: b3 :: b4 :: r) (a := 3) (m := 2) (by decide) (by omega) hl hb (by omega)
          refine this.trans (congrArg some ?_)
          simp [numOf]
        have hm : (r.take m).length = m := by simp; omega
        have hw : ∀ x ∈ r.take m, (Lit.int .u8 x).wf = true := fun x hx => hr x (List.mem_of_mem_take hx)
        rw [htk, e5, e6, w5.out, w6.out, et]
        simp only [Option.bind_some, List.nil_append]
        have ed : List.drop 8 (List.take (m + 8) (((m + 5 : Nat) : Int) :: x1 :: x2 :: b0 :: b1 :: b2 :: b3 :: b4 :: r)) = r.take m := rfl
        have etk : List.take (m + 8) (((m + 5 : Nat) : Int) :: x1 :: x2 :: b0 :: b1 :: b2 :: b3 :: b4 :: r) = [((m + 5 : Nat) : Int), x1, x2, b0, b1, b2, b3, b4] ++ r.take m := rfl
        rw [ed, etk]
        rw [if_pos (by omega), if_pos (by omega), if_pos (by omega), if_pos (by omega), if_pos (by simp; omega)]
        rw [spec_EntryFault_eq (by omega)]
        simp only [Option.bind_some]
        have hg : goodE (((m + 5 : Nat) : Int) :: x1 :: x2 :: b0 :: b1 :: b2 :: b3 :: b4 :: r) ↔ (x1 * 256 + x2 = sumOf ([b0, b1, b2, b3, b4] ++ r.take m) ∧ b4 = (m : Int) ∧ entryFault (b0 * 256 + b1) b2 b3 m = 0) := by
          unfold goodE
          rw [hbo]
          have a1 : numOf (List.take 2 (List.drop 1 (((m + 5 : Nat) : Int) :: x1 :: x2 :: b0 :: b1 :: b2 :: b3 :: b4 :: r))) = x1 * 256 + x2 := by simp [numOf]
          have a2 : rd (b0 :: b1 :: b2 :: b3 :: b4 :: r.take m) 4 = b4 := rfl
          have a3 : List.drop 5 (b0 :: b1 :: b2 :: b3 :: b4 :: r.take m) = r.take m := rfl
          have a4 : numOf (List.take 2 (b0 :: b1 :: b2 :: b3 :: b4 :: r.take m)) = b0 * 256 + b1 := by simp [numOf]
          have a5 : rd (b0 :: b1 :: b2 :: b3 :: b4 :: r.take m) 2 = b2 := rfl
          have a6 : rd (b0 :: b1 :: b2 :: b3 :: b4 :: r.take m) 3 = b3 := rfl
          rw [a1, a2, a3, a4, a5, a6, hm]
          rfl
        have ho : oneE (((m + 5 : Nat) : Int) :: x1 :: x2 :: b0 :: b1 :: b2 :: b3 :: b4 :: r) = if goodE (((m + 5 : Nat) : Int) :: x1 :: x2 :: b0 :: b1 :: b2 :: b3 :: b4 :: r) then (b0 * 256 + b1, b2, b3, r.take m, 3 + ((m + 5 : Nat) : Int)) else zeroE := by
          unfold oneE
          rw [e0, if_neg (by rw [hlen]; omega), hbo]
          have a4 : numOf (List.take 2 (b0 :: b1 :: b2 :: b3 :: b4 :: r.take m)) = b0 * 256 + b1 := by simp [numOf]
          rw [a4]; rfl
        rw [hm, ho]
        by_cases hf : entryFault (b0 * 256 + b1) b2 b3 m = 0
        · have hm60 := entryFault_len hf
          have hpk := pack_iff (x0 := ((m + 5 : Nat) : Int)) (b4 := b4) (bs := r.take m) m1 m2 n0 n1 n2 n3 (by rw [hm]; omega) (by omega)
          rw [hm] at hpk
          rw [if_pos hf, spec_l10Pack_eq (by omega) hw (by omega)]
          simp only [Option.bind_some]
          rw [if_pos (by omega)]
          have hpw : ∀ x ∈ packE (b0 * 256 + b1) b2 b3 (r.take m), (Lit.int .u8 x).wf = true := by
            intro x hx
            unfold packE at hx
            simp only [two, List.mem_append, List.mem_cons, List.not_mem_nil, or_false] at hx
            rcases hx with (h | h) | h
            · rw [h]; exact u8_mod' _
            · rcases h with h | h <;> rw [h] <;> exact u8_mod' _
            · exact bodyE_wf hw x h
          have hlw : ∀ x ∈ [((m + 5 : Nat) : Int), x1, x2, b0, b1, b2, b3, b4] ++ r.take m, (Lit.int .u8 x).wf = true := by
            intro x hx
            rcases List.mem_append.1 hx with h | h
            · exact hb x (by simp only [List.mem_cons, List.not_mem_nil, or_false] at h ⊢; omega)
            · exact hw x h
          by_cases hp : packE (b0 * 256 + b1) b2 b3 (r.take m) = [((m + 5 : Nat) : Int), x1, x2, b0, b1, b2, b3, b4] ++ r.take m
          · have hq := hpk.1 hp
            rw [if_pos (by rw [hp]), if_pos (hg.2 ⟨hq.1, hq.2, hf⟩)]
          · rw [if_neg (fun h => hp (str_inj hpw hlw h)), if_neg (fun h => hp (hpk.2 ⟨(hg.1 h).1, (hg.1 h).2.1⟩))]
            rfl
        · rw [if_neg hf, if_neg (fun h => hf (hg.1 h).2.2)]
          rfl
theorem oneE_cases (l : List Int) (hb : ∀ x ∈ l, (Lit.int .u8 x).wf = true) : oneE l = zeroE ∨ (8 ≤ (oneE l).2.2.2.2 ∧ (oneE l).2.2.2.2 ≤ l.length ∧ (oneE l).2.2.2.2 ≤ 300) := by
  unfold oneE
  by_cases h : l.length = 0 ∨ rd l 0 < 5 ∨ (l.length : Int) < 3 + rd l 0
  · rw [if_pos h]; exact Or.inl rfl
  · rw [if_neg h]
    by_cases hg : goodE l
    · rw [if_pos hg]
      have h0 : 0 < l.length := by omega
      have hr : rd l 0 ∈ l := by
        have := rd_nat (xs := l) (i := 0) h0
        rw [show ((0 : Nat) : Int) = 0 from rfl] at this
        rw [this]; exact List.getElem_mem _
      have := u8_wf (hb _ hr)
      refine Or.inr ⟨?_, ?_, ?_⟩ <;> (simp only; omega)
    · rw [if_neg hg]; exact Or.inl rfl
def mkE (q : Int × Int × Int × List Int × Int) : S61 := ⟨q.1, ⟨q.2.1, q.2.2.1, q.2.2.2.1⟩⟩
def readEF : Nat → List Int → List S61 × Int
  | 0, _ => ([], 0)
  | d + 1, l => if (oneE l).2.2.2.2 = 0 then ([], 0) else (mkE (oneE l) :: (readEF d (l.drop ((oneE l).2.2.2.2).toNat)).1, (oneE l).2.2.2.2 + (readEF d (l.drop ((oneE l).2.2.2.2).toNat)).2)
def readE (l : List Int) : List S61 × Int := readEF l.length l
theorem readEF_any : ∀ (d d' : Nat) (l : List Int), (∀ x ∈ l, (Lit.int .u8 x).wf = true) → l.length ≤ d → l.length ≤ d' → readEF d l = readEF d' l
  | 0, 0, _, _, _, _ => rfl
  | 0, d' + 1, l, hb, h, _ => by
    obtain rfl : l = [] := List.length_eq_zero_iff.1 (by omega)
    unfold readEF
    rw [if_pos (by decide)]
  | d + 1, 0, l, hb, _, h => by
    obtain rfl : l = [] := List.length_eq_zero_iff.1 (by omega)
    unfold readEF
    rw [if_pos (by decide)]
  | d + 1, d' + 1, l, hb, h, h' => by
    unfold readEF
    rcases oneE_cases l hb with hz | hz
    · rw [hz]; rfl
    · rw [if_neg (by omega), if_neg (by omega), readEF_any d d' _ (fun x hx => hb x (List.mem_of_mem_drop hx)) (by rw [List.length_drop]; omega) (by rw [List.length_drop]; omega)]
theorem readE_stop {l : List Int} (h : (oneE l).2.2.2.2 = 0) : readE l = ([], 0) := by
  unfold readE
  cases l with
  | nil => rfl
  | cons x xs => simp only [List.length_cons, readEF]; rw [if_pos h]
theorem readE_step {l : List Int} (hb : ∀ x ∈ l, (Lit.int .u8 x).wf = true) (h : (oneE l).2.2.2.2 ≠ 0) :
    readE l = (mkE (oneE l) :: (readE (l.drop ((oneE l).2.2.2.2).toNat)).1, (oneE l).2.2.2.2 + (readE (l.drop ((oneE l).2.2.2.2).toNat)).2) := by
  have hz : 8 ≤ (oneE l).2.2.2.2 ∧ (oneE l).2.2.2.2 ≤ l.length ∧ (oneE l).2.2.2.2 ≤ 300 := by
    rcases oneE_cases l hb with hz | hz
    · rw [hz] at h; exact absurd rfl h
    · exact hz
  have e : readEF (l.length) l = readEF ((l.length - 1) + 1) l := by rw [show l.length - 1 + 1 = l.length by omega]
  unfold readE
  rw [e]
  conv => lhs; unfold readEF
  rw [if_neg h, readEF_any (l.length - 1) (l.drop ((oneE l).2.2.2.2).toNat).length _ (fun x hx => hb x (List.mem_of_mem_drop hx)) (by rw [List.length_drop]; omega) (Nat.le_refl _)]
theorem readE_bound : ∀ (n : Nat) (l : List Int), l.length = n → (∀ x ∈ l, (Lit.int .u8 x).wf = true) → 0 ≤ (readE l).2 ∧ (readE l).2 ≤ l.length ∧ ((readE l).1.length : Int) * 8 ≤ (readE l).2 := by
  intro n
  induction n using Nat.strongRecOn with
  | _ n ih =>
    intro l hn hb
    by_cases h : (oneE l).2.2.2.2 = 0
    · rw [readE_stop h]; simp
    · rw [readE_step hb h]
      have hz : 8 ≤ (oneE l).2.2.2.2 ∧ (oneE l).2.2.2.2 ≤ l.length ∧ (oneE l).2.2.2.2 ≤ 300 := by
        rcases oneE_cases l hb with hz | hz
        · rw [hz] at h; exact absurd rfl h
        · exact hz
      have := ih (l.drop ((oneE l).2.2.2.2).toNat).length (by rw [List.length_drop]; omega) _ rfl (fun x hx => hb x (List.mem_of_mem_drop hx))
      rw [List.length_drop] at this
      simp only [List.length_cons]
      omega
theorem read_from {L : Nat → List S61 → Int → Option (List S61 × Int)} {x : List Int} (hx : x.length ≤ 1048576) (hb : ∀ z ∈ x, (Lit.int .u8 z).wf = true)
    (hs : ∀ k acc (i : Nat), i ≤ x.length → 2000 ≤ k → acc.length ≤ 1048576 → L (k + 1) acc (i : Int) = if (oneE (x.drop i)).2.2.2.2 = 0 then some (acc, (i : Int)) else L k (acc ++ [mkE (oneE (x.drop i))]) (wrap64 ((i : Int) + (oneE (x.drop i)).2.2.2.2))) :
    ∀ (d i : Nat) acc (k : Nat), i + d = x.length → acc.length ≤ i → d + 2000 < k → L k acc (i : Int) = some (acc ++ (readE (x.drop i)).1, (i : Int) + (readE (x.drop i)).2) := by
  intro d
  induction d using Nat.strongRecOn with
  | _ d ih =>
    intro i acc k hd ha hk
    obtain ⟨k, rfl⟩ : ∃ m, k = m + 1 := ⟨k - 1, by omega⟩
    have hbd : ∀ z ∈ x.drop i, (Lit.int .u8 z).wf = true := fun z hz => hb z (List.mem_of_mem_drop hz)
    rw [hs k acc i (by omega) (by omega) (by omega)]
    by_cases h : (oneE (x.drop i)).2.2.2.2 = 0
    · rw [if_pos h, readE_stop h]; simp
    · have hz : 8 ≤ (oneE (x.drop i)).2.2.2.2 ∧ (oneE (x.drop i)).2.2.2.2 ≤ (x.drop i).length ∧ (oneE (x.drop i)).2.2.2.2 ≤ 300 := by
        rcases oneE_cases _ hbd with hz | hz
        · rw [hz] at h; exact absurd rfl h
        · exact hz
      rw [List.length_drop] at hz
      rw [if_neg h, readE_step hbd h]
      obtain ⟨m, hm⟩ : ∃ m : Nat, (oneE (x.drop i)).2.2.2.2 = (m : Int) := ⟨((oneE (x.drop i)).2.2.2.2).toNat, by omega⟩
      rw [hm] at hz ⊢
      rw [wrap_id (by omega) (by omega), show (i : Int) + (m : Int) = ((i + m : Nat) : Int) by omega, ih (d - m) (by omega) (i + m) _ k (by omega) (by simp; omega) (by omega)]
      rw [Int.toNat_natCast, List.drop_drop, List.append_assoc]
      refine congrArg some (Prod.ext rfl ?_)
      simp only
      omega
theorem spec_l10Read_eq {k : Nat} {l : List Int} (hl : l.length ≤ 1048576) (hb : ∀ x ∈ l, (Lit.int .u8 x).wf = true) (hk : l.length + 2000 < k) : spec_l10Read.f k l = some (readE l) := by
  unfold spec_l10Read.f
  have := read_from (L := fun k acc i => spec_l10Read.l0 k l acc i) hl hb
    (fun k acc i hi hk ha => by
      have hbd : ∀ z ∈ l.drop i, (Lit.int .u8 z).wf = true := fun z hz => hb z (List.mem_of_mem_drop hz)
      simp only [spec_l10Read.l0]
      rw [if_pos (by omega), if_pos (by omega), Int.toNat_natCast, spec_l10One_eq (by rw [List.length_drop]; omega) hbd (by omega)]
      simp only [Option.bind_some]
      by_cases h : (oneE (l.drop i)).2.2.2.2 = 0
      · rw [if_pos h, if_pos h]
      · rw [if_neg h, if_neg h, if_pos (by omega)]; rfl)
    l.length 0 [] k (by omega) (by simp) (by omega)
  simpa using this
def journalFault (s l : List Int) : Int := if (s.length : Int) + l.length > 6000 then 2 else if (readE s).2 = (s.length : Int) then (if (readE l).2 = (l.length : Int) then 0 else 5) else 5
theorem spec_JournalFault_eq {k : Nat} {s l : List Int} (hs : s.length ≤ 1048576) (hl : l.length ≤ 1048576) (hbs : ∀ x ∈ s, (Lit.int .u8 x).wf = true) (hbl : ∀ x ∈ l, (Lit.int .u8 x).wf = true) (hk : 1060000 ≤ k) :
    spec_JournalFault.f k s l = some (journalFault s l) := by
  unfold spec_JournalFault.f journalFault
  rw [wrap_id (by omega) (by omega)]
  by_cases h : (s.length : Int) + l.length > 6000
  · rw [if_pos h, if_pos h]
  · rw [if_neg h, if_neg h, spec_l10Read_eq hs hbs (by omega)]
    simp only [Option.bind_some]
    by_cases h1 : (readE s).2 = (s.length : Int)
    · rw [if_pos h1, if_pos h1, spec_l10Read_eq hl hbl (by omega)]
      simp only [Option.bind_some, ite_some]
    · rw [if_neg h1, if_neg h1]
def jof (s l : List Int) : Int × Int × List Int × List Int := (0, ((readE s).1.length : Int) + ((readE l).1.length : Int), s, l)
theorem jof_wrap {s l : List Int} (hs : s.length ≤ 1048576) (hl : l.length ≤ 1048576) (hbs : ∀ x ∈ s, (Lit.int .u8 x).wf = true) (hbl : ∀ x ∈ l, (Lit.int .u8 x).wf = true) : wrap64 (((readE s).1.length : Int) + ((readE l).1.length : Int)) = ((readE s).1.length : Int) + ((readE l).1.length : Int) := by
  have b1 := readE_bound s.length s rfl hbs
  have b2 := readE_bound l.length l rfl hbl
  exact wrap_id (by omega) (by omega)
theorem spec_l10Of_eq {k : Nat} {s l : List Int} (hs : s.length ≤ 1048576) (hl : l.length ≤ 1048576) (hbs : ∀ x ∈ s, (Lit.int .u8 x).wf = true) (hbl : ∀ x ∈ l, (Lit.int .u8 x).wf = true) (hk : 1060000 ≤ k) : spec_l10Of.f k s l = some (jof s l) := by
  unfold spec_l10Of.f jof
  have e1 := spec_l10Read_eq hs hbs (show s.length + 2000 < k by omega)
  have e2 := spec_l10Read_eq hl hbl (show l.length + 2000 < k by omega)
  have e3 := jof_wrap hs hl hbs hbl
  generalize readE s = a at *
  generalize readE l = b at *
  refine B.bind_of rfl ?_
  rw [if_pos (by simp only [List.length_nil]; omega)]
  refine B.bind_of rfl ?_
  rw [if_pos (by simp only [List.length_nil]; omega)]
  refine B.bind_of e1 (B.bind_of e2 ?_)
  rw [e3]; rfl
theorem pack_one {l : List Int} (hb : ∀ x ∈ l, (Lit.int .u8 x).wf = true) (h : (oneE l).2.2.2.2 ≠ 0) :
    packE (oneE l).1 (oneE l).2.1 (oneE l).2.2.1 (oneE l).2.2.2.1 = l.take ((oneE l).2.2.2.2).toNat ∧ (oneE l).2.2.2.1.length ≤ 60 ∧ ∀ x ∈ (oneE l).2.2.2.1, (Lit.int .u8 x).wf = true := by
  unfold oneE at h ⊢
  by_cases c : l.length = 0 ∨ rd l 0 < 5 ∨ (l.length : Int) < 3 + rd l 0
  · rw [if_pos c] at h; exact absurd rfl h
  · rw [if_neg c] at h ⊢
    by_cases g : goodE l
    · rw [if_pos g]
      clear h
      obtain ⟨x0, x1, x2, b0, b1, b2, b3, b4, r, rfl⟩ := eight_of (l := l) (by omega)
      have m1 := u8_wf (hb x1 (by simp))
      have m2 := u8_wf (hb x2 (by simp))
      have n0 := u8_wf (hb b0 (by simp))
      have n1 := u8_wf (hb b1 (by simp))
      have n2 := u8_wf (hb b2 (by simp))
      have n3 := u8_wf (hb b3 (by simp))
      have hr : ∀ x ∈ r, (Lit.int .u8 x).wf = true := fun x hx => hb x (by simp [hx])
      have hlen : (x0 :: x1 :: x2 :: b0 :: b1 :: b2 :: b3 :: b4 :: r).length = r.length + 8 := rfl
      have e0 : rd (x0 :: x1 :: x2 :: b0 :: b1 :: b2 :: b3 :: b4 :: r) 0 = x0 := rfl
      rw [e0, hlen] at c
      obtain ⟨m, rfl⟩ : ∃ m : Nat, x0 = ((m + 5 : Nat) : Int) := ⟨(x0 - 5).toNat, by omega⟩
      have et : (3 + ((m + 5 : Nat) : Int)).toNat = m + 8 := by omega
      have hbo : bodyOf (((m + 5 : Nat) : Int) :: x1 :: x2 :: b0 :: b1 :: b2 :: b3 :: b4 :: r) = b0 :: b1 :: b2 :: b3 :: b4 :: r.take m := by
        unfold bodyOf
        rw [e0, et]; rfl
      have hm : (r.take m).length = m := by simp; omega
      have hw : ∀ x ∈ r.take m, (Lit.int .u8 x).wf = true := fun x hx => hr x (List.mem_of_mem_take hx)
      unfold goodE at g
      rw [hbo] at g
      have a1 : numOf (List.take 2 (List.drop 1 (((m + 5 : Nat) : Int) :: x1 :: x2 :: b0 :: b1 :: b2 :: b3 :: b4 :: r))) = x1 * 256 + x2 := by simp [numOf]
      have a2 : rd (b0 :: b1 :: b2 :: b3 :: b4 :: r.take m) 4 = b4 := rfl
      have a3 : List.drop 5 (b0 :: b1 :: b2 :: b3 :: b4 :: r.take m) = r.take m := rfl
      have a4 : numOf (List.take 2 (b0 :: b1 :: b2 :: b3 :: b4 :: r.take m)) = b0 * 256 + b1 := by simp [numOf]
      have a5 : rd (b0 :: b1 :: b2 :: b3 :: b4 :: r.take m) 2 = b2 := rfl
      have a6 : rd (b0 :: b1 :: b2 :: b3 :: b4 :: r.take m) 3 = b3 := rfl
      rw [a1, a2, a3, a4, a5, a6, hm] at g
      obtain ⟨g1, g2, g3⟩ := g
      have hm60 := entryFault_len g3
      have hpk := pack_iff (x0 := ((m + 5 : Nat) : Int)) (b4 := b4) (bs := r.take m) m1 m2 n0 n1 n2 n3 (by rw [hm]; omega) (by omega)
      rw [hm] at hpk
      simp only [hbo, a3, a4, a5, a6, e0, et]
      refine ⟨?_, by rw [hm]; exact hm60, hw⟩
      rw [hpk.2 ⟨g1, g2⟩]
      rfl
    · rw [if_neg g] at h; exact absurd rfl h
def packEs (es : List S61) : List Int := (es.map (fun e => packE e.f0 e.f1.f0 e.f1.f1 e.f1.f2)).flatten
def goodEs (es : List S61) : Prop := ∀ e ∈ es, e.f1.f2.length ≤ 60 ∧ ∀ x ∈ e.f1.f2, (Lit.int .u8 x).wf = true
theorem packEs_cons (e : S61) (es : List S61) : packEs (e :: es) = packE e.f0 e.f1.f0 e.f1.f1 e.f1.f2 ++ packEs es := rfl
theorem packEs_nil : packEs [] = [] := rfl
theorem packEs_len {es : List S61} (h : goodEs es) : (packEs es).length ≤ 68 * es.length := by
  induction es with
  | nil => simp [packEs]
  | cons e es ih =>
    have h1 := (h e (by simp)).1
    have h2 := ih (fun x hx => h x (by simp [hx]))
    rw [packEs_cons, List.length_append, packE_length, List.length_cons]
    omega
theorem packE_wfC {e a b : Int} {l : List Int} (hb : ∀ x ∈ l, (Lit.int .u8 x).wf = true) : ∀ x ∈ packE e a b l, (Lit.int .u8 x).wf = true := by
  intro x hx
  have hw := bodyE_wf (e := e) (a := a) (b := b) hb
  simp only [packE, two, List.mem_append, List.mem_cons, List.not_mem_nil, or_false] at hx
  rcases hx with (h | h) | h
  · rw [h]; exact u8_mod' _
  · rcases h with h | h <;> rw [h] <;> exact u8_mod' _
  · exact hw x h
theorem packEs_wf {es : List S61} (h : goodEs es) : ∀ x ∈ packEs es, (Lit.int .u8 x).wf = true := by
  induction es with
  | nil => intro x hx; exact absurd hx (by simp [packEs])
  | cons e es ih =>
    intro x hx
    rw [packEs_cons] at hx
    rcases List.mem_append.1 hx with q | q
    · exact packE_wfC (h e (by simp)).2 x q
    · exact ih (fun y hy => h y (by simp [hy])) x q
theorem readE_pack : ∀ (n : Nat) (l : List Int), l.length = n → (∀ x ∈ l, (Lit.int .u8 x).wf = true) → packEs (readE l).1 = l.take ((readE l).2).toNat ∧ goodEs (readE l).1 := by
  intro n
  induction n using Nat.strongRecOn with
  | _ n ih =>
    intro l hn hb
    by_cases h : (oneE l).2.2.2.2 = 0
    · rw [readE_stop h]; exact ⟨rfl, fun e he => absurd he (by simp)⟩
    · rw [readE_step hb h]
      have hz : 8 ≤ (oneE l).2.2.2.2 ∧ (oneE l).2.2.2.2 ≤ l.length ∧ (oneE l).2.2.2.2 ≤ 300 := by
        rcases oneE_cases l hb with hz | hz
        · rw [hz] at h; exact absurd rfl h
        · exact hz
      have hp := pack_one hb h
      have hbd : ∀ x ∈ l.drop ((oneE l).2.2.2.2).toNat, (Lit.int .u8 x).wf = true := fun x hx => hb x (List.mem_of_mem_drop hx)
      have hi := ih (l.drop ((oneE l).2.2.2.2).toNat).length (by rw [List.length_drop]; omega) _ rfl hbd
      have hbn := readE_bound _ _ rfl hbd
      refine ⟨?_, fun e he => ?_⟩
      · rw [packEs_cons, hi.1]
        show packE (oneE l).1 (oneE l).2.1 (oneE l).2.2.1 (oneE l).2.2.2.1 ++ _ = _
        rw [hp.1]
        have e2 : ((oneE l).2.2.2.2 + (readE (l.drop ((oneE l).2.2.2.2).toNat)).2).toNat = ((oneE l).2.2.2.2).toNat + ((readE (l.drop ((oneE l).2.2.2.2).toNat)).2).toNat := by omega
        show _ = l.take ((oneE l).2.2.2.2 + (readE (l.drop ((oneE l).2.2.2.2).toNat)).2).toNat
        rw [e2, List.take_add]
      · rcases List.mem_cons.1 he with q | q
        · rw [q]; exact hp.2
        · exact hi.2 e q
theorem spec_l10Cut_eq {l : List Int} (hl : l.length ≤ 1048576) (hb : ∀ x ∈ l, (Lit.int .u8 x).wf = true) : ∀ (c i k : Nat), i ≤ l.length → c ≤ (readE (l.drop i)).1.length → c ≤ 1000000 → c + 2001 < k →
    spec_l10Cut.l0 k l (c : Int) (i : Int) = some (l.take i ++ packEs ((readE (l.drop i)).1.take c)) := by
  intro c
  induction c with
  | zero =>
    intro i k hi hc hc2 hk
    obtain ⟨k, rfl⟩ : ∃ m, k = m + 1 := ⟨k - 1, by omega⟩
    rw [spec_l10Cut.l0, if_neg (by omega), if_pos (by omega), if_pos (by omega), Int.toNat_natCast, List.take_zero, packEs_nil, List.append_nil]
  | succ c ih =>
    intro i k hi hc hc2 hk
    obtain ⟨k, rfl⟩ : ∃ m, k = m + 1 := ⟨k - 1, by omega⟩
    have hbd : ∀ x ∈ l.drop i, (Lit.int .u8 x).wf = true := fun x hx => hb x (List.mem_of_mem_drop hx)
    have hne : (oneE (l.drop i)).2.2.2.2 ≠ 0 := fun q => by rw [readE_stop q] at hc; simp at hc
    have hz : 8 ≤ (oneE (l.drop i)).2.2.2.2 ∧ (oneE (l.drop i)).2.2.2.2 ≤ (l.drop i).length ∧ (oneE (l.drop i)).2.2.2.2 ≤ 300 := by
      rcases oneE_cases _ hbd with hz | hz
      · rw [hz] at hne; exact absurd rfl hne
      · exact hz
    have hp := (pack_one hbd hne).1
    rw [readE_step hbd hne] at hc ⊢
    rw [spec_l10Cut.l0, if_pos (by omega), if_pos (by omega), if_pos (by omega), Int.toNat_natCast, spec_l10One_eq (by rw [List.length_drop]; omega) hbd (by omega)]
    simp only [Option.bind_some]
    obtain ⟨m, hm⟩ : ∃ m : Nat, (oneE (l.drop i)).2.2.2.2 = (m : Int) := ⟨((oneE (l.drop i)).2.2.2.2).toNat, by omega⟩
    rw [hm] at hz hp hc ⊢
    rw [List.length_drop] at hz
    rw [wrap_id (x := ((c + 1 : Nat) : Int) - 1) (by omega) (by omega), wrap_id (x := (i : Int) + (m : Int)) (by omega) (by omega), show ((c + 1 : Nat) : Int) - 1 = (c : Int) by omega, show (i : Int) + (m : Int) = ((i + m : Nat) : Int) by omega]
    rw [Int.toNat_natCast, List.drop_drop] at hc
    simp only [List.length_cons] at hc
    rw [ih (i + m) k (by omega) (by omega) (by omega) (by omega), List.take_succ_cons, packEs_cons]
    show some _ = some (l.take i ++ (packE (oneE (l.drop i)).1 (oneE (l.drop i)).2.1 (oneE (l.drop i)).2.2.1 (oneE (l.drop i)).2.2.2.1 ++ _))
    rw [hp, Int.toNat_natCast, List.drop_drop, List.take_add, List.append_assoc]
theorem journalFault_ok {s l : List Int} (h : journalFault s l = 0) : s.length + l.length ≤ 6000 ∧ (readE s).2 = s.length ∧ (readE l).2 = l.length := by
  unfold journalFault at h
  by_cases h1 : (s.length : Int) + l.length > 6000
  · rw [if_pos h1] at h; exact absurd h (by decide)
  · rw [if_neg h1] at h
    by_cases h2 : (readE s).2 = (s.length : Int)
    · rw [if_pos h2] at h
      by_cases h3 : (readE l).2 = (l.length : Int)
      · exact ⟨by omega, h2, h3⟩
      · rw [if_neg h3] at h; exact absurd h (by decide)
    · rw [if_neg h2] at h; exact absurd h (by decide)
def cutS (s : List Int) (n : Int) : List Int := packEs ((readE s).1.take n.toNat)
def cutL (s l : List Int) (n : Int) : List Int := packEs ((readE l).1.take (n.toNat - (readE s).1.length))
def cutJ (s l : List Int) (n : Int) : Int × Int × List Int × List Int :=
  if journalFault s l = 0 then (if inB n 0 (((readE s).1.length : Int) + ((readE l).1.length : Int)) = true then jof (cutS s n) (cutL s l n) else (3, 0, [], [])) else (journalFault s l, 0, [], [])
theorem good_take {es : List S61} (h : goodEs es) (n : Nat) : goodEs (es.take n) := fun e he => h e (List.mem_of_mem_take he)
theorem cut_ok {s l : List Int} (n : Int) (hbs : ∀ x ∈ s, (Lit.int .u8 x).wf = true) (hbl : ∀ x ∈ l, (Lit.int .u8 x).wf = true) (h6 : s.length + l.length ≤ 6000) :
    (cutS s n).length ≤ 100000 ∧ (cutL s l n).length ≤ 100000 ∧ (∀ x ∈ cutS s n, (Lit.int .u8 x).wf = true) ∧ ∀ x ∈ cutL s l n, (Lit.int .u8 x).wf = true := by
  have g1 := (readE_pack _ s rfl hbs).2
  have g2 := (readE_pack _ l rfl hbl).2
  have b1 := readE_bound _ s rfl hbs
  have b2 := readE_bound _ l rfl hbl
  have l1 := packEs_len (good_take g1 n.toNat)
  have l2 := packEs_len (good_take g2 (n.toNat - (readE s).1.length))
  rw [List.length_take] at l1 l2
  unfold cutS cutL
  exact ⟨by omega, by omega, packEs_wf (good_take g1 _), packEs_wf (good_take g2 _)⟩
theorem cutJ_len {s l : List Int} (n : Int) (hbs : ∀ x ∈ s, (Lit.int .u8 x).wf = true) (hbl : ∀ x ∈ l, (Lit.int .u8 x).wf = true) : (cutJ s l n).2.2.1.length ≤ 100000 ∧ (cutJ s l n).2.2.2.length ≤ 100000 := by
  unfold cutJ
  by_cases h : journalFault s l = 0
  · have h6 := (journalFault_ok h).1
    have hc := cut_ok (s := s) (l := l) n hbs hbl h6
    rw [if_pos h]
    by_cases hi : inB n 0 (((readE s).1.length : Int) + ((readE l).1.length : Int)) = true
    · rw [if_pos hi]; exact ⟨hc.1, hc.2.1⟩
    · rw [if_neg hi]; simp
  · rw [if_neg h]; simp
theorem spec_CutJournal_eq {k : Nat} {s l : List Int} (n : Int) (hs : s.length ≤ 1048576) (hl : l.length ≤ 1048576) (hbs : ∀ x ∈ s, (Lit.int .u8 x).wf = true) (hbl : ∀ x ∈ l, (Lit.int .u8 x).wf = true) (hk : 1060000 ≤ k) : spec_CutJournal.f k s l n = some (cutJ s l n) := by
  unfold spec_CutJournal.f cutJ
  have e0 := spec_JournalFault_eq hs hl hbs hbl hk
  have hok := fun h => journalFault_ok (s := s) (l := l) h
  generalize journalFault s l = j at *
  refine B.bind_of e0 ?_
  by_cases h : j = 0
  · have h6 := hok h
    have b1 := readE_bound _ s rfl hbs
    have b2 := readE_bound _ l rfl hbl
    have hc := cut_ok (s := s) (l := l) n hbs hbl h6.1
    rw [if_pos h, if_pos h]
    refine B.bind_of (spec_l10Read_eq hs hbs (by omega)) (B.bind_of (spec_l10Read_eq hl hbl (by omega)) (B.bind_of (spec_l1In_eq n 0 _) ?_))
    rw [wrap_id (x := ((readE s).1.length : Int) + ((readE l).1.length : Int)) (by omega) (by omega)]
    by_cases hi : inB n 0 (((readE s).1.length : Int) + ((readE l).1.length : Int)) = true
    · have hj := inB_iff.1 hi
      rw [if_pos hi, if_pos hi]
      obtain ⟨c, rfl⟩ := Int.eq_ofNat_of_zero_le hj.1
      by_cases hn : (c : Int) ≤ ((readE s).1.length : Int)
      · rw [if_pos hn]
        have e1 : spec_l10Cut.f k s (c : Int) = some (cutS s c) := by
          have := spec_l10Cut_eq hs hbs c 0 k (by omega) (by simpa using by omega) (by omega) (by omega)
          unfold spec_l10Cut.f cutS
          simpa using this
        have e2 : cutL s l (c : Int) = [] := by
          unfold cutL
          rw [Int.toNat_natCast, show c - (readE s).1.length = 0 by omega, List.take_zero]; rfl
        rw [e2]
        refine B.bind_of e1 (B.bind_of (spec_l10Of_eq (by omega) (by simp) hc.2.2.1 (by simp) hk) rfl)
      · rw [if_neg hn]
        have e1 : spec_l10Cut.f k l (wrap64 ((c : Int) - ((readE s).1.length : Int))) = some (cutL s l c) := by
          rw [wrap_id (by omega) (by omega), show (c : Int) - ((readE s).1.length : Int) = ((c - (readE s).1.length : Nat) : Int) by omega]
          have := spec_l10Cut_eq hl hbl (c - (readE s).1.length) 0 k (by omega) (by simpa using by omega) (by omega) (by omega)
          unfold spec_l10Cut.f cutL
          simpa using this
        have e2 : cutS s (c : Int) = s := by
          unfold cutS
          rw [Int.toNat_natCast, List.take_of_length_le (by omega), (readE_pack _ s rfl hbs).1, h6.2.1, Int.toNat_natCast, List.take_length]
        rw [e2]
        refine B.bind_of e1 (B.bind_of (spec_l10Of_eq hs (by omega) hbs hc.2.2.2 hk) rfl)
    · rw [if_neg hi, if_neg hi]
  · rw [if_neg h, if_neg h]
theorem impl_in_eq (n lo hi : Int) : impl_in.f n lo hi = some (inB n lo hi) := inB_eq n lo hi
theorem impl_isEpoch_eq (n : Int) : impl_isEpoch.f n = some (inB n 1 1000) := by simp only [impl_isEpoch.f, impl_in_eq, Option.bind_some]
theorem impl_isPeer_eq (n : Int) : impl_isPeer.f n = some (inB n 0 2) := by simp only [impl_isPeer.f, impl_in_eq, Option.bind_some]
theorem impl_EventFault_eq {k : Nat} (hk : 1 ≤ k) (a b : Int) (l : List Int) : impl_EventFault.f k a b l = some (eventFault a b l.length) := by
  obtain ⟨k, rfl⟩ : ∃ m, k = m + 1 := ⟨k - 1, by omega⟩
  simp only [impl_EventFault.f, impl_in_eq, impl_isPeer_eq, Option.bind_some, impl_EventFault.j0]
  unfold eventFault
  cases h1 : inB a 1 4 <;> cases h2 : inB b 0 2 <;> simp
  by_cases ha : a = 3
  · subst ha
    by_cases hb : b = 0
    · cases l <;> simp [hb]
    · simp [hb]
  · rw [if_neg ha]
    by_cases ha2 : a = 2
    · subst ha2
      cases l with
      | nil => simp
      | cons x xs => simp [ite_some]
    · cases l with
      | nil => simp [ha, ha2]
      | cons x xs => simp [ha, ha2]
theorem impl_EntryFault_eq {k : Nat} (hk : 1 ≤ k) (e a b : Int) (l : List Int) : impl_EntryFault.f k e a b l = some (entryFault e a b l.length) := by
  simp only [impl_EntryFault.f, impl_isEpoch_eq, impl_EventFault_eq hk, Option.bind_some, ite_some]; rfl
theorem slices_Clone_byte_byte_eq {l : List Int} (hl : l.length ≤ 10000000) : slices_Clone_byte_byte.f l = some l := by
  simp only [slices_Clone_byte_byte.f, Option.bind_some, List.nil_append]
  rw [if_pos (by simp; omega)]
theorem impl_SumBytes_eq {k : Nat} {l : List Int} (hl : l.length ≤ 1048576) (hb : ∀ x ∈ l, (Lit.int .u8 x).wf = true) (hk : l.length < k) : impl_SumBytes.f k l = some (sumOf l) := by
  unfold impl_SumBytes.f sumOf
  refine Eq.trans ?_ (congrArg some (run_foldl (fun h b => (h * 257 + b + 1) % 65521) id l 0 7))
  exact run_loop (L := fun k s i => impl_SumBytes.l0 k s l (l.length : Int) i) (fun _ s => 0 ≤ s ∧ s < 65521) (B := 0)
    (fun k i s h _ hi => by
      have hx := u8_wf (hb _ (List.getElem_mem h))
      simp only [impl_SumBytes.l0]
      rw [if_pos (by omega), if_pos (by omega), if_pos (by omega), rd_nat h, sumOf_step hi.1 hi.2 hx.1 hx.2, wrap_succ (by omega)])
    (fun i s s' h hi e => by
      injection e with e
      exact e ▸ ⟨Int.emod_nonneg _ (by decide), Int.emod_lt_of_pos _ (by decide)⟩)
    (fun k s _ => by simp only [impl_SumBytes.l0]; rw [if_neg (by omega)]; rfl) ⟨by decide, by decide⟩ (by omega)
theorem impl_numberOf_eq {k : Nat} {l : List Int} (hl : l.length ≤ 5) (hb : ∀ x ∈ l, (Lit.int .u8 x).wf = true) (hk : l.length < k) : impl_numberOf.f k l = some (numOf l) := by
  unfold impl_numberOf.f numOf
  refine Eq.trans ?_ (congrArg some (run_foldl (fun n b => n * 256 + b) id l 0 0))
  exact run_loop (L := fun k s i => impl_numberOf.l0 k s l (l.length : Int) i) (fun i s => 0 ≤ s ∧ s < ((256 ^ i : Nat) : Int)) (B := 0)
    (fun k i s h _ hi => by
      have hx := u8_wf (hb _ (List.getElem_mem h))
      have hst := numOf_step (by omega) hi.1 hi.2 hx.1 hx.2
      simp only [impl_numberOf.l0]
      rw [if_pos (by omega), if_pos (by omega), if_pos (by omega), rd_nat h, or_wrap hi.1 hst.2.2 hx.1 hx.2, wrap_succ (by omega)])
    (fun i s s' h hi e => by
      have hx := u8_wf (hb _ (List.getElem_mem h))
      have hst := numOf_step (by omega) hi.1 hi.2 hx.1 hx.2
      injection e with e
      exact e ▸ ⟨hst.1, hst.2.1⟩)
    (fun k s _ => by simp only [impl_numberOf.l0]; rw [if_neg (by omega)]; rfl) ⟨by decide, by decide⟩ (by omega)
theorem impl_nextEntry_eq {k : Nat} {l : List Int} (hl : l.length ≤ 1048576) (hb : ∀ x ∈ l, (Lit.int .u8 x).wf = true) (hk : 2000 ≤ k) : impl_nextEntry.f k l = some (oneE l) := by
  obtain ⟨k, rfl⟩ : ∃ m, k = m + 1 := ⟨k - 1, by omega⟩
  unfold impl_nextEntry.f
  by_cases h0 : l.length = 0
  · rw [if_pos (by omega), impl_nextEntry.j0, if_pos rfl]
    unfold oneE; rw [if_pos (Or.inl h0)]; rfl
  · rw [if_neg (by omega), if_pos (by omega)]
    have hr : rd l 0 ∈ l := by
      have := rd_nat (xs := l) (i := 0) (by omega)
      rw [show ((0 : Nat) : Int) = 0 from rfl] at this
      rw [this]; exact List.getElem_mem _
    have hr := u8_wf (hb _ hr)
    have hw : Aside0 (wrap64 (3 + wrap64 (rd l 0)) = 3 + rd l 0) := ⟨by rw [wrap_id (x := rd l 0) (by omega) (by omega), wrap_id (by omega) (by omega)]⟩
    by_cases h5 : rd l 0 < 5
    · rw [if_pos h5, impl_nextEntry.j0, if_pos rfl]
      unfold oneE; rw [if_pos (Or.inr (Or.inl h5))]; rfl
    · rw [if_neg h5, hw.out, impl_nextEntry.j0]
      by_cases hn : (l.length : Int) < 3 + rd l 0
      · rw [if_pos (decide_eq_true hn)]
        unfold oneE; rw [if_pos (Or.inr (Or.inr hn))]; rfl
      · rw [if_neg (by simp; omega)]
        have hbo : (l.take (3 + rd l 0).toNat).drop 3 = bodyOf l := rfl
        have hbl : (bodyOf l).length = (rd l 0).toNat := by
          unfold bodyOf
          rw [List.length_drop, List.length_take]; omega
        have hbb : ∀ x ∈ bodyOf l, (Lit.int .u8 x).wf = true := fun x hx => hb x (List.mem_of_mem_take (List.mem_of_mem_drop hx))
        have hrd : ∀ i : Nat, i < (bodyOf l).length → wrap64 (rd (bodyOf l) (i : Int)) = rd (bodyOf l) (i : Int) := by
          intro i hi
          have h1 : rd (bodyOf l) (i : Int) ∈ bodyOf l := by rw [rd_nat hi]; exact List.getElem_mem _
          have h2 := u8_wf (hbb _ h1)
          exact wrap_id (by omega) (by omega)
        have r2 := hrd 2 (by omega)
        have r3 := hrd 3 (by omega)
        have r4 := hrd 4 (by omega)
        simp only [Int.cast_ofNat_Int] at r2 r3 r4
        simp only [hw.out, hbo, r2, r3, r4]
        clear r2 r3 r4 hrd hw
        rw [if_pos (by omega), if_pos (by omega), if_pos (by omega), if_pos (by omega), impl_numberOf_eq (by simp; omega) (fun x hx => hbb x (List.mem_of_mem_take hx)) (by simp; omega)]
        simp only [Option.bind_some]
        rw [if_pos (by omega), if_pos (by omega), if_pos (by omega), slices_Clone_byte_byte_eq (by rw [List.length_drop]; omega)]
        simp only [Option.bind_some]
        rw [if_pos (by omega), if_pos (by omega), impl_numberOf_eq (by simp; omega) (fun x hx => hb x (List.mem_of_mem_take (List.mem_of_mem_drop hx))) (by simp; omega)]
        simp only [Option.bind_some]
        rw [impl_SumBytes_eq (by omega) hbb (by omega)]
        simp only [Option.bind_some]
        have e1 : List.drop 1 (List.take 3 l) = (l.drop 1).take 2 := by rw [List.drop_take]
        have e2 : Aside0 (wrap64 (((bodyOf l).length : Int) - 5) = (((bodyOf l).drop 5).length : Int)) := ⟨by
          rw [List.length_drop, wrap_id (by omega) (by omega)]; omega⟩
        have hz : oneE l = if goodE l then (numOf ((bodyOf l).take 2), rd (bodyOf l) 2, rd (bodyOf l) 3, (bodyOf l).drop 5, 3 + rd l 0) else zeroE := by
          unfold oneE; rw [if_neg (by omega)]
        rw [e1, e2.out, hz]
        by_cases g1 : numOf ((l.drop 1).take 2) = sumOf (bodyOf l)
        · rw [if_pos g1, if_pos (by omega)]
          by_cases g2 : rd (bodyOf l) 4 = (((bodyOf l).drop 5).length : Int)
          · rw [if_pos g2, impl_EntryFault_eq (by omega)]
            simp only [Option.bind_some]
            by_cases g3 : entryFault (numOf ((bodyOf l).take 2)) (rd (bodyOf l) 2) (rd (bodyOf l) 3) ((bodyOf l).drop 5).length = 0
            · rw [if_pos g3, if_pos (show goodE l from ⟨g1, g2, g3⟩)]
            · rw [if_neg g3, if_neg (fun h : goodE l => g3 h.2.2)]; rfl
          · rw [if_neg g2, if_neg (fun h : goodE l => g2 h.2.1)]; rfl
        · rw [if_neg g1, if_neg (fun h : goodE l => g1 h.1)]; rfl
theorem impl_readEntries_eq {k : Nat} {l : List Int} (hl : l.length ≤ 1048576) (hb : ∀ x ∈ l, (Lit.int .u8 x).wf = true) (hk : l.length + 2000 < k) : impl_readEntries.f k l = some (readE l) := by
  unfold impl_readEntries.f
  have := read_from (L := fun k acc i => impl_readEntries.l0 k l acc i) hl hb
    (fun k acc i hi hk ha => by
      have hbd : ∀ z ∈ l.drop i, (Lit.int .u8 z).wf = true := fun z hz => hb z (List.mem_of_mem_drop hz)
      simp only [impl_readEntries.l0]
      rw [if_pos (by omega), if_pos (by omega), Int.toNat_natCast, impl_nextEntry_eq (by rw [List.length_drop]; omega) hbd (by omega)]
      simp only [Option.bind_some]
      by_cases h : (oneE (l.drop i)).2.2.2.2 = 0
      · rw [if_pos h, if_pos h]
      · rw [if_neg h, if_neg h, if_pos (by omega)]; rfl)
    l.length 0 [] k (by omega) (by simp) (by omega)
  simpa using this
theorem impl_JournalFault_eq {k : Nat} {s l : List Int} (hs : s.length ≤ 1048576) (hl : l.length ≤ 1048576) (hbs : ∀ x ∈ s, (Lit.int .u8 x).wf = true) (hbl : ∀ x ∈ l, (Lit.int .u8 x).wf = true) (hk : 1060000 ≤ k) :
    impl_JournalFault.f k s l = some (journalFault s l) := by
  obtain ⟨k, rfl⟩ : ∃ m, k = m + 3 := ⟨k - 3, by omega⟩
  have b1 := readE_bound s.length s rfl hbs
  have b2 := readE_bound l.length l rfl hbl
  unfold impl_JournalFault.f journalFault
  rw [wrap_id (by omega) (by omega)]
  by_cases h : (s.length : Int) + l.length > 6000
  · rw [if_pos h, if_pos h]
  · rw [if_neg h, if_neg h]
    simp only [Option.bind_some]
    show impl_JournalFault.l0 (k + 2 + 1) [s, l] 2 0 = _
    have r0 : rd_L2 [s, l] 0 = s := rfl
    have r1 : rd_L2 [s, l] 1 = l := rfl
    have w0 : Aside0 (wrap64 (0 + 1) = 1) := ⟨by decide +kernel⟩
    have w1 : Aside0 (wrap64 (1 + 1) = 2) := ⟨by decide +kernel⟩
    rw [impl_JournalFault.l0, if_pos (by decide), if_pos (by decide), if_pos (by simp), r0, impl_readEntries_eq hs hbs (by omega)]
    simp only [Option.bind_some]
    by_cases h1 : (readE s).2 = (s.length : Int)
    · rw [if_neg (by omega), if_pos h1, w0.out]
      show impl_JournalFault.l0 (k + 1 + 1) [s, l] 2 1 = _
      rw [impl_JournalFault.l0, if_pos (by decide), if_pos (by decide), if_pos (by simp), r1, impl_readEntries_eq hl hbl (by omega)]
      simp only [Option.bind_some]
      by_cases h2 : (readE l).2 = (l.length : Int)
      · rw [if_neg (by omega), if_pos h2, w1.out]
        show impl_JournalFault.l0 (k + 1) [s, l] 2 2 = _
        rw [impl_JournalFault.l0, if_neg (by decide)]
      · rw [if_pos (by omega), if_neg h2]
    · rw [if_pos (by omega), if_neg h1]
theorem impl_Entry_83_eq (l : List S61) : impl_Entry_83.f l = some (l.length : Int) := rfl
theorem impl_Journal_told_eq {k : Nat} {s l : List Int} (hs : s.length ≤ 1048576) (hl : l.length ≤ 1048576) (hbs : ∀ x ∈ s, (Lit.int .u8 x).wf = true) (hbl : ∀ x ∈ l, (Lit.int .u8 x).wf = true) (hk : 1060000 ≤ k) : impl_Journal_told.f k s l = some (jof s l) := by
  unfold impl_Journal_told.f jof
  have e1 := impl_readEntries_eq hs hbs (show s.length + 2000 < k by omega)
  have e2 := impl_readEntries_eq hl hbl (show l.length + 2000 < k by omega)
  have e3 := jof_wrap hs hl hbs hbl
  generalize readE s = a at *
  generalize readE l = b at *
  refine B.bind_of e1 (B.bind_of e2 (B.bind_of rfl (B.bind_of rfl (B.bind_of (slices_Clone_byte_byte_eq (by omega)) (B.bind_of (slices_Clone_byte_byte_eq (by omega)) ?_)))))
  rw [e3]
theorem impl_Entry_84_eq {k : Nat} {s l : List S61} (hs : s.length ≤ 1048576) (hl : l.length ≤ 1048576) (hk : 10 ≤ k) : impl_Entry_84.f k [s, l] = some (s ++ l) := by
  obtain ⟨k, rfl⟩ : ∃ m, k = m + 10 := ⟨k - 10, by omega⟩
  unfold impl_Entry_84.f
  have r0 : rd_L5 [s, l] 0 = s := rfl
  have r1 : rd_L5 [s, l] 1 = l := rfl
  have w0 : Aside0 (wrap64 (0 + 1) = 1) := ⟨by decide +kernel⟩
  have w1 : Aside0 (wrap64 (1 + 1) = 2) := ⟨by decide +kernel⟩
  have w2 : Aside0 (wrap64 (0 + (s.length : Int)) = s.length) := ⟨by rw [wrap_id (by omega) (by omega)]; omega⟩
  have w3 : Aside0 (wrap64 ((s.length : Int) + (l.length : Int)) = (s.length : Int) + l.length) := ⟨wrap_id (by omega) (by omega)⟩
  show impl_Entry_84.l0 (k + 9 + 1) [s, l] 0 [s, l] 2 0 = _
  rw [impl_Entry_84.l0, if_pos (by decide), if_pos (by decide), if_pos (by simp), r0, w2.out, if_neg (by omega), w0.out]
  show impl_Entry_84.l0 (k + 8 + 1) [s, l] _ [s, l] 2 1 = _
  rw [impl_Entry_84.l0, if_pos (by decide), if_pos (by decide), if_pos (by simp), r1, w3.out, if_neg (by omega), w1.out]
  show impl_Entry_84.l0 (k + 7 + 1) [s, l] _ [s, l] 2 2 = _
  rw [impl_Entry_84.l0, if_neg (by decide), if_neg (by omega), if_neg (by omega), if_pos (by decide)]
  show impl_Entry_84.l1 (k + 6 + 1) [] [s, l] 2 0 = _
  rw [impl_Entry_84.l1, if_pos (by decide), if_pos (by decide), if_pos (by simp), r0, if_pos (by simp only [List.length_nil]; omega), w0.out]
  show impl_Entry_84.l1 (k + 5 + 1) ([] ++ s) [s, l] 2 1 = _
  rw [impl_Entry_84.l1, if_pos (by decide), if_pos (by decide), if_pos (by simp), r1, if_pos (by simp only [List.length_nil, List.length_append]; omega), w1.out]
  show impl_Entry_84.l1 (k + 4 + 1) ([] ++ s ++ l) [s, l] 2 2 = _
  rw [impl_Entry_84.l1, if_neg (by decide), List.nil_append]
theorem impl_putTwo_eq {l : List Int} (hl : l.length ≤ 10000000) (a : Int) : impl_putTwo.f l a = some (l ++ two a) := by
  simp only [impl_putTwo.f, Option.bind_some]
  rw [if_pos (by simp; omega)]; rfl
theorem impl_packEntry_eq {k : Nat} {e a b : Int} {l : List Int} (hl : l.length ≤ 1000000) (hb : ∀ x ∈ l, (Lit.int .u8 x).wf = true) (hk : l.length + 8 < k) : impl_packEntry.f k e a b l = some (packE e a b l) := by
  have hw := bodyE_wf (e := e) (a := a) (b := b) hb
  have hn := bodyE_length e a b l
  simp only [impl_packEntry.f, Option.bind_some]
  rw [impl_putTwo_eq (by simp)]
  simp only [Option.bind_some, List.nil_append]
  rw [if_pos (by simp [two]), if_pos (by simp [two]; omega)]
  rw [show two e ++ [a % 256, b % 256, (l.length : Int) % 256] ++ l = bodyE e a b l from rfl]
  rw [impl_SumBytes_eq (by omega) hw (by omega)]
  simp only [Option.bind_some]
  rw [impl_putTwo_eq (by simp)]
  simp only [Option.bind_some]
  rw [if_pos (by simp [two]; omega)]
  rfl
theorem impl_CutJournal_l0 {a y : List S61} (hg : goodEs y) (hy : y.length ≤ 10000) : ∀ (d i k : Nat) (S L : List Int), i + d = y.length → d + 1060100 < k → S.length ≤ 68 * i → L.length ≤ 68 * i → (∀ x ∈ S, (Lit.int .u8 x).wf = true) → (∀ x ∈ L, (Lit.int .u8 x).wf = true) →
    impl_CutJournal.l0 k a y (y.length : Int) (i : Int) S L = some (jof (S ++ packEs ((y.drop i).take (a.length - i))) (L ++ packEs ((y.drop i).drop (a.length - i)))) := by
  intro d
  induction d with
  | zero =>
    intro i k S L hi hk hS hL wS wL
    obtain ⟨k, rfl⟩ : ∃ m, k = m + 1 := ⟨k - 1, by omega⟩
    obtain rfl : i = y.length := by omega
    rw [impl_CutJournal.l0, if_neg (by omega), List.drop_length, List.take_nil, List.drop_nil, packEs_nil, List.append_nil, List.append_nil]
    exact B.bind_of (impl_Journal_told_eq (by omega) (by omega) wS wL (by omega)) rfl
  | succ d ih =>
    intro i k S L hi hk hS hL wS wL
    obtain ⟨k, rfl⟩ : ∃ m, k = m + 1 := ⟨k - 1, by omega⟩
    have hlt : i < y.length := by omega
    have hr : rd_T61 y (i : Int) = y[i] := getD_nat hlt
    have hge := hg _ (List.getElem_mem hlt)
    have hp := packE_length y[i].f0 y[i].f1.f0 y[i].f1.f1 y[i].f1.f2
    have hpw : ∀ x ∈ packE y[i].f0 y[i].f1.f0 y[i].f1.f1 y[i].f1.f2, (Lit.int .u8 x).wf = true := packE_wfC hge.2
    have hge1 := hge.1
    rw [impl_CutJournal.l0, if_pos (by omega), if_pos (by omega), if_pos (by omega), hr, impl_packEntry_eq (by omega) hge.2 (by omega), wrap_succ (by omega), List.drop_eq_getElem_cons hlt]
    simp only [Option.bind_some]
    by_cases ha : i < a.length
    · rw [if_pos (by omega), if_pos (by omega), ih (i + 1) k _ L (by omega) (by omega) (by simp only [List.length_append]; omega) (by omega) (fun x hx => (List.mem_append.1 hx).elim (wS x) (hpw x)) wL]
      rw [show a.length - i = (a.length - (i + 1)) + 1 by omega, List.take_succ_cons, List.drop_succ_cons, packEs_cons, List.append_assoc]
    · rw [if_neg (by omega), if_pos (by omega), ih (i + 1) k S _ (by omega) (by omega) (by omega) (by simp only [List.length_append]; omega) wS (fun x hx => (List.mem_append.1 hx).elim (wL x) (hpw x))]
      rw [show a.length - i = 0 by omega, show a.length - (i + 1) = 0 by omega, List.take_zero, List.take_zero, List.drop_zero, List.drop_zero, packEs_cons, List.append_assoc]
theorem impl_CutJournal_eq {k : Nat} {s l : List Int} (n : Int) (hs : s.length ≤ 1048576) (hl : l.length ≤ 1048576) (hbs : ∀ x ∈ s, (Lit.int .u8 x).wf = true) (hbl : ∀ x ∈ l, (Lit.int .u8 x).wf = true) (hk : 1080010 ≤ k) : impl_CutJournal.f k s l n = some (cutJ s l n) := by
  unfold impl_CutJournal.f cutJ
  have e0 := impl_JournalFault_eq hs hl hbs hbl (show 1060000 ≤ k by omega)
  have hok := fun h => journalFault_ok (s := s) (l := l) h
  generalize journalFault s l = j at *
  refine B.bind_of e0 ?_
  by_cases h : j = 0
  · have h6 := hok h
    have b1 := readE_bound _ s rfl hbs
    have b2 := readE_bound _ l rfl hbl
    have g1 := (readE_pack _ s rfl hbs).2
    have g2 := (readE_pack _ l rfl hbl).2
    rw [if_pos h, if_pos h]
    refine B.bind_of (impl_readEntries_eq hs hbs (by omega)) (B.bind_of (impl_readEntries_eq hl hbl (by omega)) (B.bind_of rfl (B.bind_of rfl (B.bind_of (impl_in_eq n 0 _) ?_))))
    rw [wrap_id (x := ((readE s).1.length : Int) + ((readE l).1.length : Int)) (by omega) (by omega)]
    by_cases hi : inB n 0 (((readE s).1.length : Int) + ((readE l).1.length : Int)) = true
    · have hj := inB_iff.1 hi
      rw [if_pos hi, if_pos hi]
      refine B.bind_of (impl_Entry_84_eq (by omega) (by omega) (by omega)) ?_
      rw [if_pos hj.1, if_pos (by rw [List.length_append]; omega)]
      refine B.bind_of rfl ?_
      obtain ⟨c, rfl⟩ := Int.eq_ofNat_of_zero_le hj.1
      have hgy : goodEs (((readE s).1 ++ (readE l).1).take c) := good_take (fun e he => (List.mem_append.1 he).elim (g1 e) (g2 e)) c
      have hlen : (((readE s).1 ++ (readE l).1).take c).length ≤ 10000 := by rw [List.length_take, List.length_append]; omega
      have := impl_CutJournal_l0 (a := (readE s).1) hgy hlen (((readE s).1 ++ (readE l).1).take c).length 0 k [] [] (by omega) (by omega) (by simp) (by simp) (by simp) (by simp)
      rw [Int.toNat_natCast]
      refine this.trans ?_
      rw [List.drop_zero, Nat.sub_zero, List.nil_append, List.nil_append, List.take_take, List.drop_take]
      unfold cutS cutL
      rw [Int.toNat_natCast, List.drop_left, List.take_append_of_le_length (Nat.min_le_left _ _)]
      have e3 : (readE s).1.take (min (readE s).1.length c) = (readE s).1.take c := by
        rw [List.take_eq_take_iff]; omega
      rw [e3]
    · rw [if_neg hi, if_neg hi]
  · rw [if_neg h, if_neg h]
theorem FnExactCutJournal (l0_0 l0_1 : List Int) (a1 : Int)
    (w0_0 : (l0_0.length ≤ maxLen ∧ ∀ z1 ∈ l0_0, (Lit.int .u8 z1).wf = true)) (w0_1 : (l0_1.length ≤ maxLen ∧ ∀ z2 ∈ l0_1, (Lit.int .u8 z2).wf = true)) (w1 : (Lit.int .i64 a1).wf = true) :
    ∃ k, laws_FnExactCutJournal.f k l0_0 l0_1 a1 = some true := by
  obtain ⟨k, hk⟩ : ∃ k : Nat, 3000000 ≤ k := ⟨_, Nat.le_refl _⟩
  refine ⟨k + 1, ?_⟩
  unfold laws_FnExactCutJournal.f
  refine B.bind_of (laws_szJournal_eq w0_0.1 w0_1.1 (by decide) (by decide)) ?_
  by_cases hL : (if szB 1048576 l0_0.length < 0 then -1 else szB (szB 1048576 l0_0.length) l0_1.length) < 0
  · rw [if_pos hL]
  · obtain ⟨h1, h2⟩ := szJournal_ok hL
    rw [if_neg hL]
    have eT : ∀ q, 3000000 ≤ q → laws_toJournal.f q l0_0 l0_1 = some (l0_0, l0_1) := fun q hq => laws_toJournal_eq h1 h2 (by omega)
    have eS := spec_CutJournal_eq (k := k + 1) a1 h1 h2 w0_0.2 w0_1.2 (by omega)
    have eI : ∀ q, 3000000 ≤ q → impl_CutJournal.f q l0_0 l0_1 a1 = some (cutJ l0_0 l0_1 a1) := fun q hq => impl_CutJournal_eq a1 h1 h2 w0_0.2 w0_1.2 (by omega)
    have hlen := cutJ_len (s := l0_0) (l := l0_1) a1 w0_0.2 w0_1.2
    generalize cutJ l0_0 l0_1 a1 = r at *
    obtain ⟨a, b, s, l⟩ := r
    simp only at hlen
    have eQ : ∀ q, 3000000 ≤ q → laws_eqJournalResult.f q a b s l a b s l = some true := fun q hq => laws_eqJournalResult_refl (by omega) (by omega) (by omega)
    have eH : ∀ q, 3000000 ≤ q → laws_heldJournalResult.f q a b (marks (fun x => x % 256) 1 s.length) (marks (fun x => x % 256) (1 + (s.length : Int)) l.length) 1 = some (1 + (s.length : Int) + (l.length : Int)) := fun q hq => laws_heldJournalResult_eq (by decide) (by omega) (by omega)
    refine B.bind_of (eT _ (by omega)) (B.bind_of eS (B.bind_of (eT _ (by omega)) (B.bind_of (eI _ (by omega)) (B.bind_of (eQ _ (by omega)) ?_))))
    rw [if_pos rfl]
    refine B.bind_of (eT _ (by omega)) (B.bind_of (laws_eqJournal_refl h1 h2 (by omega)) ?_)
    rw [if_pos rfl]
    refine B.bind_of (laws_markJournal_eq (s := l0_0) (l := l0_1) (by decide) (by omega) (by omega)) ?_
    rw [if_neg (by simp only; omega)]
    refine B.bind_of (eQ _ (by omega)) ?_
    rw [laws_FnExactCutJournal.j0, if_neg (by decide)]
    refine B.bind_of (laws_markJournalResult_eq (s := s) (l := l) (by decide) (by omega) (by omega)) (B.bind_of (eH _ (by omega)) ?_)
    rw [if_neg (by omega), if_pos rfl]
    refine B.bind_of (eT _ (by omega)) (B.bind_of (eI _ (by omega)) (B.bind_of (eQ _ (by omega)) ?_))
    rw [if_pos rfl]
    refine B.bind_of (eH _ (by omega)) ?_
    rw [if_neg (by omega), if_pos rfl]
end Go.Proofs.Ythmkjapmnlhflaa.Pure
