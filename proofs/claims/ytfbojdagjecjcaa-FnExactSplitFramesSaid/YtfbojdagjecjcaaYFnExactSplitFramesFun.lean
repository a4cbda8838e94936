/- Closed forms for the law FnExactSplitFrames: what the printed functions compute, in closed form, and that the law's answer is true. -/
import Derived.Test.YtfbojdagjecjcaaSFnExactSplitFrames
import Derived.Test.YtfbojdagjecjcaaYFnExactSplitFramesx1
import Derived.Test.YtfbojdagjecjcaaYFnExactSplitFramesx2
import Derived.Test.YtfbojdagjecjcaaYFnExactSplitFramesx3
import Derived.Test.YtfbojdagjecjcaaYFnExactSplitFramesx4
import Derived.Test.YtfbojdagjecjcaaYFnExactSplitFramesx5
import Derived.Test.YtfbojdagjecjcaaYFnExactSplitFramesx6
import Derived.Test.YtfbojdagjecjcaaYFnExactSplitFramesx7
namespace Go.Proofs.Ytfbojdagjecjcaa.Pure
open Go.RowKit Go.Proofs.Ytfbojdagjecjcaa.PFnExactSplitFrames Go.Proofs.YtfbojdagjecjcaaW.PrintWords Go.Proofs.YtfbojdagjecjcaaW.PrintLast Go.Proofs.YtfbojdagjecjcaaW.PrintMore Go.Proofs.Ytfbojdagjecjcaa.B
set_option linter.unusedVariables false
set_option linter.unusedSimpArgs false
theorem spec_l1Take_eq {k : Nat} {l : List Int} {a m : Nat} (hm : m ≤ 5) (ha : a + m ≤ l.length) (hl : l.length ≤ 1048576) (hb : ∀ x ∈ l, (Lit.int .u8 x).wf = true) (hk : m < k) : spec_l1Take.f k l (a : Int) (m : Int) = some (numOf ((l.drop a).take m)) := by
  have hlen : ((l.drop a).take m).length = m := by simp; omega
  unfold spec_l1Take.f numOf
  refine Eq.trans ?_ (congrArg some (run_foldl (fun n b => n * 256 + b) id ((l.drop a).take m) 0 0))
  exact run_loop (L := fun k s i => spec_l1Take.l0 k l (a : Int) (m : Int) s i) (fun i s => 0 ≤ s ∧ s < ((256 ^ i : Nat) : Int)) (B := 0)
    (fun k i s h _ hi => by
      rw [hlen] at h
      have hq : a + i < l.length := by omega
      have he : ((l.drop a).take m)[i]'(by rw [hlen]; exact h) = l[a + i] := by simp
      have hx := u8_wf (hb _ (List.getElem_mem hq))
      have hs1 := (numOf_step (by omega) hi.1 hi.2 hx.1 hx.2).2.2
      have hs0 := hi.1
      clear hi
      have hw : wrap64 ((a : Int) + (i : Int)) = ((a + i : Nat) : Int) := by rw [wrap_id (by omega) (by omega)]; omega
      simp only [spec_l1Take.l0, hw]
      clear hw
      rw [if_pos (by omega), if_pos (by omega), if_pos (by omega), rd_nat hq, take_wrap hs0 hs1 hx.1 hx.2, wrap_succ (by omega), he])
    (fun i s s' h hi e => by
      rw [hlen] at h
      have hq : a + i < l.length := by omega
      have he : ((l.drop a).take m)[i]'(by rw [hlen]; exact h) = l[a + i] := by simp
      have hx := u8_wf (hb _ (List.getElem_mem hq))
      have hst := numOf_step (by omega) hi.1 hi.2 hx.1 hx.2
      injection e with e
      rw [he] at e
      exact e ▸ ⟨hst.1, hst.2.1⟩)
    (fun k s _ => by simp only [spec_l1Take.l0]; rw [hlen, if_neg (by omega)]; rfl) ⟨by decide, by decide⟩ (by omega)
theorem spec_l1In_eq (n lo hi : Int) : spec_l1In.f n lo hi = some (inB n lo hi) := inB_eq n lo hi
def tw (l : List Int) : Int := numOf ((l.drop 2).take 2)
def headF (l : List Int) : Int :=
  if (0 < l.length ∧ rd l 0 ≠ 255) ∨ (1 < l.length ∧ rd l 1 ≠ 255) then 1
  else if 3 < l.length ∧ ¬ (5 ≤ tw l ∧ tw l ≤ 125) then 2
  else if 4 < l.length ∧ ¬ (1 ≤ rd l 4 ∧ rd l 4 ≤ 4) then 3 else 0
def nextF (l : List Int) : Int × List Int × Int × Int :=
  if headF l ≠ 0 then (0, [], 0, headF l) else if l.length < 5 ∨ (l.length : Int) < tw l then (0, [], 0, 0) else (rd l 4, (l.take (tw l).toNat).drop 5, tw l, 0)
theorem rd_byte {l : List Int} (hb : ∀ x ∈ l, (Lit.int .u8 x).wf = true) {i : Nat} (h : i < l.length) : 0 ≤ rd l (i : Int) ∧ rd l (i : Int) < 256 := by
  rw [rd_nat h]; exact u8_wf (hb _ (List.getElem_mem h))
theorem tw_eq {l : List Int} (h : 3 < l.length) : tw l = rd l 2 * 256 + rd l 3 := by
  obtain ⟨a, b, c, d, r, rfl⟩ : ∃ a b c d r, l = a :: b :: c :: d :: r := by
    match l, h with
    | a :: b :: c :: d :: r, _ => exact ⟨a, b, c, d, r, rfl⟩
  simp [tw, numOf, rd]
theorem spec_l1Head_eq {k : Nat} {l : List Int} (hl : l.length ≤ 1048576) (hb : ∀ x ∈ l, (Lit.int .u8 x).wf = true) (hk : 5 ≤ k) : spec_l1Head.f k l = some (headF l) := by
  obtain ⟨k, rfl⟩ : ∃ m, k = m + 5 := ⟨k - 5, by omega⟩
  have j1 : ∀ x, spec_l1Head.j1 (k + 4) l (l.length : Int) x = some (if x = true then 2 else if 4 < l.length ∧ ¬ (1 ≤ rd l 4 ∧ rd l 4 ≤ 4) then 3 else 0) := by
    intro x
    show spec_l1Head.j1 (k + 3 + 1) l (l.length : Int) x = _
    rw [spec_l1Head.j1]
    cases x
    · simp only [Bool.false_eq_true, if_false]
      by_cases h4 : 4 < l.length
      · have hr : 0 ≤ rd l 4 ∧ rd l 4 < 256 := rd_byte hb (i := 4) h4
        rw [if_pos (by omega), if_pos (by omega), wrap_id (x := rd l 4) (by omega) (by omega), spec_l1In_eq]
        simp only [Option.bind_some]
        by_cases h5 : 1 ≤ rd l 4 ∧ rd l 4 ≤ 4
        · rw [if_pos (inB_iff.2 h5), if_neg (fun h => h.2 h5)]
        · rw [if_neg (fun h => h5 (inB_iff.1 h)), if_pos ⟨h4, h5⟩]
      · rw [if_neg (by omega), if_neg (fun h => h4 h.1)]
    · rfl
  have j0 : ∀ x, spec_l1Head.j0 (k + 5) l (l.length : Int) x = some (if x = true then 1 else if 3 < l.length ∧ ¬ (5 ≤ tw l ∧ tw l ≤ 125) then 2 else if 4 < l.length ∧ ¬ (1 ≤ rd l 4 ∧ rd l 4 ≤ 4) then 3 else 0) := by
    intro x
    show spec_l1Head.j0 (k + 4 + 1) l (l.length : Int) x = _
    rw [spec_l1Head.j0]
    cases x
    · simp only [Bool.false_eq_true, if_false]
      by_cases h3 : 3 < l.length
      · have ht : spec_l1Take.f (k + 4) l 2 2 = some (tw l) := spec_l1Take_eq (a := 2) (m := 2) (by decide) (by omega) hl hb (by omega)
        rw [if_pos (by omega), ht]
        simp only [Option.bind_some]
        rw [spec_l1In_eq]
        simp only [Option.bind_some]
        rw [j1]
        by_cases h5 : 5 ≤ tw l ∧ tw l ≤ 125
        · rw [inB_iff.2 h5, if_neg (by simp), if_neg (fun h : 3 < l.length ∧ ¬ (5 ≤ tw l ∧ tw l ≤ 125) => h.2 h5)]
        · have hB : inB (tw l) 5 125 = false := by
            cases h : inB (tw l) 5 125
            · rfl
            · exact absurd (inB_iff.1 h) h5
          rw [hB, if_pos (by simp), if_pos ⟨h3, h5⟩]
      · rw [if_neg (by omega), j1, if_neg (by simp), if_neg (fun h : 3 < l.length ∧ ¬ (5 ≤ tw l ∧ tw l ≤ 125) => h3 h.1)]
    · rfl
  unfold spec_l1Head.f headF
  have fin : ∀ (x : Bool) (R : Int), ((x = true) ↔ ((0 < l.length ∧ rd l 0 ≠ 255) ∨ (1 < l.length ∧ rd l 1 ≠ 255))) → some (if x = true then 1 else R) = some (if (0 < l.length ∧ rd l 0 ≠ 255) ∨ (1 < l.length ∧ rd l 1 ≠ 255) then (1 : Int) else R) := by
    intro x R hx
    by_cases h : x = true
    · rw [if_pos h, if_pos (hx.1 h)]
    · rw [if_neg h, if_neg (fun q => h (hx.2 q))]
  by_cases h0 : 0 < l.length
  · rw [if_pos (by omega), if_pos (by omega)]
    by_cases ha : rd l 0 = 255
    · rw [if_pos ha]
      by_cases h1 : 1 < l.length
      · rw [if_pos (by omega), if_pos (by omega), j0]
        exact fin _ _ ⟨fun h => Or.inr ⟨h1, by simpa using h⟩, fun h => by
          rcases h with h | h
          · exact absurd ha h.2
          · simpa using h.2⟩
      · rw [if_neg (by omega), j0]
        exact fin _ _ ⟨fun h => by simp at h, fun h => by
          rcases h with h | h
          · exact absurd ha h.2
          · exact absurd h.1 h1⟩
    · rw [if_neg ha, j0]
      exact fin _ _ ⟨fun _ => Or.inl ⟨h0, ha⟩, fun _ => rfl⟩
  · rw [if_neg (by omega), if_neg (by omega), j0]
    exact fin _ _ ⟨fun h => by simp at h, fun h => by
      rcases h with h | h
      · exact absurd h.1 h0
      · exact absurd h.1 (by omega)⟩
theorem laws_toByteS_eq {k : Nat} {l : List Int} (hl : l.length ≤ 1048576) (hk : l.length < k) : laws_toByteS.f k l = some l := by
  unfold laws_toByteS.f
  rw [if_pos (by omega), if_pos (by omega)]
  have h := set_loop (L := fun k acc i => laws_toByteS.l0 k l acc i) (xs := l) (f := fun x => x) (B := 0) (k := k) (acc := List.replicate ((l.length : Int)).toNat 0)
    (fun k i acc h _ ha => by
      simp only [laws_toByteS.l0]
      rw [if_pos (by omega), if_pos (by omega), if_pos (by omega), rd_nat h, wrap_succ (by omega)]
      simp)
    (fun k acc _ => by simp only [laws_toByteS.l0]; rw [if_neg (by omega)]) (by simp) (by omega)
  simpa using h
theorem impl_in_eq (n lo hi : Int) : impl_in.f n lo hi = some (inB n lo hi) := inB_eq n lo hi
theorem impl_size_byte_eq (l : List Int) : impl_size_byte.f l = some (l.length : Int) := rfl
theorem impl_numberOf_eq {k : Nat} {l : List Int} (hl : l.length ≤ 5) (hb : ∀ x ∈ l, (Lit.int .u8 x).wf = true) (hk : l.length < k) : impl_numberOf.f k l = some (numOf l) := by
  unfold impl_numberOf.f numOf
  refine Eq.trans ?_ (congrArg some (run_foldl (fun n b => n * 256 + b) id l 0 0))
  exact run_loop (L := fun k s i => impl_numberOf.l0 k s l (l.length : Int) i) (fun i s => 0 ≤ s ∧ s < ((256 ^ i : Nat) : Int)) (B := 0)
    (fun k i s h _ hi => by
      have hx := u8_wf (hb _ (List.getElem_mem h))
      have hst := numOf_step (by omega) hi.1 hi.2 hx.1 hx.2
      simp only [impl_numberOf.l0]
      rw [if_pos (by omega), if_pos (by omega), if_pos (by omega), rd_nat h, or_wrap hi.1 hst.2.2 hx.1 hx.2, wrap_succ (by omega)])
    (fun i s s' h hi e => by
      have hx := u8_wf (hb _ (List.getElem_mem h))
      have hst := numOf_step (by omega) hi.1 hi.2 hx.1 hx.2
      injection e with e
      exact e ▸ ⟨hst.1, hst.2.1⟩)
    (fun k s _ => by simp only [impl_numberOf.l0]; rw [if_neg (by omega)]; rfl) ⟨by decide, by decide⟩ (by omega)
theorem nextF_bad {l : List Int} {r : Int} (h : headF l = r) (hr : r ≠ 0) : nextF l = (0, [], 0, r) := by
  unfold nextF; rw [if_pos (by rw [h]; exact hr), h]
theorem nextF_ok {l : List Int} (h : headF l = 0) : nextF l = if l.length < 5 ∨ (l.length : Int) < tw l then (0, [], 0, 0) else (rd l 4, (l.take (tw l).toNat).drop 5, tw l, 0) := by
  unfold nextF; rw [if_neg (by rw [h]; simp)]
theorem impl_nextFrame_eq {k : Nat} {l : List Int} (hl : l.length ≤ 1048576) (hb : ∀ x ∈ l, (Lit.int .u8 x).wf = true) (hk : 10 ≤ k) : impl_nextFrame.f k l = some (nextF l) := by
  obtain ⟨k, rfl⟩ : ∃ m, k = m + 10 := ⟨k - 10, by omega⟩
  have j1 : ∀ k x, 3 < l.length → 5 ≤ tw l → tw l ≤ 125 → impl_nextFrame.j1 (k + 1) l (tw l) x = some (if x = true then (0, [], 0, 3) else if l.length < 5 ∨ (l.length : Int) < tw l then (0, [], 0, 0) else (rd l 4, (l.take (tw l).toNat).drop 5, tw l, 0)) := by
    intro k x h3 h5 h6
    rw [impl_nextFrame.j1]
    cases x
    · simp only [Bool.false_eq_true, if_false, impl_size_byte_eq, Option.bind_some]
      by_cases h4 : (l.length : Int) < tw l
      · rw [if_pos h4, if_pos (Or.inr h4)]
      · have h7 : ¬ (l.length < 5 ∨ (l.length : Int) < tw l) := by omega
        have hr : 0 ≤ rd l 4 ∧ rd l 4 < 256 := rd_byte hb (i := 4) (by omega)
        rw [if_neg h4, if_neg h7, if_pos (by omega), if_pos (by omega), if_pos (by omega), if_pos (by simp; omega), wrap_id (x := rd l 4) (by omega) (by omega), List.nil_append]
    · rfl
  have fin : ∀ k (m : List Int), m.length ≤ l.length → (¬ ((0 < l.length ∧ rd l 0 ≠ 255) ∨ (1 < l.length ∧ rd l 1 ≠ 255))) → impl_nextFrame.l0 (k + 6) l m (m.length : Int) (m.length : Int) = some (nextF l) := by
    intro k m hm hh
    show impl_nextFrame.l0 (k + 5 + 1) l m (m.length : Int) (m.length : Int) = _
    rw [impl_nextFrame.l0, if_neg (by omega)]
    by_cases h4 : l.length < 4
    · have hd : headF l = 0 := by unfold headF; rw [if_neg hh, if_neg (by omega), if_neg (by omega)]
      rw [if_pos (by omega), nextF_ok hd, if_pos (by omega)]
    · have e : (l.take 4).drop 2 = (l.drop 2).take 2 := by rw [List.drop_take]
      have hn : impl_numberOf.f (k + 5) ((l.take 4).drop 2) = some (tw l) := by
        rw [e]
        exact impl_numberOf_eq (by simp; omega) (fun x hx => hb x (List.mem_of_mem_drop (List.mem_of_mem_take hx))) (by simp; omega)
      rw [if_neg (by omega), if_pos (by decide), if_pos (by omega), hn]
      simp only [Option.bind_some]
      rw [impl_in_eq]
      simp only [Option.bind_some]
      by_cases h5 : 5 ≤ tw l ∧ tw l ≤ 125
      · rw [if_pos (inB_iff.2 h5)]
        by_cases h6 : 4 < l.length
        · have hr : 0 ≤ rd l 4 ∧ rd l 4 < 256 := rd_byte hb (i := 4) h6
          rw [if_pos (by omega), if_pos (by omega), wrap_id (x := rd l 4) (by omega) (by omega), impl_in_eq]
          simp only [Option.bind_some]
          rw [j1 _ _ (by omega) h5.1 h5.2]
          by_cases h7 : 1 ≤ rd l 4 ∧ rd l 4 ≤ 4
          · have hd : headF l = 0 := by unfold headF; rw [if_neg hh, if_neg (fun h : 3 < l.length ∧ ¬ (5 ≤ tw l ∧ tw l ≤ 125) => h.2 h5), if_neg (fun h : 4 < l.length ∧ ¬ (1 ≤ rd l 4 ∧ rd l 4 ≤ 4) => h.2 h7)]
            rw [inB_iff.2 h7, nextF_ok hd]; rfl
          · have hB : inB (rd l 4) 1 4 = false := by
              cases h : inB (rd l 4) 1 4
              · rfl
              · exact absurd (inB_iff.1 h) h7
            have hd : headF l = 3 := by unfold headF; rw [if_neg hh, if_neg (fun h : 3 < l.length ∧ ¬ (5 ≤ tw l ∧ tw l ≤ 125) => h.2 h5), if_pos ⟨h6, h7⟩]
            rw [hB, nextF_bad hd (by decide)]; rfl
        · have hd : headF l = 0 := by unfold headF; rw [if_neg hh, if_neg (fun h : 3 < l.length ∧ ¬ (5 ≤ tw l ∧ tw l ≤ 125) => h.2 h5), if_neg (fun h : 4 < l.length ∧ ¬ (1 ≤ rd l 4 ∧ rd l 4 ≤ 4) => h6 h.1)]
          rw [if_neg (by omega), j1 _ _ (by omega) h5.1 h5.2, nextF_ok hd]; rfl
      · have hd : headF l = 2 := by unfold headF; rw [if_neg hh, if_pos ⟨by omega, h5⟩]
        rw [if_neg (fun h => h5 (inB_iff.1 h)), nextF_bad hd (by decide)]
  have bad : ((0 < l.length ∧ rd l 0 ≠ 255) ∨ (1 < l.length ∧ rd l 1 ≠ 255)) → some (0, ([] : List Int), (0 : Int), (1 : Int)) = some (nextF l) := by
    intro hh
    have hd : headF l = 1 := by unfold headF; rw [if_pos hh]
    rw [nextF_bad hd (by decide)]
  unfold impl_nextFrame.f
  match l, fin, bad with
  | [], fin, _ =>
    rw [if_pos (by simp [mn]), if_pos (by simp [mn])]
    exact fin (k + 4) [] (by simp) (by simp)
  | [a], fin, bad =>
    have e : (List.take (mn (([a] : List Int).length : Int) 2).toNat [a]) = [a] := by simp [mn]
    rw [if_pos (by simp [mn]), if_pos (by simp [mn]), e]
    show impl_nextFrame.l0 (k + 9 + 1) [a] [a] 1 0 = _
    rw [impl_nextFrame.l0, if_pos (by decide), if_pos (by decide), if_pos (by simp)]
    by_cases ha : rd [a] 0 = 255
    · rw [if_pos ha, show wrap64 (0 + 1) = 1 by decide +kernel]
      exact fin (k + 3) [a] (by simp) (by simp [ha])
    · rw [if_neg ha]; exact bad (Or.inl ⟨by simp, ha⟩)
  | a :: b :: r, fin, bad =>
    have e : (List.take (mn ((a :: b :: r : List Int).length : Int) 2).toNat (a :: b :: r)) = [a, b] := by
      have : mn ((a :: b :: r : List Int).length : Int) 2 = 2 := by simp [mn]; omega
      rw [this]; rfl
    rw [if_pos (by simp [mn]; split <;> omega), if_pos (by simp [mn]; split <;> omega), e]
    show impl_nextFrame.l0 (k + 9 + 1) (a :: b :: r) [a, b] 2 0 = _
    rw [impl_nextFrame.l0, if_pos (by decide), if_pos (by decide), if_pos (by simp)]
    by_cases ha : rd [a, b] 0 = 255
    · rw [if_pos ha, show wrap64 (0 + 1) = 1 by decide +kernel]
      show impl_nextFrame.l0 (k + 8 + 1) (a :: b :: r) [a, b] 2 1 = _
      rw [impl_nextFrame.l0, if_pos (by decide), if_pos (by decide), if_pos (by simp)]
      by_cases hb1 : rd [a, b] 1 = 255
      · rw [if_pos hb1, show wrap64 (1 + 1) = 2 by decide +kernel]
        exact fin (k + 2) [a, b] (by simp) (by
          have h1 : rd (a :: b :: r) 0 = 255 := ha
          have h2 : rd (a :: b :: r) 1 = 255 := hb1
          simp [h1, h2])
      · rw [if_neg hb1]; exact bad (Or.inr ⟨by simp, hb1⟩)
    · rw [if_neg ha]; exact bad (Or.inl ⟨by simp, ha⟩)
theorem nextF_frame {l : List Int} (hb : ∀ x ∈ l, (Lit.int .u8 x).wf = true) (h : (nextF l).2.2.1 ≠ 0) :
    5 ≤ tw l ∧ tw l ≤ l.length ∧ headF l = 0 ∧ 5 ≤ l.length ∧ nextF l = (rd l 4, (l.take (tw l).toNat).drop 5, tw l, 0) ∧
    packF (rd l 4) ((l.take (tw l).toNat).drop 5) = l.take (tw l).toNat ∧ frameFault (rd l 4) ((l.take (tw l).toNat).drop 5).length = 0 := by
  unfold nextF at h ⊢
  by_cases hd : headF l ≠ 0
  · rw [if_pos hd] at h; exact absurd rfl h
  · rw [if_neg hd] at h ⊢
    by_cases h5 : l.length < 5 ∨ (l.length : Int) < tw l
    · rw [if_pos h5] at h; exact absurd rfl h
    · rw [if_neg h5]
      have hd0 : headF l = 0 := by omega
      have hd' := hd0
      unfold headF at hd0
      by_cases p1 : (0 < l.length ∧ rd l 0 ≠ 255) ∨ (1 < l.length ∧ rd l 1 ≠ 255)
      · rw [if_pos p1] at hd0; exact absurd hd0 (by decide)
      · rw [if_neg p1] at hd0
        by_cases p2 : 3 < l.length ∧ ¬ (5 ≤ tw l ∧ tw l ≤ 125)
        · rw [if_pos p2] at hd0; exact absurd hd0 (by decide)
        · rw [if_neg p2] at hd0
          by_cases p3 : 4 < l.length ∧ ¬ (1 ≤ rd l 4 ∧ rd l 4 ≤ 4)
          · rw [if_pos p3] at hd0; exact absurd hd0 (by decide)
          · have p4 : 5 ≤ tw l ∧ tw l ≤ 125 := by
              apply Decidable.byContradiction; intro q; exact p2 ⟨by omega, q⟩
            have p5 : 1 ≤ rd l 4 ∧ rd l 4 ≤ 4 := by
              apply Decidable.byContradiction; intro q; exact p3 ⟨by omega, q⟩
            have p6 : rd l 0 = 255 := by
              apply Decidable.byContradiction; intro q; exact p1 (Or.inl ⟨by omega, q⟩)
            have p7 : rd l 1 = 255 := by
              apply Decidable.byContradiction; intro q; exact p1 (Or.inr ⟨by omega, q⟩)
            have p8 := tw_eq (l := l) (by omega)
            have b2 : 0 ≤ rd l 2 ∧ rd l 2 < 256 := rd_byte hb (i := 2) (by omega)
            have b3 : 0 ≤ rd l 3 ∧ rd l 3 < 256 := rd_byte hb (i := 3) (by omega)
            refine ⟨p4.1, by omega, hd', by omega, rfl, ?_, ?_⟩
            · generalize ht : tw l = t at *
              obtain ⟨n, rfl⟩ : ∃ n : Nat, t = ((n + 5 : Nat) : Int) := ⟨(t - 5).toNat, by omega⟩
              obtain ⟨a, b, c, d, e, r, rfl⟩ : ∃ a b c d e r, l = a :: b :: c :: d :: e :: r := by
                match l, h5 with
                | a :: b :: c :: d :: e :: r, _ => exact ⟨a, b, c, d, e, r, rfl⟩
                | [], h5 => simp at h5
                | [_], h5 => simp at h5
                | [_, _], h5 => simp at h5
                | [_, _, _], h5 => simp at h5
                | [_, _, _, _], h5 => simp at h5
              have q0 : a = 255 := p6
              have q1 : b = 255 := p7
              have q4 : 1 ≤ e ∧ e ≤ 4 := p5
              have q8 : ((n + 5 : Nat) : Int) = c * 256 + d := p8
              have c2 : 0 ≤ c ∧ c < 256 := b2
              have c3 : 0 ≤ d ∧ d < 256 := b3
              have q9 : n ≤ r.length := by simp at h5; omega
              have e1 : (((n + 5 : Nat) : Int)).toNat = n + 5 := by omega
              rw [e1]
              have e2 : List.take (n + 5) (a :: b :: c :: d :: e :: r) = a :: b :: c :: d :: e :: r.take n := rfl
              rw [e2]
              show packF e (r.take n) = _
              have e3 : (r.take n).length = n := by simp; omega
              unfold packF two
              rw [e3]
              have f1 : (5 + (n : Int)) / 256 % 256 = c := by omega
              have f2 : (5 + (n : Int)) % 256 = d := by omega
              have f3 : e % 256 = e := by omega
              rw [f1, f2, f3, q0, q1]; rfl
            · have hlen : ((l.take (tw l).toNat).drop 5).length ≤ 120 := by simp; omega
              unfold frameFault
              rw [if_pos (inB_iff.2 p5), if_neg (by omega)]
theorem spec_split_step {k : Nat} {l : List Int} (hl : l.length ≤ 1048576) (hb : ∀ x ∈ l, (Lit.int .u8 x).wf = true) (hk : 5 ≤ k) {u : Nat} (hu : u ≤ l.length) {fs : List S91} (hf : fs.length ≤ 1048576) :
    spec_SplitFrames.l0 (k + 1) l 0 (u : Int) fs = (if (nextF (l.drop u)).2.2.1 = 0 then some ((nextF (l.drop u)).2.2.2, (u : Int), fs) else spec_SplitFrames.l0 k l 0 ((u : Int) + tw (l.drop u)) (fs ++ [⟨(nextF (l.drop u)).1, (nextF (l.drop u)).2.1⟩])) := by
  have hb' : ∀ x ∈ l.drop u, (Lit.int .u8 x).wf = true := fun x hx => hb x (List.mem_of_mem_drop hx)
  have hl' : (l.drop u).length ≤ 1048576 := by simp; omega
  have hul : (l.drop u).length ≤ l.length := by simp
  have hun : (l.drop u).length = l.length - u := by simp
  rw [spec_SplitFrames.l0, if_pos (by omega), if_pos (by omega)]
  simp only [Int.toNat_natCast]
  generalize hd : l.drop u = d at *
  rw [spec_l1Head_eq hl' hb' hk]
  simp only [Option.bind_some]
  by_cases h0 : headF d = 0
  · rw [if_pos h0]
    by_cases h5 : d.length < 5
    · have e : nextF d = (0, [], 0, 0) := by rw [nextF_ok h0, if_pos (Or.inl h5)]
      rw [if_pos (by omega), e, if_pos rfl]
    · have ht : spec_l1Take.f k d 2 2 = some (tw d) := spec_l1Take_eq (a := 2) (m := 2) (by decide) (by omega) hl' hb' (by omega)
      rw [if_neg (by omega), ht]
      simp only [Option.bind_some]
      by_cases h6 : (d.length : Int) < tw d
      · have e : nextF d = (0, [], 0, 0) := by rw [nextF_ok h0, if_pos (Or.inr h6)]
        rw [if_pos h6, e, if_pos rfl]
      · have e : nextF d = (rd d 4, (d.take (tw d).toNat).drop 5, tw d, 0) := by rw [nextF_ok h0, if_neg (by omega)]
        have p : 5 ≤ tw d ∧ tw d ≤ 125 := by
          apply Decidable.byContradiction
          intro q
          have h0' := h0
          unfold headF at h0'
          by_cases p1 : (0 < d.length ∧ rd d 0 ≠ 255) ∨ (1 < d.length ∧ rd d 1 ≠ 255)
          · rw [if_pos p1] at h0'; exact absurd h0' (by decide)
          · rw [if_neg p1, if_pos ⟨by omega, q⟩] at h0'; exact absurd h0' (by decide)
        have hr : 0 ≤ rd d 4 ∧ rd d 4 < 256 := rd_byte hb' (i := 4) (by omega)
        rw [if_neg h6, if_pos (by omega), if_pos p.1, if_pos (by omega), if_pos (by simp; omega), if_pos (by omega), e, if_neg (show ¬ tw d = 0 by omega)]
        rw [wrap_id (x := (u : Int) + tw d) (by omega) (by omega), wrap_id (x := rd d 4) (by omega) (by omega), List.nil_append]
  · have e : nextF d = (0, [], 0, headF d) := nextF_bad rfl h0
    rw [if_neg h0, e, if_pos rfl]
theorem impl_split_step {k : Nat} {l : List Int} (hl : l.length ≤ 1048576) (hb : ∀ x ∈ l, (Lit.int .u8 x).wf = true) (hk : 10 ≤ k) {u : Nat} (hu : u ≤ l.length) {fs : List S91} (hf : fs.length ≤ 1048576) :
    impl_SplitFrames.l0 (k + 1) l 0 (u : Int) fs = (if (nextF (l.drop u)).2.2.1 = 0 then some ((nextF (l.drop u)).2.2.2, (u : Int), fs) else impl_SplitFrames.l0 k l 0 ((u : Int) + tw (l.drop u)) (fs ++ [⟨(nextF (l.drop u)).1, (nextF (l.drop u)).2.1⟩])) := by
  have hb' : ∀ x ∈ l.drop u, (Lit.int .u8 x).wf = true := fun x hx => hb x (List.mem_of_mem_drop hx)
  have hl' : (l.drop u).length ≤ 1048576 := by simp; omega
  have hun : (l.drop u).length = l.length - u := by simp
  rw [impl_SplitFrames.l0, if_pos (by omega), if_pos (by omega)]
  simp only [Int.toNat_natCast]
  rw [impl_nextFrame_eq hl' hb' hk]
  simp only [Option.bind_some]
  by_cases h : (nextF (l.drop u)).2.2.1 = 0
  · rw [if_pos h, if_pos h]
  · have hn := nextF_frame hb' h
    rw [if_neg h, if_neg h, if_pos (by omega)]
    have e : (nextF (l.drop u)).2.2.1 = tw (l.drop u) := by rw [hn.2.2.2.2.1]
    rw [e, wrap_id (by omega) (by omega)]
theorem split_ex {l : List Int} (hl : l.length ≤ 1048576) (hb : ∀ x ∈ l, (Lit.int .u8 x).wf = true) : ∀ (m u : Nat) (fs : List S91), u ≤ l.length → l.length - u ≤ m → fs.length + (l.length - u) ≤ 1048576 →
    ∃ (r : Int) (v : Nat) (gs : List S91), (∀ k, m + 12 ≤ k → spec_SplitFrames.l0 k l 0 (u : Int) fs = some (r, (v : Int), fs ++ gs)) ∧ (∀ k, m + 12 ≤ k → impl_SplitFrames.l0 k l 0 (u : Int) fs = some (r, (v : Int), fs ++ gs)) ∧
      u ≤ v ∧ v ≤ l.length ∧ (∀ g ∈ gs, frameFault g.f0 g.f1.length = 0 ∧ ∀ x ∈ g.f1, (Lit.int .u8 x).wf = true) ∧ (gs.map (fun g => packF g.f0 g.f1)).flatten = (l.drop u).take (v - u) ∧ gs.length ≤ v - u := by
  intro m
  induction m with
  | zero =>
    intro u fs hu hm hf
    have h0 : l.drop u = [] := List.drop_eq_nil_of_le (by omega)
    have hn : (nextF (l.drop u)).2.2.1 = 0 := by rw [h0]; rfl
    refine ⟨(nextF (l.drop u)).2.2.2, u, [], fun k hk => ?_, fun k hk => ?_, by omega, hu, by simp, by simp, by simp⟩
    · obtain ⟨k, rfl⟩ : ∃ m, k = m + 1 := ⟨k - 1, by omega⟩
      rw [spec_split_step hl hb (by omega) hu (by omega), if_pos hn, List.append_nil]
    · obtain ⟨k, rfl⟩ : ∃ m, k = m + 1 := ⟨k - 1, by omega⟩
      rw [impl_split_step hl hb (by omega) hu (by omega), if_pos hn, List.append_nil]
  | succ m ih =>
    intro u fs hu hm hf
    have hb' : ∀ x ∈ l.drop u, (Lit.int .u8 x).wf = true := fun x hx => hb x (List.mem_of_mem_drop hx)
    have hun : (l.drop u).length = l.length - u := by simp
    by_cases hn : (nextF (l.drop u)).2.2.1 = 0
    · refine ⟨(nextF (l.drop u)).2.2.2, u, [], fun k hk => ?_, fun k hk => ?_, by omega, hu, by simp, by simp, by simp⟩
      · obtain ⟨k, rfl⟩ : ∃ m, k = m + 1 := ⟨k - 1, by omega⟩
        rw [spec_split_step hl hb (by omega) hu (by omega), if_pos hn, List.append_nil]
      · obtain ⟨k, rfl⟩ : ∃ m, k = m + 1 := ⟨k - 1, by omega⟩
        rw [impl_split_step hl hb (by omega) hu (by omega), if_pos hn, List.append_nil]
    · obtain ⟨n1, n2, n3, n4, n5, n6, n7⟩ := nextF_frame hb' hn
      obtain ⟨t, ht⟩ : ∃ t : Nat, tw (l.drop u) = (t : Int) := ⟨(tw (l.drop u)).toNat, by omega⟩
      have hcast : (u : Int) + tw (l.drop u) = ((u + t : Nat) : Int) := by omega
      obtain ⟨r, v, gs, s1, s2, s3, s4, s5, s6, s7⟩ := ih (u + t) (fs ++ [⟨(nextF (l.drop u)).1, (nextF (l.drop u)).2.1⟩]) (by omega) (by omega) (by simp; omega)
      have ea : ∀ x : S91, fs ++ [x] ++ gs = fs ++ ([x] ++ gs) := fun x => List.append_assoc ..
      refine ⟨r, v, [⟨(nextF (l.drop u)).1, (nextF (l.drop u)).2.1⟩] ++ gs, fun k hk => ?_, fun k hk => ?_, by omega, s4, ?_, ?_, by simp; omega⟩
      · obtain ⟨k, rfl⟩ : ∃ m, k = m + 1 := ⟨k - 1, by omega⟩
        rw [spec_split_step hl hb (by omega) hu (by omega), if_neg hn, hcast, s1 k (by omega), ea]
      · obtain ⟨k, rfl⟩ : ∃ m, k = m + 1 := ⟨k - 1, by omega⟩
        rw [impl_split_step hl hb (by omega) hu (by omega), if_neg hn, hcast, s2 k (by omega), ea]
      · intro g hg
        rcases List.mem_append.1 hg with h | h
        · rw [List.mem_singleton.1 h, n5]
          exact ⟨n7, fun x hx => hb' x (List.mem_of_mem_take (List.mem_of_mem_drop hx))⟩
        · exact s5 g h
      · rw [List.map_append, List.flatten_append, s6, n5]
        simp only [List.map_cons, List.map_nil, List.flatten_cons, List.flatten_nil, List.append_nil]
        rw [n6, ht, Int.toNat_natCast, List.drop_drop.symm, show v - u = t + (v - (u + t)) by omega, List.take_add]
theorem split_both {l : List Int} (hl : l.length ≤ 1048576) (hb : ∀ x ∈ l, (Lit.int .u8 x).wf = true) (hs : ¬ 400 < l.length) :
    ∃ (r : Int) (v : Nat) (gs : List S91), (∀ k, l.length + 12 ≤ k → spec_SplitFrames.f k l = some (r, (v : Int), gs)) ∧ (∀ k, l.length + 12 ≤ k → impl_SplitFrames.f k l = some (r, (v : Int), gs)) ∧
      v ≤ l.length ∧ (∀ g ∈ gs, frameFault g.f0 g.f1.length = 0 ∧ ∀ x ∈ g.f1, (Lit.int .u8 x).wf = true) ∧ (gs.map (fun g => packF g.f0 g.f1)).flatten = l.take v ∧ gs.length ≤ v := by
  obtain ⟨r, v, gs, s1, s2, s3, s4, s5, s6, s7⟩ := split_ex hl hb l.length 0 [] (by omega) (by omega) (by simp; omega)
  refine ⟨r, v, gs, fun k hk => ?_, fun k hk => ?_, s4, s5, by simpa using s6, by omega⟩
  · unfold spec_SplitFrames.f
    rw [if_neg (by omega)]; exact s1 k hk
  · unfold impl_SplitFrames.f
    rw [if_neg (by omega)]; exact s2 k hk
theorem laws_eqByteS_refl {k : Nat} {l : List Int} (hl : l.length ≤ 1048576) (hk : l.length < k) : laws_eqByteS.f k l l = some true := by
  unfold laws_eqByteS.f
  rw [if_pos rfl]
  exact all_loop (L := fun k i => laws_eqByteS.l0 k l l i) (n := l.length) (B := 0)
    (fun k i h _ => by
      simp only [laws_eqByteS.l0]
      rw [if_pos (by omega), if_pos (by omega), if_pos (by omega)]
      simp only [if_true]
      rw [wrap_succ (by omega)])
    (fun k => by simp only [laws_eqByteS.l0]; rw [if_neg (by omega)]) (by omega)
theorem laws_eqFrame_refl {k : Nat} {a : Int} {l : List Int} (hl : l.length ≤ 1048576) (hk : l.length < k) : laws_eqFrame.f k a l a l = some true := by
  simp only [laws_eqFrame.f, laws_eqByteS_refl hl hk, Option.bind_some, if_true]
theorem laws_eqFrameS_refl {k : Nat} {l : List S91} (hl : l.length ≤ 1048576) (hf : ∀ f ∈ l, f.f1.length ≤ 1048576) (hk : l.length + 1048577 < k) : laws_eqFrameS.f k l l = some true := by
  unfold laws_eqFrameS.f
  rw [if_pos rfl]
  exact all_loop (L := fun k i => laws_eqFrameS.l0 k l l i) (n := l.length) (B := 1048577)
    (fun k i h hB => by
      have e : rd_T91 l (i : Int) = l[i] := getD_nat h
      simp only [laws_eqFrameS.l0]
      rw [if_pos (by omega), if_pos (by omega), if_pos (by omega), e, laws_eqFrame_refl (hf _ (List.getElem_mem h)) (by have := hf _ (List.getElem_mem h); omega)]
      simp only [Option.bind_some, if_true]
      rw [wrap_succ (by omega)])
    (fun k => by simp only [laws_eqFrameS.l0]; rw [if_neg (by omega)]) (by omega)
theorem laws_eqFramesResult_refl {k : Nat} {a b : Int} {l : List S91} (hl : l.length ≤ 1048576) (hf : ∀ f ∈ l, f.f1.length ≤ 1048576) (hk : l.length + 1048577 < k) : laws_eqFramesResult.f k a b l a b l = some true := by
  unfold laws_eqFramesResult.f
  rw [if_pos rfl, if_pos rfl, laws_eqFrameS_refl hl hf hk]
  rfl
theorem laws_markByteS_eq {k : Nat} {l : List Int} {m : Int} (h0 : 0 ≤ m) (h1 : m + l.length ≤ 1000000000) (hk : l.length < k) : laws_markByteS.f k l m = some (m + l.length, marks (fun x => x % 256) m l.length) := by
  unfold laws_markByteS.f
  exact mark_loop (L := fun k acc m i => laws_markByteS.l0 k acc m i) (g := (fun x => x % 256))
    (fun k acc m i h hl h0 h1 => by
      simp only [laws_markByteS.l0]
      rw [if_pos (by omega), if_pos (by omega), wrap_succ (by omega), wrap_id (x := m + 1) (by omega) (by omega)]
      simp)
    (fun k acc m hl => by simp only [laws_markByteS.l0]; rw [if_neg (by omega)]) rfl h0 h1 hk
theorem laws_heldByteS_eq {k n : Nat} {m : Int} (h0 : 0 ≤ m) (h1 : m + n ≤ 1000000000) (hk : n < k) : laws_heldByteS.f k (marks (fun x => x % 256) m n) m = some (m + n) := by
  unfold laws_heldByteS.f
  exact held_loop (L := fun k m' i => laws_heldByteS.l0 k (marks (fun x => x % 256) m n) m' i)
    (fun k i h => by
      have hl := marks_length (fun x => x % 256) m n
      have hr : rd (marks (fun x => x % 256) m n) (i : Int) = (m + i) % 256 := by
        rw [rd_nat (by omega), marks_get]
      simp only [laws_heldByteS.l0, hr]
      rw [if_pos (by omega), if_pos (by omega), if_true, wrap_succ (by omega), wrap_id (x := m + i + 1) (by omega) (by omega)]
      congr 1
      omega)
    (fun k m' => by
      have hl := marks_length (fun x => x % 256) m n
      simp only [laws_heldByteS.l0]; rw [if_neg (by omega)]) hk
def cntFs : List S91 → Nat
  | [] => 0
  | f :: fs => 1 + f.f1.length + cntFs fs
def markFs : List S91 → Int → List S91
  | [], _ => []
  | f :: fs, m => ⟨m, marks (fun x => x % 256) (m + 1) f.f1.length⟩ :: markFs fs (m + 1 + f.f1.length)
theorem markFs_length : ∀ (l : List S91) (m : Int), (markFs l m).length = l.length
  | [], _ => rfl
  | f :: fs, m => by simp only [markFs, List.length_cons, markFs_length fs]
theorem cntFs_le : ∀ (l : List S91), l.length ≤ cntFs l
  | [] => Nat.le_refl _
  | f :: fs => by have := cntFs_le fs; simp only [cntFs, List.length_cons]; omega
theorem rd_at {α : Type} {z : α} (d : List α) (y : α) (r : List α) : (d ++ y :: r).getD ((d.length : Int)).toNat z = y := by
  simp [List.getD_eq_getElem?_getD]
theorem laws_heldFrameS_from : ∀ (rest d : List S91) (m : Int) (k : Nat), 0 ≤ m → m + cntFs rest ≤ 1000000000 → d.length + cntFs rest ≤ 1000000000 → cntFs rest < k → laws_heldFrameS.l0 k (d ++ markFs rest m) m (d.length : Int) = some (m + cntFs rest)
  | [], d, m, k, h0, h1, hd, hk => by
    obtain ⟨k, rfl⟩ : ∃ m, k = m + 1 := ⟨k - 1, by omega⟩
    simp only [laws_heldFrameS.l0, markFs, List.append_nil, cntFs]
    rw [if_neg (by omega)]; simp
  | f :: fs, d, m, k, h0, h1, hd, hk => by
    obtain ⟨k, rfl⟩ : ∃ m, k = m + 1 := ⟨k - 1, by omega⟩
    simp only [cntFs] at h1 hk hd
    rw [show markFs (f :: fs) m = (⟨m, marks (fun x => x % 256) (m + 1) f.f1.length⟩ : S91) :: markFs fs (m + 1 + f.f1.length) from rfl]
    simp only [laws_heldFrameS.l0]
    have e : rd_T91 (d ++ (⟨m, marks (fun x => x % 256) (m + 1) f.f1.length⟩ : S91) :: markFs fs (m + 1 + f.f1.length)) (d.length : Int) = ⟨m, marks (fun x => x % 256) (m + 1) f.f1.length⟩ := rd_at _ _ _
    rw [if_pos (by simp; omega), if_pos (by omega), e]
    simp only
    rw [if_pos trivial, wrap_id (x := m + 1) (by omega) (by omega), laws_heldByteS_eq (by omega) (by omega) (by omega)]
    simp only [Option.bind_some]
    rw [if_neg (by omega), wrap_succ (by omega)]
    have ih := laws_heldFrameS_from fs (d ++ [(⟨m, marks (fun x => x % 256) (m + 1) f.f1.length⟩ : S91)]) (m + 1 + f.f1.length) k (by omega) (by omega) (by simp; omega) (by omega)
    rw [List.append_assoc] at ih
    simp only [List.length_append, List.length_singleton, List.singleton_append] at ih
    rw [ih]
    simp only [cntFs]
    congr 1
    omega
theorem laws_heldFrameS_eq {k : Nat} {l : List S91} {m : Int} (h0 : 0 ≤ m) (h1 : m + cntFs l ≤ 1000000000) (hk : cntFs l < k) : laws_heldFrameS.f k (markFs l m) m = some (m + cntFs l) := by
  exact laws_heldFrameS_from l [] m k h0 h1 (by simp; omega) hk
theorem laws_heldFramesResult_eq {k : Nat} {a b : Int} {l : List S91} {m : Int} (h0 : 0 ≤ m) (h1 : m + cntFs l ≤ 1000000000) (hk : cntFs l < k) : laws_heldFramesResult.f k a b (markFs l m) m = some (m + cntFs l) := by
  unfold laws_heldFramesResult.f
  rw [laws_heldFrameS_eq h0 h1 hk]
  simp only [Option.bind_some]
  rw [if_neg (by omega)]
end Go.Proofs.Ytfbojdagjecjcaa.Pure
