/- The pure part of the law FnSplits: what the printed functions compute, in closed form, and that the law's answer is true. -/
import Derived.Test.YtfbojdagjecjcaaSFnSplits
import Derived.Test.YtfbojdagjecjcaaYFnSplitsx1
import Derived.Test.YtfbojdagjecjcaaYFnSplitsx2
import Derived.Test.YtfbojdagjecjcaaYFnSplitsx3
import Derived.Test.YtfbojdagjecjcaaYFnSplitsx4
import Derived.Test.YtfbojdagjecjcaaYFnSplitsx5
import Derived.Test.YtfbojdagjecjcaaYFnSplitsx6
import Derived.Test.YtfbojdagjecjcaaYFnSplitsx7
import Derived.Test.YtfbojdagjecjcaaYFnSplitsx8
import Derived.Test.YtfbojdagjecjcaaYFnSplitsx9
import Derived.Test.YtfbojdagjecjcaaYFnSplitsx10
namespace Go.Proofs.Ytfbojdagjecjcaa.Pure
open Go.RowKit Go.Proofs.Ytfbojdagjecjcaa.PFnSplits Go.Proofs.YtfbojdagjecjcaaW.PrintWords Go.Proofs.YtfbojdagjecjcaaW.PrintLast Go.Proofs.YtfbojdagjecjcaaW.PrintMore Go.Proofs.Ytfbojdagjecjcaa.B
set_option linter.unusedVariables false
set_option linter.unusedSimpArgs false
theorem spec_l1Take_eq {k : Nat} {l : List Int} {a m : Nat} (hm : m ≤ 5) (ha : a + m ≤ l.length) (hl : l.length ≤ 1048576) (hb : ∀ x ∈ l, (Lit.int .u8 x).wf = true) (hk : m < k) : spec_l1Take.f k l (a : Int) (m : Int) = some (numOf ((l.drop a).take m)) := by
  have hlen : ((l.drop a).take m).length = m := by simp; omega
  unfold spec_l1Take.f numOf
  refine Eq.trans ?_ (congrArg some (run_foldl (fun n b => n * 256 + b) id ((l.drop a).take m) 0 0))
  exact run_loop (L := fun k s i => spec_l1Take.l0 k l (a : Int) (m : Int) s i) (fun i s => 0 ≤ s ∧ s < ((256 ^ i : Nat) : Int)) (B := 0)
    (fun k i s h _ hi => by
      rw [hlen] at h
      have hq : a + i < l.length := by omega
      have he : ((l.drop a).take m)[i]'(by rw [hlen]; exact h) = l[a + i] := by simp
      have hx := u8_wf (hb _ (List.getElem_mem hq))
      have hs1 := (numOf_step (by omega) hi.1 hi.2 hx.1 hx.2).2.2
      have hs0 := hi.1
      clear hi
      have hw : wrap64 ((a : Int) + (i : Int)) = ((a + i : Nat) : Int) := by rw [wrap_id (by omega) (by omega)]; omega
      simp only [spec_l1Take.l0, hw]
      clear hw
      rw [if_pos (by omega), if_pos (by omega), if_pos (by omega), rd_nat hq, take_wrap hs0 hs1 hx.1 hx.2, wrap_succ (by omega), he])
    (fun i s s' h hi e => by
      rw [hlen] at h
      have hq : a + i < l.length := by omega
      have he : ((l.drop a).take m)[i]'(by rw [hlen]; exact h) = l[a + i] := by simp
      have hx := u8_wf (hb _ (List.getElem_mem hq))
      have hst := numOf_step (by omega) hi.1 hi.2 hx.1 hx.2
      injection e with e
      rw [he] at e
      exact e ▸ ⟨hst.1, hst.2.1⟩)
    (fun k s _ => by simp only [spec_l1Take.l0]; rw [hlen, if_neg (by omega)]; rfl) ⟨by decide, by decide⟩ (by omega)
theorem spec_l1In_eq (n lo hi : Int) : spec_l1In.f n lo hi = some (inB n lo hi) := inB_eq n lo hi
def tw (l : List Int) : Int := numOf ((l.drop 2).take 2)
def headF (l : List Int) : Int :=
  if (0 < l.length ∧ rd l 0 ≠ 255) ∨ (1 < l.length ∧ rd l 1 ≠ 255) then 1
  else if 3 < l.length ∧ ¬ (5 ≤ tw l ∧ tw l ≤ 125) then 2
  else if 4 < l.length ∧ ¬ (1 ≤ rd l 4 ∧ rd l 4 ≤ 4) then 3 else 0
def nextF (l : List Int) : Int × List Int × Int × Int :=
  if headF l ≠ 0 then (0, [], 0, headF l) else if l.length < 5 ∨ (l.length : Int) < tw l then (0, [], 0, 0) else (rd l 4, (l.take (tw l).toNat).drop 5, tw l, 0)
theorem rd_byte {l : List Int} (hb : ∀ x ∈ l, (Lit.int .u8 x).wf = true) {i : Nat} (h : i < l.length) : 0 ≤ rd l (i : Int) ∧ rd l (i : Int) < 256 := by
  rw [rd_nat h]; exact u8_wf (hb _ (List.getElem_mem h))
theorem tw_eq {l : List Int} (h : 3 < l.length) : tw l = rd l 2 * 256 + rd l 3 := by
  obtain ⟨a, b, c, d, r, rfl⟩ : ∃ a b c d r, l = a :: b :: c :: d :: r := by
    match l, h with
    | a :: b :: c :: d :: r, _ => exact ⟨a, b, c, d, r, rfl⟩
  simp [tw, numOf, rd]
theorem spec_l1Head_eq {k : Nat} {l : List Int} (hl : l.length ≤ 1048576) (hb : ∀ x ∈ l, (Lit.int .u8 x).wf = true) (hk : 5 ≤ k) : spec_l1Head.f k l = some (headF l) := by
  obtain ⟨k, rfl⟩ : ∃ m, k = m + 5 := ⟨k - 5, by omega⟩
  have j1 : ∀ x, spec_l1Head.j1 (k + 4) l (l.length : Int) x = some (if x = true then 2 else if 4 < l.length ∧ ¬ (1 ≤ rd l 4 ∧ rd l 4 ≤ 4) then 3 else 0) := by
    intro x
    show spec_l1Head.j1 (k + 3 + 1) l (l.length : Int) x = _
    rw [spec_l1Head.j1]
    cases x
    · simp only [Bool.false_eq_true, if_false]
      by_cases h4 : 4 < l.length
      · have hr : 0 ≤ rd l 4 ∧ rd l 4 < 256 := rd_byte hb (i := 4) h4
        rw [if_pos (by omega), if_pos (by omega), wrap_id (x := rd l 4) (by omega) (by omega), spec_l1In_eq]
        simp only [Option.bind_some]
        by_cases h5 : 1 ≤ rd l 4 ∧ rd l 4 ≤ 4
        · rw [if_pos (inB_iff.2 h5), if_neg (fun h => h.2 h5)]
        · rw [if_neg (fun h => h5 (inB_iff.1 h)), if_pos ⟨h4, h5⟩]
      · rw [if_neg (by omega), if_neg (fun h => h4 h.1)]
    · rfl
  have j0 : ∀ x, spec_l1Head.j0 (k + 5) l (l.length : Int) x = some (if x = true then 1 else if 3 < l.length ∧ ¬ (5 ≤ tw l ∧ tw l ≤ 125) then 2 else if 4 < l.length ∧ ¬ (1 ≤ rd l 4 ∧ rd l 4 ≤ 4) then 3 else 0) := by
    intro x
    show spec_l1Head.j0 (k + 4 + 1) l (l.length : Int) x = _
    rw [spec_l1Head.j0]
    cases x
    · simp only [Bool.false_eq_true, if_false]
      by_cases h3 : 3 < l.length
      · have ht : spec_l1Take.f (k + 4) l 2 2 = some (tw l) := spec_l1Take_eq (a := 2) (m := 2) (by decide) (by omega) hl hb (by omega)
        rw [if_pos (by omega), ht]
        simp only [Option.bind_some]
        rw [spec_l1In_eq]
        simp only [Option.bind_some]
        rw [j1]
        by_cases h5 : 5 ≤ tw l ∧ tw l ≤ 125
        · rw [inB_iff.2 h5, if_neg (by simp), if_neg (fun h : 3 < l.length ∧ ¬ (5 ≤ tw l ∧ tw l ≤ 125) => h.2 h5)]
        · have hB : inB (tw l) 5 125 = false := by
            cases h : inB (tw l) 5 125
            · rfl
            · exact absurd (inB_iff.1 h) h5
          rw [hB, if_pos (by simp), if_pos ⟨h3, h5⟩]
      · rw [if_neg (by omega), j1, if_neg (by simp), if_neg (fun h : 3 < l.length ∧ ¬ (5 ≤ tw l ∧ tw l ≤ 125) => h3 h.1)]
    · rfl
  unfold spec_l1Head.f headF
  have fin : ∀ (x : Bool) (R : Int), ((x = true) ↔ ((0 < l.length ∧ rd l 0 ≠ 255) ∨ (1 < l.length ∧ rd l 1 ≠ 255))) → some (if x = true then 1 else R) = some (if (0 < l.length ∧ rd l 0 ≠ 255) ∨ (1 < l.length ∧ rd l 1 ≠ 255) then (1 : Int) else R) := by
    intro x R hx
    by_cases h : x = true
    · rw [if_pos h, if_pos (hx.1 h)]
    · rw [if_neg h, if_neg (fun q => h (hx.2 q))]
  by_cases h0 : 0 < l.length
  · rw [if_pos (by omega), if_pos (by omega)]
    by_cases ha : rd l 0 = 255
    · rw [if_pos ha]
      by_cases h1 : 1 < l.length
      · rw [if_pos (by omega), if_pos (by omega), j0]
        exact fin _ _ ⟨fun h => Or.inr ⟨h1, by simpa using h⟩, fun h => by
          rcases h with h | h
          · exact absurd ha h.2
          · simpa using h.2⟩
      · rw [if_neg (by omega), j0]
        exact fin _ _ ⟨fun h => by simp at h, fun h => by
          rcases h with h | h
          · exact absurd ha h.2
          · exact absurd h.1 h1⟩
    · rw [if_neg ha, j0]
      exact fin _ _ ⟨fun _ => Or.inl ⟨h0, ha⟩, fun _ => rfl⟩
  · rw [if_neg (by omega), if_neg (by omega), j0]
    exact fin _ _ ⟨fun h => by simp at h, fun h => by
      rcases h with h | h
      · exact absurd h.1 h0
      · exact absurd h.1 (by omega)⟩
theorem impl_in_eq (n lo hi : Int) : impl_in.f n lo hi = some (inB n lo hi) := inB_eq n lo hi
theorem impl_size_byte_eq (l : List Int) : impl_size_byte.f l = some (l.length : Int) := rfl
theorem impl_numberOf_eq {k : Nat} {l : List Int} (hl : l.length ≤ 5) (hb : ∀ x ∈ l, (Lit.int .u8 x).wf = true) (hk : l.length < k) : impl_numberOf.f k l = some (numOf l) := by
  unfold impl_numberOf.f numOf
  refine Eq.trans ?_ (congrArg some (run_foldl (fun n b => n * 256 + b) id l 0 0))
  exact run_loop (L := fun k s i => impl_numberOf.l0 k s l (l.length : Int) i) (fun i s => 0 ≤ s ∧ s < ((256 ^ i : Nat) : Int)) (B := 0)
    (fun k i s h _ hi => by
      have hx := u8_wf (hb _ (List.getElem_mem h))
      have hst := numOf_step (by omega) hi.1 hi.2 hx.1 hx.2
      simp only [impl_numberOf.l0]
      rw [if_pos (by omega), if_pos (by omega), if_pos (by omega), rd_nat h, or_wrap hi.1 hst.2.2 hx.1 hx.2, wrap_succ (by omega)])
    (fun i s s' h hi e => by
      have hx := u8_wf (hb _ (List.getElem_mem h))
      have hst := numOf_step (by omega) hi.1 hi.2 hx.1 hx.2
      injection e with e
      exact e ▸ ⟨hst.1, hst.2.1⟩)
    (fun k s _ => by simp only [impl_numberOf.l0]; rw [if_neg (by omega)]; rfl) ⟨by decide, by decide⟩ (by omega)
theorem nextF_bad {l : List Int} {r : Int} (h : headF l = r) (hr : r ≠ 0) : nextF l = (0, [], 0, r) := by
  unfold nextF; rw [if_pos (by rw [h]; exact hr), h]
theorem nextF_ok {l : List Int} (h : headF l = 0) : nextF l = if l.length < 5 ∨ (l.length : Int) < tw l then (0, [], 0, 0) else (rd l 4, (l.take (tw l).toNat).drop 5, tw l, 0) := by
  unfold nextF; rw [if_neg (by rw [h]; simp)]
theorem impl_nextFrame_eq {k : Nat} {l : List Int} (hl : l.length ≤ 1048576) (hb : ∀ x ∈ l, (Lit.int .u8 x).wf = true) (hk : 10 ≤ k) : impl_nextFrame.f k l = some (nextF l) := by
  obtain ⟨k, rfl⟩ : ∃ m, k = m + 10 := ⟨k - 10, by omega⟩
  have j1 : ∀ k x, 3 < l.length → 5 ≤ tw l → tw l ≤ 125 → impl_nextFrame.j1 (k + 1) l (tw l) x = some (if x = true then (0, [], 0, 3) else if l.length < 5 ∨ (l.length : Int) < tw l then (0, [], 0, 0) else (rd l 4, (l.take (tw l).toNat).drop 5, tw l, 0)) := by
    intro k x h3 h5 h6
    rw [impl_nextFrame.j1]
    cases x
    · simp only [Bool.false_eq_true, if_false, impl_size_byte_eq, Option.bind_some]
      by_cases h4 : (l.length : Int) < tw l
      · rw [if_pos h4, if_pos (Or.inr h4)]
      · have h7 : ¬ (l.length < 5 ∨ (l.length : Int) < tw l) := by omega
        have hr : 0 ≤ rd l 4 ∧ rd l 4 < 256 := rd_byte hb (i := 4) (by omega)
        rw [if_neg h4, if_neg h7, if_pos (by omega), if_pos (by omega), if_pos (by omega), if_pos (by simp; omega), wrap_id (x := rd l 4) (by omega) (by omega), List.nil_append]
    · rfl
  have fin : ∀ k (m : List Int), m.length ≤ l.length → (¬ ((0 < l.length ∧ rd l 0 ≠ 255) ∨ (1 < l.length ∧ rd l 1 ≠ 255))) → impl_nextFrame.l0 (k + 6) l m (m.length : Int) (m.length : Int) = some (nextF l) := by
    intro k m hm hh
    show impl_nextFrame.l0 (k + 5 + 1) l m (m.length : Int) (m.length : Int) = _
    rw [impl_nextFrame.l0, if_neg (by omega)]
    by_cases h4 : l.length < 4
    · have hd : headF l = 0 := by unfold headF; rw [if_neg hh, if_neg (by omega), if_neg (by omega)]
      rw [if_pos (by omega), nextF_ok hd, if_pos (by omega)]
    · have e : (l.take 4).drop 2 = (l.drop 2).take 2 := by rw [List.drop_take]
      have hn : impl_numberOf.f (k + 5) ((l.take 4).drop 2) = some (tw l) := by
        rw [e]
        exact impl_numberOf_eq (by simp; omega) (fun x hx => hb x (List.mem_of_mem_drop (List.mem_of_mem_take hx))) (by simp; omega)
      rw [if_neg (by omega), if_pos (by decide), if_pos (by omega), hn]
      simp only [Option.bind_some]
      rw [impl_in_eq]
      simp only [Option.bind_some]
      by_cases h5 : 5 ≤ tw l ∧ tw l ≤ 125
      · rw [if_pos (inB_iff.2 h5)]
        by_cases h6 : 4 < l.length
        · have hr : 0 ≤ rd l 4 ∧ rd l 4 < 256 := rd_byte hb (i := 4) h6
          rw [if_pos (by omega), if_pos (by omega), wrap_id (x := rd l 4) (by omega) (by omega), impl_in_eq]
          simp only [Option.bind_some]
          rw [j1 _ _ (by omega) h5.1 h5.2]
          by_cases h7 : 1 ≤ rd l 4 ∧ rd l 4 ≤ 4
          · have hd : headF l = 0 := by unfold headF; rw [if_neg hh, if_neg (fun h : 3 < l.length ∧ ¬ (5 ≤ tw l ∧ tw l ≤ 125) => h.2 h5), if_neg (fun h : 4 < l.length ∧ ¬ (1 ≤ rd l 4 ∧ rd l 4 ≤ 4) => h.2 h7)]
            rw [inB_iff.2 h7, nextF_ok hd]; rfl
          · have hB : inB (rd l 4) 1 4 = false := by
              cases h : inB (rd l 4) 1 4
              · rfl
              · exact absurd (inB_iff.1 h) h7
            have hd : headF l = 3 := by unfold headF; rw [if_neg hh, if_neg (fun h : 3 < l.length ∧ ¬ (5 ≤ tw l ∧ tw l ≤ 125) => h.2 h5), if_pos ⟨h6, h7⟩]
            rw [hB, nextF_bad hd (by decide)]; rfl
        · have hd : headF l = 0 := by unfold headF; rw [if_neg hh, if_neg (fun h : 3 < l.length ∧ ¬ (5 ≤ tw l ∧ tw l ≤ 125) => h.2 h5), if_neg (fun h : 4 < l.length ∧ ¬ (1 ≤ rd l 4 ∧ rd l 4 ≤ 4) => h6 h.1)]
          rw [if_neg (by omega), j1 _ _ (by omega) h5.1 h5.2, nextF_ok hd]; rfl
      · have hd : headF l = 2 := by unfold headF; rw [if_neg hh, if_pos ⟨by omega, h5⟩]
        rw [if_neg (fun h => h5 (inB_iff.1 h)), nextF_bad hd (by decide)]
  have bad : ((0 < l.length ∧ rd l 0 ≠ 255) ∨ (1 < l.length ∧ rd l 1 ≠ 255)) → some (0, ([] : List Int), (0 : Int), (1 : Int)) = some (nextF l) := by
    intro hh
    have hd : headF l = 1 := by unfold headF; rw [if_pos hh]
    rw [nextF_bad hd (by decide)]
  unfold impl_nextFrame.f
  match l, fin, bad with
  | [], fin, _ =>
    rw [if_pos (by simp [mn]), if_pos (by simp [mn])]
    exact fin (k + 4) [] (by simp) (by simp)
  | [a], fin, bad =>
    have e : (List.take (mn (([a] : List Int).length : Int) 2).toNat [a]) = [a] := by simp [mn]
    rw [if_pos (by simp [mn]), if_pos (by simp [mn]), e]
    show impl_nextFrame.l0 (k + 9 + 1) [a] [a] 1 0 = _
    rw [impl_nextFrame.l0, if_pos (by decide), if_pos (by decide), if_pos (by simp)]
    by_cases ha : rd [a] 0 = 255
    · rw [if_pos ha, show wrap64 (0 + 1) = 1 by decide +kernel]
      exact fin (k + 3) [a] (by simp) (by simp [ha])
    · rw [if_neg ha]; exact bad (Or.inl ⟨by simp, ha⟩)
  | a :: b :: r, fin, bad =>
    have e : (List.take (mn ((a :: b :: r : List Int).length : Int) 2).toNat (a :: b :: r)) = [a, b] := by
      have : mn ((a :: b :: r : List Int).length : Int) 2 = 2 := by simp [mn]; omega
      rw [this]; rfl
    rw [if_pos (by simp [mn]; split <;> omega), if_pos (by simp [mn]; split <;> omega), e]
    show impl_nextFrame.l0 (k + 9 + 1) (a :: b :: r) [a, b] 2 0 = _
    rw [impl_nextFrame.l0, if_pos (by decide), if_pos (by decide), if_pos (by simp)]
    by_cases ha : rd [a, b] 0 = 255
    · rw [if_pos ha, show wrap64 (0 + 1) = 1 by decide +kernel]
      show impl_nextFrame.l0 (k + 8 + 1) (a :: b :: r) [a, b] 2 1 = _
      rw [impl_nextFrame.l0, if_pos (by decide), if_pos (by decide), if_pos (by simp)]
      by_cases hb1 : rd [a, b] 1 = 255
      · rw [if_pos hb1, show wrap64 (1 + 1) = 2 by decide +kernel]
        exact fin (k + 2) [a, b] (by simp) (by
          have h1 : rd (a :: b :: r) 0 = 255 := ha
          have h2 : rd (a :: b :: r) 1 = 255 := hb1
          simp [h1, h2])
      · rw [if_neg hb1]; exact bad (Or.inr ⟨by simp, hb1⟩)
    · rw [if_neg ha]; exact bad (Or.inl ⟨by simp, ha⟩)
theorem nextF_frame {l : List Int} (hb : ∀ x ∈ l, (Lit.int .u8 x).wf = true) (h : (nextF l).2.2.1 ≠ 0) :
    5 ≤ tw l ∧ tw l ≤ l.length ∧ headF l = 0 ∧ 5 ≤ l.length ∧ nextF l = (rd l 4, (l.take (tw l).toNat).drop 5, tw l, 0) ∧
    packF (rd l 4) ((l.take (tw l).toNat).drop 5) = l.take (tw l).toNat ∧ frameFault (rd l 4) ((l.take (tw l).toNat).drop 5).length = 0 := by
  unfold nextF at h ⊢
  by_cases hd : headF l ≠ 0
  · rw [if_pos hd] at h; exact absurd rfl h
  · rw [if_neg hd] at h ⊢
    by_cases h5 : l.length < 5 ∨ (l.length : Int) < tw l
    · rw [if_pos h5] at h; exact absurd rfl h
    · rw [if_neg h5]
      have hd0 : headF l = 0 := by omega
      have hd' := hd0
      unfold headF at hd0
      by_cases p1 : (0 < l.length ∧ rd l 0 ≠ 255) ∨ (1 < l.length ∧ rd l 1 ≠ 255)
      · rw [if_pos p1] at hd0; exact absurd hd0 (by decide)
      · rw [if_neg p1] at hd0
        by_cases p2 : 3 < l.length ∧ ¬ (5 ≤ tw l ∧ tw l ≤ 125)
        · rw [if_pos p2] at hd0; exact absurd hd0 (by decide)
        · rw [if_neg p2] at hd0
          by_cases p3 : 4 < l.length ∧ ¬ (1 ≤ rd l 4 ∧ rd l 4 ≤ 4)
          · rw [if_pos p3] at hd0; exact absurd hd0 (by decide)
          · have p4 : 5 ≤ tw l ∧ tw l ≤ 125 := by
              apply Decidable.byContradiction; intro q; exact p2 ⟨by omega, q⟩
            have p5 : 1 ≤ rd l 4 ∧ rd l 4 ≤ 4 := by
              apply Decidable.byContradiction; intro q; exact p3 ⟨by omega, q⟩
            have p6 : rd l 0 = 255 := by
              apply Decidable.byContradiction; intro q; exact p1 (Or.inl ⟨by omega, q⟩)
            have p7 : rd l 1 = 255 := by
              apply Decidable.byContradiction; intro q; exact p1 (Or.inr ⟨by omega, q⟩)
            have p8 := tw_eq (l := l) (by omega)
            have b2 : 0 ≤ rd l 2 ∧ rd l 2 < 256 := rd_byte hb (i := 2) (by omega)
            have b3 : 0 ≤ rd l 3 ∧ rd l 3 < 256 := rd_byte hb (i := 3) (by omega)
            refine ⟨p4.1, by omega, hd', by omega, rfl, ?_, ?_⟩
            · generalize ht : tw l = t at *
              obtain ⟨n, rfl⟩ : ∃ n : Nat, t = ((n + 5 : Nat) : Int) := ⟨(t - 5).toNat, by omega⟩
              obtain ⟨a, b, c, d, e, r, rfl⟩ : ∃ a b c d e r, l = a :: b :: c :: d :: e :: r := by
                match l, h5 with
                | a :: b :: c :: d :: e :: r, _ => exact ⟨a, b, c, d, e, r, rfl⟩
                | [], h5 => simp at h5
                | [_], h5 => simp at h5
                | [_, _], h5 => simp at h5
                | [_, _, _], h5 => simp at h5
                | [_, _, _, _], h5 => simp at h5
              have q0 : a = 255 := p6
              have q1 : b = 255 := p7
              have q4 : 1 ≤ e ∧ e ≤ 4 := p5
              have q8 : ((n + 5 : Nat) : Int) = c * 256 + d := p8
              have c2 : 0 ≤ c ∧ c < 256 := b2
              have c3 : 0 ≤ d ∧ d < 256 := b3
              have q9 : n ≤ r.length := by simp at h5; omega
              have e1 : (((n + 5 : Nat) : Int)).toNat = n + 5 := by omega
              rw [e1]
              have e2 : List.take (n + 5) (a :: b :: c :: d :: e :: r) = a :: b :: c :: d :: e :: r.take n := rfl
              rw [e2]
              show packF e (r.take n) = _
              have e3 : (r.take n).length = n := by simp; omega
              unfold packF two
              rw [e3]
              have f1 : (5 + (n : Int)) / 256 % 256 = c := by omega
              have f2 : (5 + (n : Int)) % 256 = d := by omega
              have f3 : e % 256 = e := by omega
              rw [f1, f2, f3, q0, q1]; rfl
            · have hlen : ((l.take (tw l).toNat).drop 5).length ≤ 120 := by simp; omega
              unfold frameFault
              rw [if_pos (inB_iff.2 p5), if_neg (by omega)]
theorem spec_split_step {k : Nat} {l : List Int} (hl : l.length ≤ 1048576) (hb : ∀ x ∈ l, (Lit.int .u8 x).wf = true) (hk : 5 ≤ k) {u : Nat} (hu : u ≤ l.length) {fs : List S91} (hf : fs.length ≤ 1048576) :
    spec_SplitFrames.l0 (k + 1) l 0 (u : Int) fs = (if (nextF (l.drop u)).2.2.1 = 0 then some ((nextF (l.drop u)).2.2.2, (u : Int), fs) else spec_SplitFrames.l0 k l 0 ((u : Int) + tw (l.drop u)) (fs ++ [⟨(nextF (l.drop u)).1, (nextF (l.drop u)).2.1⟩])) := by
  have hb' : ∀ x ∈ l.drop u, (Lit.int .u8 x).wf = true := fun x hx => hb x (List.mem_of_mem_drop hx)
  have hl' : (l.drop u).length ≤ 1048576 := by simp; omega
  have hul : (l.drop u).length ≤ l.length := by simp
  have hun : (l.drop u).length = l.length - u := by simp
  rw [spec_SplitFrames.l0, if_pos (by omega), if_pos (by omega)]
  simp only [Int.toNat_natCast]
  generalize hd : l.drop u = d at *
  rw [spec_l1Head_eq hl' hb' hk]
  simp only [Option.bind_some]
  by_cases h0 : headF d = 0
  · rw [if_pos h0]
    by_cases h5 : d.length < 5
    · have e : nextF d = (0, [], 0, 0) := by rw [nextF_ok h0, if_pos (Or.inl h5)]
      rw [if_pos (by omega), e, if_pos rfl]
    · have ht : spec_l1Take.f k d 2 2 = some (tw d) := spec_l1Take_eq (a := 2) (m := 2) (by decide) (by omega) hl' hb' (by omega)
      rw [if_neg (by omega), ht]
      simp only [Option.bind_some]
      by_cases h6 : (d.length : Int) < tw d
      · have e : nextF d = (0, [], 0, 0) := by rw [nextF_ok h0, if_pos (Or.inr h6)]
        rw [if_pos h6, e, if_pos rfl]
      · have e : nextF d = (rd d 4, (d.take (tw d).toNat).drop 5, tw d, 0) := by rw [nextF_ok h0, if_neg (by omega)]
        have p : 5 ≤ tw d ∧ tw d ≤ 125 := by
          apply Decidable.byContradiction
          intro q
          have h0' := h0
          unfold headF at h0'
          by_cases p1 : (0 < d.length ∧ rd d 0 ≠ 255) ∨ (1 < d.length ∧ rd d 1 ≠ 255)
          · rw [if_pos p1] at h0'; exact absurd h0' (by decide)
          · rw [if_neg p1, if_pos ⟨by omega, q⟩] at h0'; exact absurd h0' (by decide)
        have hr : 0 ≤ rd d 4 ∧ rd d 4 < 256 := rd_byte hb' (i := 4) (by omega)
        rw [if_neg h6, if_pos (by omega), if_pos p.1, if_pos (by omega), if_pos (by simp; omega), if_pos (by omega), e, if_neg (show ¬ tw d = 0 by omega)]
        rw [wrap_id (x := (u : Int) + tw d) (by omega) (by omega), wrap_id (x := rd d 4) (by omega) (by omega), List.nil_append]
  · have e : nextF d = (0, [], 0, headF d) := nextF_bad rfl h0
    rw [if_neg h0, e, if_pos rfl]
theorem impl_split_step {k : Nat} {l : List Int} (hl : l.length ≤ 1048576) (hb : ∀ x ∈ l, (Lit.int .u8 x).wf = true) (hk : 10 ≤ k) {u : Nat} (hu : u ≤ l.length) {fs : List S91} (hf : fs.length ≤ 1048576) :
    impl_SplitFrames.l0 (k + 1) l 0 (u : Int) fs = (if (nextF (l.drop u)).2.2.1 = 0 then some ((nextF (l.drop u)).2.2.2, (u : Int), fs) else impl_SplitFrames.l0 k l 0 ((u : Int) + tw (l.drop u)) (fs ++ [⟨(nextF (l.drop u)).1, (nextF (l.drop u)).2.1⟩])) := by
  have hb' : ∀ x ∈ l.drop u, (Lit.int .u8 x).wf = true := fun x hx => hb x (List.mem_of_mem_drop hx)
  have hl' : (l.drop u).length ≤ 1048576 := by simp; omega
  have hun : (l.drop u).length = l.length - u := by simp
  rw [impl_SplitFrames.l0, if_pos (by omega), if_pos (by omega)]
  simp only [Int.toNat_natCast]
  rw [impl_nextFrame_eq hl' hb' hk]
  simp only [Option.bind_some]
  by_cases h : (nextF (l.drop u)).2.2.1 = 0
  · rw [if_pos h, if_pos h]
  · have hn := nextF_frame hb' h
    rw [if_neg h, if_neg h, if_pos (by omega)]
    have e : (nextF (l.drop u)).2.2.1 = tw (l.drop u) := by rw [hn.2.2.2.2.1]
    rw [e, wrap_id (by omega) (by omega)]
theorem split_ex {l : List Int} (hl : l.length ≤ 1048576) (hb : ∀ x ∈ l, (Lit.int .u8 x).wf = true) : ∀ (m u : Nat) (fs : List S91), u ≤ l.length → l.length - u ≤ m → fs.length + (l.length - u) ≤ 1048576 →
    ∃ (r : Int) (v : Nat) (gs : List S91), (∀ k, m + 12 ≤ k → spec_SplitFrames.l0 k l 0 (u : Int) fs = some (r, (v : Int), fs ++ gs)) ∧ (∀ k, m + 12 ≤ k → impl_SplitFrames.l0 k l 0 (u : Int) fs = some (r, (v : Int), fs ++ gs)) ∧
      u ≤ v ∧ v ≤ l.length ∧ (∀ g ∈ gs, frameFault g.f0 g.f1.length = 0 ∧ ∀ x ∈ g.f1, (Lit.int .u8 x).wf = true) ∧ (gs.map (fun g => packF g.f0 g.f1)).flatten = (l.drop u).take (v - u) ∧ gs.length ≤ v - u := by
  intro m
  induction m with
  | zero =>
    intro u fs hu hm hf
    have h0 : l.drop u = [] := List.drop_eq_nil_of_le (by omega)
    have hn : (nextF (l.drop u)).2.2.1 = 0 := by rw [h0]; rfl
    refine ⟨(nextF (l.drop u)).2.2.2, u, [], fun k hk => ?_, fun k hk => ?_, by omega, hu, by simp, by simp, by simp⟩
    · obtain ⟨k, rfl⟩ : ∃ m, k = m + 1 := ⟨k - 1, by omega⟩
      rw [spec_split_step hl hb (by omega) hu (by omega), if_pos hn, List.append_nil]
    · obtain ⟨k, rfl⟩ : ∃ m, k = m + 1 := ⟨k - 1, by omega⟩
      rw [impl_split_step hl hb (by omega) hu (by omega), if_pos hn, List.append_nil]
  | succ m ih =>
    intro u fs hu hm hf
    have hb' : ∀ x ∈ l.drop u, (Lit.int .u8 x).wf = true := fun x hx => hb x (List.mem_of_mem_drop hx)
    have hun : (l.drop u).length = l.length - u := by simp
    by_cases hn : (nextF (l.drop u)).2.2.1 = 0
    · refine ⟨(nextF (l.drop u)).2.2.2, u, [], fun k hk => ?_, fun k hk => ?_, by omega, hu, by simp, by simp, by simp⟩
      · obtain ⟨k, rfl⟩ : ∃ m, k = m + 1 := ⟨k - 1, by omega⟩
        rw [spec_split_step hl hb (by omega) hu (by omega), if_pos hn, List.append_nil]
      · obtain ⟨k, rfl⟩ : ∃ m, k = m + 1 := ⟨k - 1, by omega⟩
        rw [impl_split_step hl hb (by omega) hu (by omega), if_pos hn, List.append_nil]
    · obtain ⟨n1, n2, n3, n4, n5, n6, n7⟩ := nextF_frame hb' hn
      obtain ⟨t, ht⟩ : ∃ t : Nat, tw (l.drop u) = (t : Int) := ⟨(tw (l.drop u)).toNat, by omega⟩
      have hcast : (u : Int) + tw (l.drop u) = ((u + t : Nat) : Int) := by omega
      obtain ⟨r, v, gs, s1, s2, s3, s4, s5, s6, s7⟩ := ih (u + t) (fs ++ [⟨(nextF (l.drop u)).1, (nextF (l.drop u)).2.1⟩]) (by omega) (by omega) (by simp; omega)
      have ea : ∀ x : S91, fs ++ [x] ++ gs = fs ++ ([x] ++ gs) := fun x => List.append_assoc ..
      refine ⟨r, v, [⟨(nextF (l.drop u)).1, (nextF (l.drop u)).2.1⟩] ++ gs, fun k hk => ?_, fun k hk => ?_, by omega, s4, ?_, ?_, by simp; omega⟩
      · obtain ⟨k, rfl⟩ : ∃ m, k = m + 1 := ⟨k - 1, by omega⟩
        rw [spec_split_step hl hb (by omega) hu (by omega), if_neg hn, hcast, s1 k (by omega), ea]
      · obtain ⟨k, rfl⟩ : ∃ m, k = m + 1 := ⟨k - 1, by omega⟩
        rw [impl_split_step hl hb (by omega) hu (by omega), if_neg hn, hcast, s2 k (by omega), ea]
      · intro g hg
        rcases List.mem_append.1 hg with h | h
        · rw [List.mem_singleton.1 h, n5]
          exact ⟨n7, fun x hx => hb' x (List.mem_of_mem_take (List.mem_of_mem_drop hx))⟩
        · exact s5 g h
      · rw [List.map_append, List.flatten_append, s6, n5]
        simp only [List.map_cons, List.map_nil, List.flatten_cons, List.flatten_nil, List.append_nil]
        rw [n6, ht, Int.toNat_natCast, List.drop_drop.symm, show v - u = t + (v - (u + t)) by omega, List.take_add]
theorem split_both {l : List Int} (hl : l.length ≤ 1048576) (hb : ∀ x ∈ l, (Lit.int .u8 x).wf = true) (hs : ¬ 400 < l.length) :
    ∃ (r : Int) (v : Nat) (gs : List S91), (∀ k, l.length + 12 ≤ k → spec_SplitFrames.f k l = some (r, (v : Int), gs)) ∧ (∀ k, l.length + 12 ≤ k → impl_SplitFrames.f k l = some (r, (v : Int), gs)) ∧
      v ≤ l.length ∧ (∀ g ∈ gs, frameFault g.f0 g.f1.length = 0 ∧ ∀ x ∈ g.f1, (Lit.int .u8 x).wf = true) ∧ (gs.map (fun g => packF g.f0 g.f1)).flatten = l.take v ∧ gs.length ≤ v := by
  obtain ⟨r, v, gs, s1, s2, s3, s4, s5, s6, s7⟩ := split_ex hl hb l.length 0 [] (by omega) (by omega) (by simp; omega)
  refine ⟨r, v, gs, fun k hk => ?_, fun k hk => ?_, s4, s5, by simpa using s6, by omega⟩
  · unfold spec_SplitFrames.f
    rw [if_neg (by omega)]; exact s1 k hk
  · unfold impl_SplitFrames.f
    rw [if_neg (by omega)]; exact s2 k hk
theorem laws_lwBig_eq (l : List Int) : laws_lwBig.f l = some (decide ((l.length : Int) > 1048576)) := rfl
theorem spec_l1Source_eq (l : List Int) : spec_l1Source.f l = some (l, 0) := rfl
theorem spec_l1Next_ex {c : List Int} (hc : ∀ x ∈ c, (Lit.int .u8 x).wf = true) (hl : c.length ≤ 1048580) {a n : Int} (ha : 0 ≤ a) (ha2 : a ≤ 10000000) (hn : n ≤ 10000000) :
    ∃ v, spec_l1Next.f c a n = some (v, a + 1) ∧ 0 ≤ v ∧ (1 ≤ n → v < n) ∧ (n < 1 → v = 0) := by
  have e1 : wrap64 (a + 1) = a + 1 := wrap_id (by omega) (by omega)
  have e2 : wrap64 (a + 1 - 1) = a := by rw [wrap_id (by omega) (by omega)]; omega
  have e3 : wrap64 (a * 7) = a * 7 := wrap_id (by omega) (by omega)
  unfold spec_l1Next.f
  simp only [e1, e2, e3]
  clear e1 e2 e3
  by_cases h : n < 1
  · rw [if_pos h]; exact ⟨0, rfl, by omega, fun h2 => by omega, fun _ => rfl⟩
  · rw [if_neg h]
    by_cases h0 : (c.length : Int) = 0
    · rw [if_pos h0, if_neg (by omega), Int.tmod_eq_emod_of_nonneg (by omega)]
      exact ⟨_, rfl, Int.emod_nonneg _ (by omega), fun _ => Int.emod_lt_of_pos _ (by omega), fun h2 => absurd h2 h⟩
    · rw [if_neg h0]
      have hpos : (0 : Int) < c.length := by omega
      have byteAt : ∀ i : Int, 0 ≤ i → i < c.length → 0 ≤ rd c i ∧ rd c i < 256 := fun i i0 i1 => by
        obtain ⟨j, rfl⟩ := Int.eq_ofNat_of_zero_le i0
        have hj : j < c.length := by omega
        rw [rd_nat hj]
        exact u8_wf (hc _ (List.getElem_mem hj))
      have m1 : 0 ≤ a % (c.length : Int) := Int.emod_nonneg _ (by omega)
      have m2 : a % (c.length : Int) < c.length := Int.emod_lt_of_pos _ hpos
      have m3 : 0 ≤ (a + 1) % (c.length : Int) := Int.emod_nonneg _ (by omega)
      have m4 : (a + 1) % (c.length : Int) < c.length := Int.emod_lt_of_pos _ hpos
      have b1 := byteAt _ m1 m2
      have b2 := byteAt _ m3 m4
      have q0 : 0 ≤ a / (c.length : Int) := Int.ediv_nonneg ha (by omega)
      have q1 : a / (c.length : Int) ≤ a := Int.ediv_le_self _ ha
      rw [Int.tmod_eq_emod_of_nonneg ha, Int.tmod_eq_emod_of_nonneg (show 0 ≤ a + 1 by omega), Int.tdiv_eq_ediv_of_nonneg ha, if_pos m1, if_pos m2]
      generalize rd c (a % (c.length : Int)) = x1 at *
      generalize rd c ((a + 1) % (c.length : Int)) = x2 at *
      generalize a / (c.length : Int) = q at *
      have e1 : wrap64 x1 = x1 := wrap_id (by omega) (by omega)
      have e2 : wrap64 x2 = x2 := wrap_id (by omega) (by omega)
      have e3 : wrap64 q = q := wrap_id (by omega) (by omega)
      have e4 : wrap64 (q * 37) = q * 37 := wrap_id (by omega) (by omega)
      have e5 : wrap64 (x1 + q * 37) = x1 + q * 37 := wrap_id (by omega) (by omega)
      have e6 : wrap64 ((x1 + q * 37) * 251) = (x1 + q * 37) * 251 := wrap_id (by omega) (by omega)
      have e7 : wrap64 (x2 * 13) = x2 * 13 := wrap_id (by omega) (by omega)
      have e8 : wrap64 ((x1 + q * 37) * 251 + x2 * 13) = (x1 + q * 37) * 251 + x2 * 13 := wrap_id (by omega) (by omega)
      have e9 : wrap64 a = a := wrap_id (by omega) (by omega)
      have e10 : wrap64 ((x1 + q * 37) * 251 + x2 * 13 + a) = (x1 + q * 37) * 251 + x2 * 13 + a := wrap_id (by omega) (by omega)
      simp only [e1, e2, e3, e4, e5, e6, e7, e8, e9, e10]
      clear e1 e2 e3 e4 e5 e6 e7 e8 e9 e10
      by_cases h2 : n > 200
      · rw [if_pos h2, if_pos m3, if_pos m4, if_neg (by omega), Int.tmod_eq_emod_of_nonneg (by omega)]
        exact ⟨_, rfl, Int.emod_nonneg _ (by omega), fun _ => Int.emod_lt_of_pos _ (by omega), fun h3 => absurd h3 h⟩
      · rw [if_neg h2, if_neg (by omega), Int.tmod_eq_emod_of_nonneg (by omega)]
        exact ⟨_, rfl, Int.emod_nonneg _ (by omega), fun _ => Int.emod_lt_of_pos _ (by omega), fun h3 => absurd h3 h⟩
theorem spec_l1Pick_ex {c : List Int} (hc : ∀ x ∈ c, (Lit.int .u8 x).wf = true) (hl : c.length ≤ 1048580) {a : Int} (ha : 0 ≤ a) (ha2 : a ≤ 10000000) {xs : List Int} (h0 : 0 < xs.length) (hx : xs.length ≤ 100) :
    ∃ v, spec_l1Pick.f c a xs = some (v, a + 1) ∧ v ∈ xs := by
  obtain ⟨i, hi, i0, i1, _⟩ := spec_l1Next_ex hc hl ha ha2 (n := (xs.length : Int)) (by omega)
  have i2 := i1 (by omega)
  simp only [spec_l1Pick.f, hi, Option.bind_some]
  rw [if_pos i0, if_pos i2]
  obtain ⟨j, rfl⟩ := Int.eq_ofNat_of_zero_le i0
  have hj : j < xs.length := by omega
  exact ⟨_, rfl, by rw [rd_nat hj]; exact List.getElem_mem hj⟩
theorem u8_mod (x : Int) : (Lit.int .u8 (x % 256)).wf = true := by
  rw [Lit.wf_int_iff]
  simp [IntKind.min, IntKind.max, IntKind.signed, IntKind.bits]
  omega
theorem spec_l1Some_loop {c : List Int} (hc : ∀ x ∈ c, (Lit.int .u8 x).wf = true) (hl : c.length ≤ 1048580) : ∀ (n : Nat) (k : Nat) (acc : List Int) (a : Int), n < k → n ≤ 1000 → acc.length + n ≤ 100000 → (∀ x ∈ acc, (Lit.int .u8 x).wf = true) → 0 ≤ a → a + 3 * n ≤ 9000000 →
    ∃ bs, spec_l1Some.l0 k (n : Int) acc c a = some (bs, a + 3 * n) ∧ bs.length = acc.length + n ∧ ∀ x ∈ bs, (Lit.int .u8 x).wf = true := by
  intro n
  induction n with
  | zero =>
    intro k acc a hk _ _ hw _ _
    obtain ⟨k, rfl⟩ : ∃ m, k = m + 1 := ⟨k - 1, by omega⟩
    refine ⟨acc, ?_, by omega, hw⟩
    rw [spec_l1Some.l0, if_neg (by omega)]; simp
  | succ n ih =>
    intro k acc a hk hn hacc hw ha ha2
    obtain ⟨k, rfl⟩ : ∃ m, k = m + 1 := ⟨k - 1, by omega⟩
    obtain ⟨v1, h1, p1, q1, _⟩ := spec_l1Next_ex hc hl (a := a) ha (by omega) (n := 256) (by omega)
    obtain ⟨v2, h2, p2, q2, _⟩ := spec_l1Next_ex hc hl (a := a + 1) (by omega) (by omega) (n := 8) (by omega)
    obtain ⟨v3, h3, p3⟩ := spec_l1Pick_ex hc hl (a := a + 1 + 1) (by omega) (by omega) (xs := [v1, v2, 255]) (by simp) (by simp)
    have hw' : ∀ x ∈ acc ++ [v3 % 256], (Lit.int .u8 x).wf = true := by
      intro x hx
      rcases List.mem_append.1 hx with h | h
      · exact hw x h
      · rw [List.mem_singleton.1 h]; exact u8_mod _
    obtain ⟨bs, e, e2, e3⟩ := ih k (acc ++ [v3 % 256]) (a + 1 + 1 + 1) (by omega) (by omega) (by simp; omega) hw' (by omega) (by omega)
    refine ⟨bs, ?_, by rw [e2]; simp; omega, e3⟩
    rw [spec_l1Some.l0, if_pos (by omega)]
    simp only [h1, h2, h3, Option.bind_some]
    rw [if_pos (by omega), wrap_id (by omega) (by omega), show ((n + 1 : Nat) : Int) - 1 = (n : Int) by omega, e]
    congr 2
    omega
theorem spec_l1Some_ex {c : List Int} (hc : ∀ x ∈ c, (Lit.int .u8 x).wf = true) (hl : c.length ≤ 1048580) {k n : Nat} {a : Int} (hk : n < k) (hn : n ≤ 1000) (ha : 0 ≤ a) (ha2 : a ≤ 8000000) :
    ∃ bs, spec_l1Some.f k c a (n : Int) = some (bs, a + 3 * n) ∧ bs.length = n ∧ ∀ x ∈ bs, (Lit.int .u8 x).wf = true := by
  obtain ⟨bs, e, e2, e3⟩ := spec_l1Some_loop hc hl n k [] a hk hn (by simp; omega) (by simp) ha (by omega)
  exact ⟨bs, e, by simpa using e2, e3⟩
theorem spec_l1Frame_ex {c : List Int} (hc : ∀ x ∈ c, (Lit.int .u8 x).wf = true) (hl : c.length ≤ 1048580) {k : Nat} {a : Int} (hk : 200 ≤ k) (ha : 0 ≤ a) (ha2 : a ≤ 7000000) :
    ∃ t bs a', spec_l1Frame.f k c a = some (t, bs, a') ∧ bs.length ≤ 121 ∧ (∀ x ∈ bs, (Lit.int .u8 x).wf = true) ∧ a ≤ a' ∧ a' ≤ a + 1000 := by
  obtain ⟨v1, h1, p1, q1, _⟩ := spec_l1Next_ex hc hl (a := a) ha (by omega) (n := 4) (by omega)
  obtain ⟨v2, h2, p2, q2, _⟩ := spec_l1Next_ex hc hl (a := a + 1) (by omega) (by omega) (n := 9) (by omega)
  obtain ⟨v3, h3, p3, q3, _⟩ := spec_l1Next_ex hc hl (a := a + 1 + 1) (by omega) (by omega) (n := 30) (by omega)
  have r1 := q1 (by decide)
  have r2 := q2 (by decide)
  have r3 := q3 (by decide)
  obtain ⟨v4, h4, p4⟩ := spec_l1Pick_ex hc hl (a := a + 1 + 1 + 1) (by omega) (by omega) (xs := [v2, v3, 0, 120]) (by simp) (by simp)
  have r4 : 0 ≤ v4 ∧ v4 ≤ 120 := by
    simp only [List.mem_cons, List.not_mem_nil, or_false] at p4
    omega
  obtain ⟨n, rfl⟩ := Int.eq_ofNat_of_zero_le r4.1
  obtain ⟨bs, h5, b1, b2⟩ := spec_l1Some_ex hc hl (k := k) (n := n) (a := a + 1 + 1 + 1 + 1) (by omega) (by omega) (by omega) (by omega)
  obtain ⟨v6, h6, p6, q6, _⟩ := spec_l1Next_ex hc hl (a := a + 1 + 1 + 1 + 1 + 3 * n) (by omega) (by omega) (n := 16) (by omega)
  have r6 := q6 (by decide)
  obtain ⟨v7, h7, _⟩ := spec_l1Pick_ex hc hl (a := a + 1 + 1 + 1 + 1 + 3 * n + 1) (by omega) (by omega) (xs := [0, 5]) (by simp) (by simp)
  simp only [spec_l1Frame.f, h1, h2, h3, h4, h5, h6, Option.bind_some]
  by_cases c0 : v6 = 0
  · rw [if_pos c0]
    simp only [h7, Option.bind_some]
    exact ⟨_, _, _, rfl, by omega, b2, by omega, by omega⟩
  · rw [if_neg c0]
    by_cases c1 : v6 = 1
    · rw [if_pos c1, if_pos (by decide)]
      exact ⟨_, _, _, rfl, by simp, fun x hx => by rw [(List.mem_replicate.1 hx).2]; exact u8_mod 0, by omega, by omega⟩
    · rw [if_neg c1]
      exact ⟨_, _, _, rfl, by omega, b2, by omega, by omega⟩
theorem spec_FrameFault_eq (a : Int) (l : List Int) : spec_FrameFault.f a l = some (frameFault a l.length) := by
  simp only [spec_FrameFault.f, spec_l1In_eq, Option.bind_some, ite_some]; rfl
theorem spec_l1Bytes_two {k : Nat} (hk : 3 ≤ k) (a : Int) : spec_l1Bytes.f k a 2 = some (two a) := by
  obtain ⟨k, rfl⟩ : ∃ m, k = m + 3 := ⟨k - 3, by omega⟩
  have e1 : wrap64 (2 - 1) = 1 := by decide +kernel
  have e2 : IntKind.u64.wrap (wrap64 (8 * 1)) = 8 := by decide +kernel
  have e3 : wrap64 (1 - 1) = 0 := by decide +kernel
  have e4 : IntKind.u64.wrap (wrap64 (8 * 0)) = 0 := by decide +kernel
  have e5 : wrap64 (0 - 1) = -1 := by decide +kernel
  unfold spec_l1Bytes.f
  rw [e1]
  show spec_l1Bytes.l0 (k + 2 + 1) a [] 1 = _
  rw [spec_l1Bytes.l0, e2, e3, if_pos (by decide), if_pos (by decide), if_pos (by simp)]
  show spec_l1Bytes.l0 (k + 1 + 1) a _ 0 = _
  rw [spec_l1Bytes.l0, e4, e5, if_pos (by decide), if_pos (by decide), if_pos (by simp)]
  rw [spec_l1Bytes.l0, if_neg (by decide)]
  simp [shr, two, IntKind.bits]
theorem spec_l1Pack_eq {k : Nat} (hk : 3 ≤ k) {a : Int} {l : List Int} (hl : l.length ≤ 10000000) : spec_l1Pack.f k a l = some (packF a l) := by
  have e : (l.length : Int) + 5 = 5 + (l.length : Int) := by omega
  simp only [spec_l1Pack.f, Option.bind_some]
  rw [wrap_id (x := (l.length : Int) + 5) (by omega) (by omega), spec_l1Bytes_two hk, e]
  simp only [Option.bind_some]
  rw [if_pos (by simp [two]), if_pos (by simp [two]), if_pos (by simp [two]; omega)]
  rfl
theorem spec_l1Chance_ex {c : List Int} (hc : ∀ x ∈ c, (Lit.int .u8 x).wf = true) (hl : c.length ≤ 1048580) {a n : Int} (ha : 0 ≤ a) (ha2 : a ≤ 10000000) (hn : n ≤ 10000000) :
    ∃ b, spec_l1Chance.f c a n = some (b, a + 1) := by
  obtain ⟨i, hi, _⟩ := spec_l1Next_ex hc hl ha ha2 hn
  exact ⟨i == 0, by simp only [spec_l1Chance.f, hi, Option.bind_some]⟩
theorem spec_l1Turn_ex {c : List Int} (hc : ∀ x ∈ c, (Lit.int .u8 x).wf = true) (hl : c.length ≤ 1048580) {k : Nat} {a : Int} (hk : 1 ≤ k) (ha : 0 ≤ a) (ha2 : a ≤ 8000000) {l : List Int} (h1 : l.length ≤ 100000) (hw : ∀ x ∈ l, (Lit.int .u8 x).wf = true) :
    ∃ l' a', spec_l1Turn.f k c a l = some (l', a') ∧ l'.length ≤ l.length + 1 ∧ (∀ x ∈ l', (Lit.int .u8 x).wf = true) ∧ a ≤ a' ∧ a' ≤ a + 10 := by
  obtain ⟨k, rfl⟩ : ∃ m, k = m + 1 := ⟨k - 1, by omega⟩
  unfold spec_l1Turn.f
  by_cases h0 : (l.length : Int) = 0
  · rw [if_pos h0, spec_l1Turn.j0, if_pos rfl]
    exact ⟨_, _, rfl, by omega, hw, by omega, by omega⟩
  · rw [if_neg h0]
    obtain ⟨b, e1⟩ := spec_l1Chance_ex hc hl (a := a) ha (by omega) (n := 3) (by omega)
    rw [e1]
    simp only [Option.bind_some]
    rw [spec_l1Turn.j0]
    cases b
    · rw [if_pos (by rfl)]
      exact ⟨_, _, rfl, by omega, hw, by omega, by omega⟩
    · rw [if_neg (by simp)]
      obtain ⟨v1, e2, p1, q1, _⟩ := spec_l1Next_ex hc hl (a := a + 1) (by omega) (by omega) (n := (l.length : Int)) (by omega)
      have r1 := q1 (by omega)
      obtain ⟨v2, e3, p2, q2, _⟩ := spec_l1Next_ex hc hl (a := a + 1 + 1) (by omega) (by omega) (n := 3) (by omega)
      have r2 := q2 (by decide)
      obtain ⟨v3, e4, p3, q3, _⟩ := spec_l1Next_ex hc hl (a := a + 1 + 1 + 1) (by omega) (by omega) (n := 256) (by omega)
      obtain ⟨v4, e5, _⟩ := spec_l1Pick_ex hc hl (a := a + 1 + 1 + 1) (by omega) (by omega) (xs := [0, 255]) (by simp) (by simp)
      simp only [e2, e3, e4, e5, Option.bind_some]
      by_cases c0 : v2 = 0
      · rw [if_pos c0, if_pos p1, if_pos r1]
        refine ⟨_, _, rfl, by simp, fun x hx => ?_, by omega, by omega⟩
        rcases List.mem_or_eq_of_mem_set hx with h | h
        · exact hw x h
        · rw [h]; exact u8_mod _
      · rw [if_neg c0]
        by_cases c1 : v2 = 1
        · rw [if_pos c1, if_pos p1, if_pos (by omega)]
          exact ⟨_, _, rfl, by simp; omega, fun x hx => hw x (List.mem_of_mem_take hx), by omega, by omega⟩
        · rw [if_neg c1]
          by_cases c2 : v2 = 2
          · rw [if_pos c2, if_pos (by omega)]
            refine ⟨_, _, rfl, by simp, fun x hx => ?_, by omega, by omega⟩
            rcases List.mem_append.1 hx with h | h
            · exact hw x h
            · rw [List.mem_singleton.1 h]; exact u8_mod _
          · rw [if_neg c2]
            exact ⟨_, _, rfl, by omega, hw, by omega, by omega⟩
theorem packF_wf {a : Int} {l : List Int} (hw : ∀ x ∈ l, (Lit.int .u8 x).wf = true) : ∀ x ∈ packF a l, (Lit.int .u8 x).wf = true := by
  intro x hx
  simp only [packF, two, List.mem_append, List.mem_cons, List.not_mem_nil, or_false] at hx
  rcases hx with ((h | h) | h) | h
  · rcases h with h | h <;> rw [h] <;> exact u8_mod 255
  · rcases h with h | h <;> rw [h] <;> exact u8_mod _
  · rw [h]; exact u8_mod _
  · exact hw x h
theorem spec_DrawSplitFrames_loop {c : List Int} (hc : ∀ x ∈ c, (Lit.int .u8 x).wf = true) (hl : c.length ≤ 1048580) : ∀ (n : Nat) (k : Nat) (acc : List Int) (a : Int), n + 200 < k → n ≤ 10 → acc.length + 200 * n ≤ 10000 → (∀ x ∈ acc, (Lit.int .u8 x).wf = true) → 0 ≤ a → a + 2000 * n ≤ 6000000 →
    ∃ bs, spec_DrawSplitFrames.l0 k acc (n : Int) c a = some bs ∧ bs.length ≤ 10001 ∧ ∀ x ∈ bs, (Lit.int .u8 x).wf = true := by
  intro n
  induction n with
  | zero =>
    intro k acc a hk _ hacc hw ha ha2
    obtain ⟨k, rfl⟩ : ∃ m, k = m + 1 := ⟨k - 1, by omega⟩
    rw [spec_DrawSplitFrames.l0, if_neg (by omega)]
    obtain ⟨b, e1⟩ := spec_l1Chance_ex hc hl (a := a) ha (by omega) (n := 30) (by omega)
    rw [e1]
    simp only [Option.bind_some]
    cases b
    · rw [if_neg (by simp)]
      obtain ⟨l', a', e2, l1, l2, _⟩ := spec_l1Turn_ex hc hl (k := k) (a := a + 1) (by omega) (by omega) (by omega) (l := acc) (by omega) hw
      rw [e2]
      exact ⟨l', rfl, by omega, l2⟩
    · rw [if_pos rfl, if_pos (by decide)]
      obtain ⟨l', a', e2, l1, l2, _⟩ := spec_l1Turn_ex hc hl (k := k) (a := a + 1) (by omega) (by omega) (by omega) (l := List.replicate 401 0) (by rw [List.length_replicate]; decide) (fun x hx => by rw [(List.mem_replicate.1 hx).2]; exact u8_mod 0)
      rw [e2]
      exact ⟨l', rfl, by rw [List.length_replicate] at l1; omega, l2⟩
  | succ n ih =>
    intro k acc a hk hn hacc hw ha ha2
    obtain ⟨k, rfl⟩ : ∃ m, k = m + 1 := ⟨k - 1, by omega⟩
    obtain ⟨t, bs, a', e1, b1, b2, b3, b4⟩ := spec_l1Frame_ex hc hl (k := k) (a := a) (by omega) ha (by omega)
    rw [spec_DrawSplitFrames.l0, if_pos (by omega)]
    have e3 : wrap64 (((n + 1 : Nat) : Int) - 1) = (n : Int) := by rw [wrap_id (by omega) (by omega)]; omega
    simp only [e1, Option.bind_some, spec_FrameFault_eq, e3]
    by_cases h0 : frameFault t bs.length = 0
    · rw [if_pos h0, spec_l1Pack_eq (by omega) (by omega)]
      simp only [Option.bind_some]
      have hp := packF_length t bs
      rw [if_pos (by omega)]
      exact ih k _ a' (by omega) (by omega) (by simp; omega) (fun x hx => by
        rcases List.mem_append.1 hx with h | h
        · exact hw x h
        · exact packF_wf b2 x h) (by omega) (by omega)
    · rw [if_neg h0]
      exact ih k acc a' (by omega) (by omega) (by omega) hw (by omega) (by omega)
theorem spec_DrawSplitFrames_ex {c : List Int} (hc : ∀ x ∈ c, (Lit.int .u8 x).wf = true) (hl : c.length ≤ 1048580) {k : Nat} (hk : 300 < k) :
    ∃ bs, spec_DrawSplitFrames.f k c = some bs ∧ bs.length ≤ 10001 ∧ ∀ x ∈ bs, (Lit.int .u8 x).wf = true := by
  obtain ⟨v1, h1, p1, q1, _⟩ := spec_l1Next_ex hc hl (a := 0) (by omega) (by omega) (n := 4) (by omega)
  have r1 := q1 (by decide)
  obtain ⟨n, rfl⟩ := Int.eq_ofNat_of_zero_le p1
  simp only [spec_DrawSplitFrames.f, spec_l1Source.f, h1, Option.bind_some]
  exact spec_DrawSplitFrames_loop hc hl n k [] _ (by omega) (by omega) (by simp; omega) (by simp) (by omega) (by omega)
theorem impl_FrameFault_eq (a : Int) (l : List Int) : impl_FrameFault.f a l = some (frameFault a l.length) := by
  simp only [impl_FrameFault.f, impl_in_eq, Option.bind_some, ite_some]; rfl
theorem impl_putTwo_eq {l : List Int} (hl : l.length ≤ 10000000) (a : Int) : impl_putTwo.f l a = some (l ++ two a) := by
  simp only [impl_putTwo.f, Option.bind_some]
  rw [if_pos (by simp; omega)]; rfl
theorem impl_packFrame_eq {a : Int} {l : List Int} (hl : l.length ≤ 10000000) : impl_packFrame.f a l = some (packF a l) := by
  simp only [impl_packFrame.f, impl_size_byte_eq, Option.bind_some]
  rw [wrap_id (x := 5 + (l.length : Int)) (by omega) (by omega), impl_putTwo_eq (by simp)]
  simp only [Option.bind_some]
  rw [if_pos (by simp [two]), if_pos (by simp [two]; omega)]
  rfl
theorem impl_PackFrame_eq {a : Int} {l : List Int} (hl : l.length ≤ 10000000) : impl_PackFrame.f a l = some (if frameFault a l.length = 0 then (0, packF a l) else (frameFault a l.length, [])) := by
  simp only [impl_PackFrame.f, impl_FrameFault_eq, Option.bind_some]
  by_cases h : frameFault a l.length = 0
  · rw [if_pos h, if_pos h, impl_packFrame_eq hl]; rfl
  · rw [if_neg h, if_neg h]
theorem impl_NumberAt_eq {k : Nat} {l : List Int} (hl : l.length ≤ 1048576) (hb : ∀ x ∈ l, (Lit.int .u8 x).wf = true) {a m : Int} (ha : -9223372036854775808 ≤ a ∧ a ≤ 9223372036854775807) (hk : 5 < k) :
    impl_NumberAt.f k l a m = some (if inB m 1 4 = true then (if inB a 0 ((l.length : Int) - m) = true then (0, numOf ((l.drop a.toNat).take m.toNat)) else (3, 0)) else (3, 0)) := by
  simp only [impl_NumberAt.f, impl_in_eq, impl_size_byte_eq, Option.bind_some]
  by_cases h1 : inB m 1 4 = true
  · have h2 := inB_iff.1 h1
    rw [if_pos h1, if_pos h1, wrap_id (x := (l.length : Int) - m) (by omega) (by omega)]
    by_cases h3 : inB a 0 ((l.length : Int) - m) = true
    · have h4 := inB_iff.1 h3
      rw [if_pos h3, if_pos h3, wrap_id (x := a + m) (by omega) (by omega), if_pos (by omega), if_pos (by omega), if_pos (by omega)]
      have h6 : (l.take (a + m).toNat).drop a.toNat = (l.drop a.toNat).take m.toNat := by
        rw [List.drop_take]; congr 1; omega
      rw [h6, impl_numberOf_eq (by simp; omega) (fun x hx => hb x (List.mem_of_mem_drop (List.mem_of_mem_take hx))) (by simp; omega)]; rfl
    · rw [if_neg h3, if_neg h3]
  · rw [if_neg h1, if_neg h1]
theorem impl_SumBytes_eq {k : Nat} {l : List Int} (hl : l.length ≤ 1048576) (hb : ∀ x ∈ l, (Lit.int .u8 x).wf = true) (hk : l.length < k) : impl_SumBytes.f k l = some (sumOf l) := by
  unfold impl_SumBytes.f sumOf
  refine Eq.trans ?_ (congrArg some (run_foldl (fun h b => (h * 257 + b + 1) % 65521) id l 0 7))
  exact run_loop (L := fun k s i => impl_SumBytes.l0 k s l (l.length : Int) i) (fun _ s => 0 ≤ s ∧ s < 65521) (B := 0)
    (fun k i s h _ hi => by
      have hx := u8_wf (hb _ (List.getElem_mem h))
      simp only [impl_SumBytes.l0]
      rw [if_pos (by omega), if_pos (by omega), if_pos (by omega), rd_nat h, sumOf_step hi.1 hi.2 hx.1 hx.2, wrap_succ (by omega)])
    (fun i s s' h hi e => by
      injection e with e
      exact e ▸ ⟨Int.emod_nonneg _ (by decide), Int.emod_lt_of_pos _ (by decide)⟩)
    (fun k s _ => by simp only [impl_SumBytes.l0]; rw [if_neg (by omega)]; rfl) ⟨by decide, by decide⟩ (by omega)
theorem spec_SumBytes_eq {k : Nat} {l : List Int} (hl : l.length ≤ 1048576) (hb : ∀ x ∈ l, (Lit.int .u8 x).wf = true) (hk : l.length < k) : spec_SumBytes.f k l = some (sumOf l) := by
  unfold spec_SumBytes.f sumOf
  refine Eq.trans ?_ (congrArg some (run_foldl (fun h b => (h * 257 + b + 1) % 65521) id l 0 7))
  exact run_loop (L := fun k s i => spec_SumBytes.l0 k l s i) (fun _ s => 0 ≤ s ∧ s < 65521) (B := 0)
    (fun k i s h _ hi => by
      have hx := u8_wf (hb _ (List.getElem_mem h))
      simp only [spec_SumBytes.l0]
      rw [if_pos (by omega), if_pos (by omega), rd_nat h, sumOf_step hi.1 hi.2 hx.1 hx.2, wrap_succ (by omega)])
    (fun i s s' h hi e => by
      injection e with e
      exact e ▸ ⟨Int.emod_nonneg _ (by decide), Int.emod_lt_of_pos _ (by decide)⟩)
    (fun k s _ => by simp only [spec_SumBytes.l0]; rw [if_neg (by omega)]; rfl) ⟨by decide, by decide⟩ (by omega)
theorem laws_FnSplits_j1 {k : Nat} {l : List Int} (hl : l.length ≤ 20000) (hb : ∀ x ∈ l, (Lit.int .u8 x).wf = true) (hk : 30000 ≤ k) : laws_FnSplits.j1 k l false = some true := by
  obtain ⟨k, rfl⟩ : ∃ m, k = m + 1 := ⟨k - 1, by omega⟩
  rw [laws_FnSplits.j1, if_neg (by simp), impl_NumberAt_eq (by omega) hb (by decide) (by omega)]
  simp only [Option.bind_some]
  rw [if_pos (show inB 2 1 4 = true by decide)]
  simp only [impl_SumBytes_eq (show l.length ≤ 1048576 by omega) hb (show l.length < k by omega), spec_SumBytes_eq (show l.length ≤ 1048576 by omega) hb (show l.length < k by omega), Option.bind_some]
  by_cases h : 2 ≤ l.length
  · obtain ⟨a, b, r, rfl⟩ : ∃ a b r, l = a :: b :: r := by
      match l, h with
      | a :: b :: r, _ => exact ⟨a, b, r, rfl⟩
    have ha := u8_wf (hb a (by simp))
    have hb' := u8_wf (hb b (by simp))
    have e0 : rd (a :: b :: r) 0 = a := rfl
    have e1 : rd (a :: b :: r) 1 = b := rfl
    have e2 : numOf (((a :: b :: r).drop (0 : Int).toNat).take (2 : Int).toNat) = a * 256 + b := by simp [numOf]
    have e3 : wrap64 (wrap64 (wrap64 a * 256) + wrap64 b) = a * 256 + b := by
      rw [wrap_id (x := a) (by omega) (by omega), take_wrap ha.1 (by omega) hb'.1 hb'.2]
    have hq : inB 0 0 (((a :: b :: r).length : Int) - 2) = true := inB_iff.2 ⟨by omega, by omega⟩
    rw [if_pos hq, e2, e0, e1, e3]
    have hd : ((((0 : Int), a * 256 + b).1 == 0) == decide (((a :: b :: r).length : Int) ≥ 2)) = true := by
      have : decide (((a :: b :: r).length : Int) ≥ 2) = true := decide_eq_true (by omega)
      rw [this]; rfl
    rw [if_pos hd, if_pos (show ((0 : Int), a * 256 + b).1 = 0 from rfl), if_pos (by omega), if_pos (by omega), if_pos (show ((0 : Int), a * 256 + b).2 = a * 256 + b from rfl)]
    simp
  · have hq : ¬ inB 0 0 ((l.length : Int) - 2) = true := fun q => h (by have := inB_iff.1 q; omega)
    rw [if_neg hq]
    have hd : ((((3 : Int), (0 : Int)).1 == 0) == decide ((l.length : Int) ≥ 2)) = true := by
      have : decide ((l.length : Int) ≥ 2) = false := decide_eq_false (by omega)
      rw [this]; rfl
    rw [if_pos hd, if_neg (show ¬ ((3 : Int), (0 : Int)).1 = 0 by decide)]
    simp
theorem laws_FnSplits_l0 {k : Nat} {l : List Int} (hl : l.length ≤ 400) (hb : ∀ x ∈ l, (Lit.int .u8 x).wf = true) {r : Int} {v : Nat} {gs : List S91} (hv : v ≤ l.length)
    (hs : ∀ k, l.length + 12 ≤ k → spec_SplitFrames.f k l = some (r, (v : Int), gs))
    (hg : ∀ g ∈ gs, frameFault g.f0 g.f1.length = 0 ∧ ∀ x ∈ g.f1, (Lit.int .u8 x).wf = true) (hp : (gs.map (fun g => packF g.f0 g.f1)).flatten = l.take v) (hn : gs.length ≤ v) (hk : 60000 ≤ k) :
    laws_FnSplits.l0 k l [] 0 r (v : Int) gs = some true := by
  have fl : ∀ (i : Nat), ((gs.take i).map (fun g => packF g.f0 g.f1)).flatten.length ≤ 400 := by
    intro i
    have e : ((gs.take i).map (fun g => packF g.f0 g.f1)).flatten ++ ((gs.drop i).map (fun g => packF g.f0 g.f1)).flatten = l.take v := by
      rw [← List.flatten_append, ← List.map_append, List.take_append_drop, hp]
    have e2 := congrArg List.length e
    simp only [List.length_append] at e2
    have : (l.take v).length ≤ 400 := by simp; omega
    omega
  have key : ∀ (d i : Nat) (k : Nat), i + d = gs.length → d + 50000 ≤ k → laws_FnSplits.l0 k l ((gs.take i).map (fun g => packF g.f0 g.f1)).flatten (i : Int) r (v : Int) gs = some true := by
    intro d
    induction d with
    | zero =>
      intro i k hi hk
      obtain ⟨k, rfl⟩ : ∃ m, k = m + 1 := ⟨k - 1, by omega⟩
      have et : gs.take i = gs := List.take_of_length_le (by omega)
      rw [et, hp, laws_FnSplits.l0, if_neg (by omega), hs k (by omega)]
      simp only [Option.bind_some, Int.toNat_natCast]
      rw [if_neg (by omega), if_pos (by omega), if_pos (by omega), if_pos trivial, if_pos trivial]
      have : ((v : Int) != (v : Int)) = false := by simp
      rw [this]
      exact laws_FnSplits_j1 (by omega) hb (by omega)
    | succ d ih =>
      intro i k hi hk
      obtain ⟨k, rfl⟩ : ∃ m, k = m + 1 := ⟨k - 1, by omega⟩
      have hlt : i < gs.length := by omega
      have hr : rd_T91 gs (i : Int) = gs[i] := getD_nat hlt
      have hf := (hg gs[i] (List.getElem_mem hlt)).1
      have es : ((gs.take (i + 1)).map (fun g => packF g.f0 g.f1)).flatten = ((gs.take i).map (fun g => packF g.f0 g.f1)).flatten ++ packF gs[i].f0 gs[i].f1 := by
        rw [List.take_succ_eq_append_getElem hlt, List.map_append, List.flatten_append]; simp
      have h1 := fl i
      have h2 := fl (i + 1)
      rw [es, List.length_append] at h2
      have h3 := packF_length gs[i].f0 gs[i].f1
      rw [laws_FnSplits.l0, if_pos (by omega), if_pos (by omega), hr, impl_PackFrame_eq (by omega)]
      simp only [Option.bind_some]
      rw [if_pos hf, if_pos (by simp only []; omega), wrap_succ (by omega), ← es]
      exact ih (i + 1) k (by omega) (by omega)
  have := key gs.length 0 k (by omega) (by omega)
  simpa using this
theorem FnSplits (l0 : List Int)
    (w0 : (l0.length ≤ maxLen ∧ ∀ z1 ∈ l0, (Lit.int .u8 z1).wf = true)) :
    ∃ k, laws_FnSplits.f k l0 = some true := by
  refine ⟨100000, ?_⟩
  unfold laws_FnSplits.f
  simp only [laws_lwBig_eq, Option.bind_some]
  by_cases hL : (l0.length : Int) > 1048576
  · rw [if_pos (decide_eq_true hL)]
  · rw [if_neg (by simpa using hL)]
    obtain ⟨bs, hd, b1, b2⟩ := spec_DrawSplitFrames_ex w0.2 (by omega) (show 300 < 100000 by decide)
    simp only [hd, Option.bind_some]
    by_cases h4 : (bs.length : Int) > 400
    · have e : impl_SplitFrames.f 100000 bs = some (2, 0, ([] : List S91)) := by unfold impl_SplitFrames.f; rw [if_pos h4]
      rw [e]
      simp only [Option.bind_some]
      rw [if_pos h4]
      rfl
    · obtain ⟨r, v, gs, s1, s2, s3, s4, s5, s6⟩ := split_both (l := bs) (by omega) b2 (by omega)
      rw [s2 100000 (by omega)]
      simp only [Option.bind_some]
      rw [if_neg h4]
      exact laws_FnSplits_l0 (by omega) b2 s3 s1 s4 s5 s6 (by decide)
end Go.Proofs.Ytfbojdagjecjcaa.Pure
