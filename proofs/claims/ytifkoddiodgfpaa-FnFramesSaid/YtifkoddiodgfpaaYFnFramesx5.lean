/- The functions that the law FnFrames reaches: each as a plain Lean function, with the proof that the call does what it says. -/
import Derived.Test.YtifkoddiodgfpaaYFnFramesx0
import Derived.Test.YtifkoddiodgfpaaYFnFramesx2
import Derived.Test.YtifkoddiodgfpaaYFnFramesx4
namespace Go.Proofs.Ytifkoddiodgfpaa.PFnFrames
open Go.RowKit Go.Proofs.YtifkoddiodgfpaaW.PrintWords Go.Proofs.YtifkoddiodgfpaaW.PrintLast Go.Proofs.YtifkoddiodgfpaaW.PrintMore
attribute [local go_sem] max2_int min2_int max_two min_two max_three min_three max_four min_four
set_option linter.unusedVariables false
set_option linter.unusedSimpArgs false
mutual
def impl_nextFrame.l0 : Nat → List Int → List Int → Int → Int → Option (Int × List Int × Int × Int)
  | 0, _, _, _, _ => none
  | k + 1, x0, x12, x13, x14 => if x14 < x13 then (if 0 ≤ x14 then (if x14 < (x12.length : Int) then (if (rd x12 x14) = 255 then (impl_nextFrame.l0 k x0 x12 x13 (wrap64 (x14 + 1))) else (some (0, ([] : List Int), 0, 1))) else (none)) else (none)) else (if (x0.length : Int) < 4 then (some (0, ([] : List Int), 0, 0)) else (if 2 ≤ 4 then (if 4 ≤ (x0.length : Int) then ((impl_numberOf.f k ((x0.take 4).drop 2)).bind fun t198 => ((impl_in.f t198 5 125).bind fun t199 => (if t199 = true then (if (x0.length : Int) > 4 then (if 4 < (x0.length : Int) then ((impl_in.f (wrap64 (rd x0 4)) 1 4).bind fun t201 => (impl_nextFrame.j1 k x0 t198 (!t201))) else (none)) else (impl_nextFrame.j1 k x0 t198 false)) else (some (0, ([] : List Int), 0, 2))))) else (none)) else (none)))
def impl_nextFrame.j1 : Nat → List Int → Int → Bool → Option (Int × List Int × Int × Int)
  | 0, _, _, _ => none
  | k + 1, x0, x7, x34 => if x34 = true then (some (0, ([] : List Int), 0, 3)) else ((impl_size_byte.f x0).bind fun t202 => (if t202 < x7 then (some (0, ([] : List Int), 0, 0)) else (if 4 < (x0.length : Int) then (if 5 ≤ x7 then (if x7 ≤ (x0.length : Int) then (if ([] : List Int).length + ((x0.take (x7 : Int).toNat).drop 5).length < 140737488355328 then (some (wrap64 (rd x0 4), (([] : List Int) ++ ((x0.take (x7 : Int).toNat).drop 5)), x7, 0)) else (none)) else (none)) else (none)) else (none))))
end
def impl_nextFrame.f (k : Nat) (l0 : List Int) : Option (Int × List Int × Int × Int) := if 0 ≤ (mn (l0.length : Int) 2) then (if (mn (l0.length : Int) 2) ≤ (l0.length : Int) then (impl_nextFrame.l0 k l0 (l0.take ((mn (l0.length : Int) 2) : Int).toNat) ((l0.take ((mn (l0.length : Int) 2) : Int).toNat).length : Int) 0) else (none)) else (none)
theorem impl_nextFrame.mono_l : ∀ k, (∀ y0 y1 y2 y3, LeO (impl_nextFrame.l0 k y0 y1 y2 y3) (impl_nextFrame.l0 (k + 1) y0 y1 y2 y3)) ∧ (∀ y0 y1 y2, LeO (impl_nextFrame.j1 k y0 y1 y2) (impl_nextFrame.j1 (k + 1) y0 y1 y2))
  | 0 => ⟨fun _ _ _ _ r h => by simp [impl_nextFrame.l0] at h, fun _ _ _ r h => by simp [impl_nextFrame.j1] at h⟩
  | k + 1 => by
    obtain ⟨ih0, ih1⟩ := impl_nextFrame.mono_l k
    refine ⟨?_, ?_⟩
    · intro y0 y1 y2 y3
      unfold impl_nextFrame.l0
      repeat' first
      | (with_reducible exact ih0 _ _ _ _)
      | (with_reducible exact ih1 _ _ _)
      | (with_reducible exact impl_numberOf.mono _ _)
      | (with_reducible exact LeO.refl _)
      | (with_reducible exact LeO.none _)
      | (with_reducible refine LeO.ite ?_ ?_)
      | (with_reducible refine LeO.bind ?_ (fun _ => ?_))
      | exact ih0 _ _ _ _
      | exact ih1 _ _ _
      | exact impl_numberOf.mono _ _
      | exact LeO.none _
      | refine LeO.ite ?_ ?_
      | refine LeO.bind ?_ (fun _ => ?_)
    · intro y0 y1 y2
      unfold impl_nextFrame.j1
      repeat' first
      | (with_reducible exact ih0 _ _ _ _)
      | (with_reducible exact ih1 _ _ _)
      | (with_reducible exact impl_numberOf.mono _ _)
      | (with_reducible exact LeO.refl _)
      | (with_reducible exact LeO.none _)
      | (with_reducible refine LeO.ite ?_ ?_)
      | (with_reducible refine LeO.bind ?_ (fun _ => ?_))
      | exact ih0 _ _ _ _
      | exact ih1 _ _ _
      | exact impl_numberOf.mono _ _
      | exact LeO.none _
      | refine LeO.ite ?_ ?_
      | refine LeO.bind ?_ (fun _ => ?_)
theorem impl_nextFrame.mono : ∀ a0 k, LeO (impl_nextFrame.f k a0) (impl_nextFrame.f (k + 1) a0) := by
  intro a0 k
  obtain ⟨ih0, ih1⟩ := impl_nextFrame.mono_l k
  unfold impl_nextFrame.f
  repeat' first
      | (with_reducible exact ih0 _ _ _ _)
      | (with_reducible exact ih1 _ _ _)
      | (with_reducible exact impl_numberOf.mono _ _)
      | (with_reducible exact LeO.refl _)
      | (with_reducible exact LeO.none _)
      | (with_reducible refine LeO.ite ?_ ?_)
      | (with_reducible refine LeO.bind ?_ (fun _ => ?_))
      | exact ih0 _ _ _ _
      | exact ih1 _ _ _
      | exact impl_numberOf.mono _ _
      | exact LeO.none _
      | refine LeO.ite ?_ ?_
      | refine LeO.bind ?_ (fun _ => ?_)
def impl_nextFrame.T16 : Bool × List (List Nat × List Nat) := (true, [([], []), ([0], [0]), ([1], [1]), ([2], [2]), ([], []), ([], []), ([4, 5], [4, 5]), ([6], [6]), ([3, 7], [3, 7]), ([], []), ([8, 7, 0, 1, 2, 3, 4, 5, 6, 7, 8], [8]), ([9, 10, 0, 1, 2, 3, 4, 5, 6, 7, 8, 9, 10], [9]), ([11, 0, 1, 2, 3, 4, 5, 6, 7, 8, 9, 10, 11], [])])
def impl_nextFrame.B16 : List Nat := [0, 1, 3, 7, 0, 0, 48, 112, 255, 0, 511, 2047, 4095]
theorem impl_nextFrame.tab16 : rtab .any (opsOf Try.f16 16) = impl_nextFrame.T16 := by kernel_rfl
theorem impl_nextFrame.bits16 : waitsOk impl_nextFrame.T16.2 impl_nextFrame.B16 = true := by kernel_rfl
set_option maxHeartbeats 8000000 in
set_option maxRecDepth 100000 in
theorem impl_nextFrame.calls (k : Nat) (A0 : Option Addr) (c0 : Nat) (l0 : List Int) (r1 : Int) (r2 : List Int) (r3 : Int) (r4 : Int) (w : World) (hr0 : Kd.C (Kd.int .u8) w A0 l0.length l0) (hc0 : l0.length ≤ c0) (h : impl_nextFrame.f k l0 = some (r1, r2, r3, r4)) :
    Calls Try.prog 16 #[.slice A0 l0.length c0] w fun e w' => ∃ v1_ : Value, e = .returned (.tuple #[.agg #[.int .i64 r1, v1_], .int .i64 r3, .int .i64 r4]) ∧ Kd.R (Kd.int .u8) 5 w' w.heap.size (fun _ => True) v1_ r2 ∧ Below w.heap.size w w' := by
  have hu26 := Try.underlying26
  have HR0 := Aside0.mk hr0
  have HC0 := Aside0.mk hc0
  clear hr0 hc0
  have HB := Aside0.mk (Below.refl w.heap.size w)
  have H : (if 0 ≤ (mn (l0.length : Int) 2) then (if (mn (l0.length : Int) 2) ≤ (l0.length : Int) then (impl_nextFrame.l0 k l0 (l0.take ((mn (l0.length : Int) 2) : Int).toNat) ((l0.take ((mn (l0.length : Int) 2) : Int).toNat).length : Int) 0) else (none)) else (none)) = some (r1, r2, r3, r4) := h
  clear h
  obtain ⟨ji2, hji2⟩ : ∃ j_ : Int, (mn (l0.length : Int) 2) = j_ := ⟨_, rfl⟩
  replace H : (if 0 ≤ (ji2) then (if (ji2) ≤ (l0.length : Int) then (impl_nextFrame.l0 k l0 (l0.take ((ji2) : Int).toNat) ((l0.take ((ji2) : Int).toNat).length : Int) 0) else (none)) else (none)) = some (r1, r2, r3, r4) := by first | (rw [hji2] at H; exact H) | (simp only [hji2] at H ⊢; exact H)
  (try (have hji2h : ji2 ≤ 2 := by (rw [← hji2]; unfold mn; (repeat' split) <;> omega)))
  (try (have hji2g : ji2 ≤ 64 := by omega))
  (try (have hji2l : 0 ≤ ji2 := by (rw [← hji2]; unfold mn; (repeat' split) <;> omega)))
  (try (have hji2m : 0 ≤ ji2 := by omega))
  have hji2_ : (if 2 < (l0.length : Int) then 2 else (l0.length : Int)) = ji2 := hji2
  by_cases c3 : 0 ≤ (ji2)
  · rw [if_pos c3] at H
    have c3b0 := eq_true c3
    have c3b1 : decide (0 ≤ (ji2)) = true := decide_eq_true c3
    clear c3
    by_cases c4 : (ji2) ≤ (l0.length : Int)
    · rw [if_pos c4] at H
      have c4b0 := eq_true c4
      have c4b1 : decide ((ji2) ≤ (l0.length : Int)) = true := decide_eq_true c4
      clear c4
      have H' := Aside0.mk H
      clear H
      go_enter Try.func16, Try.ntmps16
      go_wp2_with (first | ((with_reducible refine gate_dst (N := 2) rfl ?_); refine box_e_ 2 #[.int .i64 0, .slice none 0 0] 26 ?_; intro gb194 hg w5 hbox hb; have BK194 := Aside0.mk (hbox); have GW194 := (bs_ hg : Aside0 (w.heap.size ≤ _)); have GE194 := (bs_ hg : Aside0 (w.heap.size ≤ _)); replace HB := Aside0.mk (below_step bb_ hb); clear hb hbox hg; obtain ⟨i06, hi06, _, hsz6, _⟩ := info_parts info5; obtain ⟨hcut6, hA6, hC6⟩ := print_take_of (P := Try.prog) (Value.int .u8) 0 22 5 .i64 Try.underlying22 hi06 hsz6 A0 c0 l0 (ji2) (of_decide_eq_true as_) (of_decide_eq_true as_) HC0.out; have HR195 := Aside0.mk (Kd.C_of_reads (h1 := fun _ => rfl) (hA6 _ (Kd.reads_of_C HR0.out))); have HC195 := Aside0.mk hC6; clear hA6 hC6 hi06 hsz6))
      go_loopg [14] k (fun kq v14 w' => ∃ (x14_1 : Int) (x195000_1 : Int), v14 = .int .i64 x14_1 ∧ Aside0 (impl_nextFrame.l0 kq l0 (l0.take ((ji2) : Int).toNat) ((l0.take ((ji2) : Int).toNat).length : Int) x14_1 = some (r1, r2, r3, r4)) ∧ Aside0 (kq ≤ k) ∧ Aside0 (w'.heap[gb194]? = some (.cells #[.int .i64 x195000_1, (.slice none 0 0)] 26 (0, 0))) ∧ Aside0 (Below w.heap.size w w'))
      case atStart => exact ⟨(0), (0), sd_, H', ⟨Nat.le_refl _⟩, ⟨by (with_reducible repeat (first | refine blk_drewN ?_ _ | refine blk_drew ?_ | refine blk_alloc ?_ _)); exact BK194.out⟩, ⟨bb_⟩⟩
      case round =>
        clear H'
        try clear c1
        try clear p2
        try clear c3
        try clear c3b0
        try clear c3b1
        try clear c4
        try clear c4b0
        try clear c4b1
        obtain ⟨x14_1, x195000_1, rfl, HA, HK1, BK194, HB⟩ := hrel
        cases gk with
        | zero => exact absurd HA.out (by simp [impl_nextFrame.l0])
        | succ k1 =>
          have H := HA.out
          clear HA
          simp only [impl_nextFrame.l0] at H
          by_cases c7 : x14_1 < ((l0.take ((ji2) : Int).toNat).length : Int)
          · rw [if_pos c7] at H
            have c7b0 : decide (x14_1 < ((l0.take ((ji2) : Int).toNat).length : Int)) = true := decide_eq_true c7
            (try (have c7m : decide (x14_1 < max ji2 0) = true := by (have e_ : ((l0.take ((ji2) : Int).toNat).length : Int) = max ji2 0 := by (rw [List.length_take]; have e2_ : ji2 ≤ (l0.length : Int) := (by (rw [← hji2]; unfold mn; (repeat' split) <;> omega)); omega)); rw [← e_]; exact c7b0))
            (try (have c7n : (x14_1 < max ji2 0) = True := eq_true (of_decide_eq_true c7m)))
            (try (have c7o : (max ji2 0 ≤ x14_1) = False := eq_false (by have := of_decide_eq_true c7m; omega)))
            (try (have c7b0d := c7b0; simp only [List.length_drop, List.length_take] at c7b0d))
            clear c7
            by_cases c8 : 0 ≤ x14_1
            · rw [if_pos c8] at H
              have c8b0 : decide (0 ≤ x14_1) = true := decide_eq_true c8
              clear c8
              by_cases c9 : x14_1 < ((l0.take ((ji2) : Int).toNat).length : Int)
              · rw [if_pos c9] at H
                have c9b0 : decide (x14_1 < ((l0.take ((ji2) : Int).toNat).length : Int)) = true := decide_eq_true c9
                (try (have c9m : decide (x14_1 < max ji2 0) = true := by (have e_ : ((l0.take ((ji2) : Int).toNat).length : Int) = max ji2 0 := by (rw [List.length_take]; have e2_ : ji2 ≤ (l0.length : Int) := (by (rw [← hji2]; unfold mn; (repeat' split) <;> omega)); omega)); rw [← e_]; exact c9b0))
                (try (have c9n : (x14_1 < max ji2 0) = True := eq_true (of_decide_eq_true c9m)))
                (try (have c9o : (max ji2 0 ≤ x14_1) = False := eq_false (by have := of_decide_eq_true c9m; omega)))
                (try (have c9b0d := c9b0; simp only [List.length_drop, List.length_take] at c9b0d))
                clear c9
                by_cases c10 : (rd (l0.take ((ji2) : Int).toNat) x14_1) = 255
                · rw [if_pos c10] at H
                  have c10b0 : ((rd (l0.take ((ji2) : Int).toNat) x14_1) == 255) = true := beq_iff_eq.mpr c10
                  have c10b1 : ((rd (l0.take ((ji2) : Int).toNat) x14_1) != 255) = false := bne_eq_false_iff_eq.mpr c10
                  clear c10
                  have H' := Aside0.mk H
                  clear H
                  have p196 : 0 ≤ (x14_1 : Int) := of_decide_eq_true as_
                  have q196 : x14_1 < ((l0.take ((ji2) : Int).toNat).length : Int) := of_decide_eq_true as_
                  obtain ⟨ad196, e196, hx196_0⟩ := Kd.at_int HR195.out x14_1 p196 q196
                  cases e196
                  replace hx196_0 := (HB.out.cell (World.block_lt_of_cell? w _ hx196_0)).trans hx196_0
                  replace p196 := eq_true p196
                  replace q196 := eq_true q196
                  go_wp2
                  go_roundg k1
                  case measure => have := HK1.out; omega
                  case rel => exact ⟨(wrap64 (x14_1 + 1)), (x195000_1), sd_, H', ⟨by have := HK1.out; omega⟩, ⟨by (with_reducible repeat (first | refine blk_drewN ?_ _ | refine blk_drew ?_ | refine blk_alloc ?_ _)); exact BK194.out⟩, ⟨bb_⟩⟩
                · rw [if_neg c10] at H
                  have c10b0 : ((rd (l0.take ((ji2) : Int).toNat) x14_1) == 255) = false := beq_eq_false_iff_ne.mpr c10
                  have c10b1 : ((rd (l0.take ((ji2) : Int).toNat) x14_1) != 255) = true := bne_iff_ne.mpr c10
                  simp only [Option.some.injEq, Prod.mk.injEq] at H
                  obtain ⟨rfl, rfl, rfl, rfl⟩ := H
                  have p196 : 0 ≤ (x14_1 : Int) := of_decide_eq_true as_
                  have q196 : x14_1 < ((l0.take ((ji2) : Int).toNat).length : Int) := of_decide_eq_true as_
                  obtain ⟨ad196, e196, hx196_0⟩ := Kd.at_int HR195.out x14_1 p196 q196
                  cases e196
                  replace hx196_0 := (HB.out.cell (World.block_lt_of_cell? w _ hx196_0)).trans hx196_0
                  replace p196 := eq_true p196
                  replace q196 := eq_true q196
                  obtain ⟨hcz11_0, hcz11_1, hfz11_0, hfz11_1⟩ := cf2_ BK194
                  go_wp2
                  refine bodyPost_ret (results_ctt rfl _ _ gb194 26 #[.int .i64 0, .slice none 0 0] (0, 0) _ rfl (by (with_reducible repeat (first | refine blk_drewN ?_ _ | refine blk_drew ?_ | refine blk_alloc ?_ _)); refine blk_put (cs := #[.int .i64 0, .slice none 0 0]) ?_ 1 _ rfl; (with_reducible repeat (first | refine blk_drewN ?_ _ | refine blk_drew ?_ | refine blk_alloc ?_ _)); refine blk_put (cs := #[.int .i64 x195000_1, .slice none 0 0]) ?_ 0 _ rfl; (with_reducible repeat (first | refine blk_drewN ?_ _ | refine blk_drew ?_ | refine blk_alloc ?_ _)); exact BK194.out) Try.underlying26 rfl (by kernel_rfl)) rfl ?_
                  exact ⟨_, by first | rfl | (simp [errW_none, errW_some] <;> rfl) | (simp only [← hji2]; first | rfl | (simp [errW_none, errW_some] <;> rfl)) | (simp [*, errW_none, errW_some] <;> rfl), by first | exact Kd.R_nil _ _ _ _ _ | exact Kd.N_nil _ _ _ _ _ | exact Kd.V_nil _ _ _ _ _ | exact Kd.Q_nil _ _ _ _ _ | exact Kd.S_nil _ _ _ _ _, bb_⟩
              · rw [if_neg c9] at H
                exact absurd H (by simp)
            · rw [if_neg c8] at H
              exact absurd H (by simp)
          · rw [if_neg c7] at H
            have c7b0 : decide (x14_1 < ((l0.take ((ji2) : Int).toNat).length : Int)) = false := decide_eq_false c7
            (try (have c7m : decide (x14_1 < max ji2 0) = false := by (have e_ : ((l0.take ((ji2) : Int).toNat).length : Int) = max ji2 0 := by (rw [List.length_take]; have e2_ : ji2 ≤ (l0.length : Int) := (by (rw [← hji2]; unfold mn; (repeat' split) <;> omega)); omega)); rw [← e_]; exact c7b0))
            (try (have c7n : (x14_1 < max ji2 0) = True := eq_true (of_decide_eq_true c7m)))
            (try (have c7o : (max ji2 0 ≤ x14_1) = False := eq_false (by have := of_decide_eq_true c7m; omega)))
            (try (have c7b0d := c7b0; simp only [List.length_drop, List.length_take] at c7b0d))
            clear c7
            by_cases c12 : (l0.length : Int) < 4
            · rw [if_pos c12] at H
              have c12b0 : decide ((l0.length : Int) < 4) = true := decide_eq_true c12
              have c12b1 : decide (l0.length < 4) = true := decide_eq_true (by omega)
              clear c12
              simp only [Option.some.injEq, Prod.mk.injEq] at H
              obtain ⟨rfl, rfl, rfl, rfl⟩ := H
              obtain ⟨hcz13_0, hcz13_1, hfz13_0, hfz13_1⟩ := cf2_ BK194
              go_wp2
              refine bodyPost_ret (results_ctt rfl _ _ gb194 26 #[.int .i64 0, .slice none 0 0] (0, 0) _ rfl (by (with_reducible repeat (first | refine blk_drewN ?_ _ | refine blk_drew ?_ | refine blk_alloc ?_ _)); refine blk_put (cs := #[.int .i64 0, .slice none 0 0]) ?_ 1 _ rfl; (with_reducible repeat (first | refine blk_drewN ?_ _ | refine blk_drew ?_ | refine blk_alloc ?_ _)); refine blk_put (cs := #[.int .i64 x195000_1, .slice none 0 0]) ?_ 0 _ rfl; (with_reducible repeat (first | refine blk_drewN ?_ _ | refine blk_drew ?_ | refine blk_alloc ?_ _)); exact BK194.out) Try.underlying26 rfl (by kernel_rfl)) rfl ?_
              exact ⟨_, by first | rfl | (simp [errW_none, errW_some] <;> rfl) | (simp only [← hji2]; first | rfl | (simp [errW_none, errW_some] <;> rfl)) | (simp [*, errW_none, errW_some] <;> rfl), by first | exact Kd.R_nil _ _ _ _ _ | exact Kd.N_nil _ _ _ _ _ | exact Kd.V_nil _ _ _ _ _ | exact Kd.Q_nil _ _ _ _ _ | exact Kd.S_nil _ _ _ _ _, bb_⟩
            · rw [if_neg c12] at H
              have c12b0 : decide ((l0.length : Int) < 4) = false := decide_eq_false c12
              have c12b1 : decide (l0.length < 4) = false := decide_eq_false (by omega)
              clear c12
              by_cases c14 : 2 ≤ 4
              · rw [if_pos c14] at H
                have c14b0 := eq_true c14
                have c14b1 : decide (2 ≤ 4) = true := decide_eq_true c14
                clear c14
                by_cases c15 : 4 ≤ (l0.length : Int)
                · rw [if_pos c15] at H
                  have c15b0 := eq_true c15
                  have c15b1 : decide (4 ≤ (l0.length : Int)) = true := decide_eq_true c15
                  clear c15
                  replace H := Option.bind_eq_some_iff.mp H
                  obtain ⟨t198, A160, H⟩ := H
                  replace H : ((impl_in.f t198 5 125).bind fun t199 => (if t199 = true then (if (l0.length : Int) > 4 then (if 4 < (l0.length : Int) then ((impl_in.f (wrap64 (rd l0 4)) 1 4).bind fun t201 => (impl_nextFrame.j1 k1 l0 t198 (!t201))) else (none)) else (impl_nextFrame.j1 k1 l0 t198 false)) else (some (0, ([] : List Int), 0, 2)))) = some (r1, r2, r3, r4) := H
                  have A16 := Aside0.mk A160
                  clear A160
                  replace H := Option.bind_eq_some_iff.mp H
                  obtain ⟨t199, A170, H⟩ := H
                  replace H : (if t199 = true then (if (l0.length : Int) > 4 then (if 4 < (l0.length : Int) then ((impl_in.f (wrap64 (rd l0 4)) 1 4).bind fun t201 => (impl_nextFrame.j1 k1 l0 t198 (!t201))) else (none)) else (impl_nextFrame.j1 k1 l0 t198 false)) else (some (0, ([] : List Int), 0, 2))) = some (r1, r2, r3, r4) := H
                  have A17 := Aside0.mk A170
                  clear A170
                  by_cases c18 : t199 = true
                  · subst c18
                    have H1 : (if (l0.length : Int) > 4 then (if 4 < (l0.length : Int) then ((impl_in.f (wrap64 (rd l0 4)) 1 4).bind fun t201 => (impl_nextFrame.j1 k1 l0 t198 (!t201))) else (none)) else (impl_nextFrame.j1 k1 l0 t198 false)) = some (r1, r2, r3, r4) := by rw [if_pos rfl] at H; exact H
                    clear H
                    have H := H1
                    clear H1
                    have HC19 := Aside0.mk H
                    clear H
                    obtain ⟨i020, hi020, _, hsz20, _⟩ := info_parts info5
                    obtain ⟨A20, hcut20, hA20, hC20⟩ := print_mid_of (P := Try.prog) (Value.int .u8) 0 22 5 .i64 .i64 Try.underlying22 hi020 hsz20 A0 c0 l0 2 4 (by omega) (by first | omega | exact of_decide_eq_true as_) (of_decide_eq_true as_) HC0.out
                    have HR197 := Aside0.mk (Kd.C_of_reads (h1 := fun _ => rfl) (hA20 _ (Kd.reads_of_C HR0.out)))
                    have HC197 := Aside0.mk hC20
                    clear hA20 hC20 hi020 hsz20
                    go_upto_region 12 with (first | ((with_reducible refine gate_callee (f := 22) rfl ?_); refine goesL_ (some 28) rfl rfl Try.func22 (by kernel_rfl) rfl #[.slice A20 ((l0.take 4).drop 2).length (c0 - 2)] rfl (by (try simp only [List.map_toArray, List.map_cons, List.map_nil]); first | done | (rw [show ((l0.take 4).drop 2).length = (4 - 2) from (by rw [List.length_drop, List.length_take]; have h_ : (4 : Int) ≤ (l0.length : Int) := of_decide_eq_true as_; omega)] <;> rfl) | rfl | (simp only [List.length_drop, List.length_take]; rfl)) ?_; (with_reducible refine (impl_numberOf.calls k1 _ _ ((l0.take 4).drop 2) t198 _ ?side1 ?side2 A16.out).mono ?_); (case side1 => exact kc_ (Kd.C_below HR197.out HB.out)); (case side2 => exact HC197.out); rintro e w' ⟨rfl, ⟨nd, rfl⟩⟩; refine ⟨_, rfl, ?_⟩) | ((with_reducible refine gate_callee (f := 14) rfl ?_); refine goe_ (some 31) Try.func14 #[.int .i64 t198, .int .i64 5, .int .i64 125] ?_; (with_reducible refine (impl_in.calls t198 5 125 true _ A17.out).mono ?_); rintro e w' ⟨rfl, ⟨nd, rfl⟩⟩; refine ⟨_, rfl, ?_⟩))
                    (try simp only [Act.put, List.setIfInBounds_toArray, List.set_cons_zero, List.set_cons_succ])
                    go_cut [34] (fun v34 wc => ∃ (kq : Nat) (x34_18 : Bool), v34 = .bool x34_18 ∧ Aside0 (impl_nextFrame.j1 kq l0 t198 x34_18 = some (r1, r2, r3, r4)) ∧ Aside0 (kq ≤ k1) ∧ Aside0 (wc.heap[gb194]? = some (.cells #[.int .i64 x195000_1, (.slice none 0 0)] 26 (0, 0))) ∧ Aside0 (Below w.heap.size w wc))
                    case first =>
                      have H := HC19.out
                      clear HC19
                      by_cases c21 : (l0.length : Int) > 4
                      · rw [if_pos c21] at H
                        have c21b0 : decide (4 < (l0.length : Int)) = true := decide_eq_true c21
                        have c21b1 : decide (4 < l0.length) = true := decide_eq_true (by omega)
                        clear c21
                        (first | rw [c21b0] | (simp only [i64_w, i32_w]; rw [c21b0]) | skip)
                        by_cases c22 : 4 < (l0.length : Int)
                        · rw [if_pos c22] at H
                          have c22b0 : decide (4 < (l0.length : Int)) = true := decide_eq_true c22
                          have c22b1 : decide (4 < l0.length) = true := decide_eq_true (by omega)
                          clear c22
                          replace H := Option.bind_eq_some_iff.mp H
                          obtain ⟨t201, A230, H⟩ := H
                          replace H : (impl_nextFrame.j1 k1 l0 t198 (!t201)) = some (r1, r2, r3, r4) := H
                          have A23 := Aside0.mk A230
                          clear A230
                          have H' := Aside0.mk H
                          clear H
                          have p200 : 0 ≤ (4 : Int) := (by omega)
                          have q200 : 4 < (l0.length : Int) := of_decide_eq_true as_
                          obtain ⟨ad200, e200, hx200_0⟩ := Kd.at_int HR0.out 4 p200 q200
                          cases e200
                          (try simp only [show (4 : Int).toNat = 4 from rfl, Nat.reduceMul, Nat.reduceEqDiff, Go.Addr.add, ↓reduceIte] at hx200_0)
                          have qi200 : (4 < l0.length) = True := eq_true (by omega)
                          (try rw [show ((4 : Int)).toNat = 4 from rfl] at hx200_0)
                          replace hx200_0 := (HB.out.cell (World.block_lt_of_cell? w _ hx200_0)).trans hx200_0
                          replace p200 := eq_true p200
                          replace q200 := eq_true q200
                          go_wp2_with (first | (go_at_call 14; (with_reducible refine (impl_in.calls (wrap64 (rd l0 4)) 1 4 t201 _ A23.out).mono ?_); rintro e w' ⟨rfl, ⟨nd, rfl⟩⟩))
                          go_meet
                          case rel => exact ⟨_, (!t201), sd_, H', ⟨by have := HK1.out; first | omega | exact Nat.le_refl _⟩, ⟨by (with_reducible repeat (first | refine blk_drewN ?_ _ | refine blk_drew ?_ | refine blk_alloc ?_ _)); exact BK194.out⟩, ⟨bb_⟩⟩
                        · rw [if_neg c22] at H
                          exact absurd H (by simp)
                      · rw [if_neg c21] at H
                        have c21b0 : decide (4 < (l0.length : Int)) = false := decide_eq_false c21
                        have c21b1 : decide (4 < l0.length) = false := decide_eq_false (by omega)
                        clear c21
                        (first | rw [c21b0] | (simp only [i64_w, i32_w]; rw [c21b0]) | skip)
                        have H' := Aside0.mk H
                        clear H
                        go_wp2
                        go_meet
                        case rel => exact ⟨_, (false), sd_, H', ⟨by have := HK1.out; first | omega | exact Nat.le_refl _⟩, ⟨by (with_reducible repeat (first | refine blk_drewN ?_ _ | refine blk_drew ?_ | refine blk_alloc ?_ _)); exact BK194.out⟩, ⟨bb_⟩⟩
                    case rest =>
                      clear HC19
                      try clear c1
                      try clear p1
                      try clear q1
                      try clear hx1
                      try clear c2
                      try clear p2
                      try clear q2
                      try clear hx2
                      try clear qi2
                      try clear c3
                      try clear c3b0
                      try clear c3b1
                      try clear c4
                      try clear c4b0
                      try clear c4b1
                      try clear p6
                      try clear c7
                      try clear c7b0
                      try clear c8
                      try clear c8b0
                      try clear c9
                      try clear c9b0
                      try clear c10
                      try clear c10b0
                      try clear c10b1
                      try clear c12
                      try clear c12b0
                      try clear c12b1
                      try clear c14
                      try clear c14b0
                      try clear c14b1
                      try clear c15
                      try clear c15b0
                      try clear c15b1
                      try clear c16
                      try clear c18
                      try clear p19
                      try clear q19
                      try clear hx19
                      try clear p20
                      try clear q20
                      try clear hx20
                      try clear qi20
                      try clear c21
                      try clear c21b0
                      try clear c21b1
                      try clear c22
                      try clear c22b0
                      try clear c22b1
                      try clear hcz11_0
                      try clear hcz11_1
                      try clear hcz13_0
                      try clear hcz13_1
                      try clear hfz11_0
                      try clear hfz11_1
                      try clear hfz13_0
                      try clear hfz13_1
                      try clear hx196_0
                      try clear hx200_0
                      try clear p196
                      try clear p2
                      try clear p200
                      try clear q196
                      try clear q200
                      obtain ⟨kq, x34_18, rfl, HA, HJ18, BK194, HB⟩ := hcut
                      cases kq with
                      | zero => exact absurd HA.out (by simp [impl_nextFrame.j1])
                      | succ kj18 =>
                        have H := HA.out
                        clear HA
                        simp only [impl_nextFrame.j1] at H
                        by_cases c24 : x34_18 = true
                        · subst c24
                          have H1 : (some (0, ([] : List Int), 0, 3)) = some (r1, r2, r3, r4) := by rw [if_pos rfl] at H; exact H
                          clear H
                          have H := H1
                          clear H1
                          simp only [Option.some.injEq, Prod.mk.injEq] at H
                          obtain ⟨rfl, rfl, rfl, rfl⟩ := H
                          obtain ⟨hcz25_0, hcz25_1, hfz25_0, hfz25_1⟩ := cf2_ BK194
                          go_wp2
                          refine bodyPost_ret (results_ctt rfl _ _ gb194 26 #[.int .i64 0, .slice none 0 0] (0, 0) _ rfl (by (with_reducible repeat (first | refine blk_drewN ?_ _ | refine blk_drew ?_ | refine blk_alloc ?_ _)); refine blk_put (cs := #[.int .i64 0, .slice none 0 0]) ?_ 1 _ rfl; (with_reducible repeat (first | refine blk_drewN ?_ _ | refine blk_drew ?_ | refine blk_alloc ?_ _)); refine blk_put (cs := #[.int .i64 x195000_1, .slice none 0 0]) ?_ 0 _ rfl; (with_reducible repeat (first | refine blk_drewN ?_ _ | refine blk_drew ?_ | refine blk_alloc ?_ _)); exact BK194.out) Try.underlying26 rfl (by kernel_rfl)) rfl ?_
                          exact ⟨_, by first | rfl | (simp [errW_none, errW_some] <;> rfl) | (simp only [← hji2]; first | rfl | (simp [errW_none, errW_some] <;> rfl)) | (simp [*, errW_none, errW_some] <;> rfl), by first | exact Kd.R_nil _ _ _ _ _ | exact Kd.N_nil _ _ _ _ _ | exact Kd.V_nil _ _ _ _ _ | exact Kd.Q_nil _ _ _ _ _ | exact Kd.S_nil _ _ _ _ _, bb_⟩
                        · replace c24 := Bool.eq_false_iff.mpr c24
                          subst c24
                          have H1 : ((impl_size_byte.f l0).bind fun t202 => (if t202 < t198 then (some (0, ([] : List Int), 0, 0)) else (if 4 < (l0.length : Int) then (if 5 ≤ t198 then (if t198 ≤ (l0.length : Int) then (if ([] : List Int).length + ((l0.take (t198 : Int).toNat).drop 5).length < 140737488355328 then (some (wrap64 (rd l0 4), (([] : List Int) ++ ((l0.take (t198 : Int).toNat).drop 5)), t198, 0)) else (none)) else (none)) else (none)) else (none)))) = some (r1, r2, r3, r4) := by rw [if_neg (show ¬ (false = true) by decide)] at H; exact H
                          clear H
                          have H := H1
                          clear H1
                          replace H := Option.bind_eq_some_iff.mp H
                          obtain ⟨t202, A260, H⟩ := H
                          replace H : (if t202 < t198 then (some (0, ([] : List Int), 0, 0)) else (if 4 < (l0.length : Int) then (if 5 ≤ t198 then (if t198 ≤ (l0.length : Int) then (if ([] : List Int).length + ((l0.take (t198 : Int).toNat).drop 5).length < 140737488355328 then (some (wrap64 (rd l0 4), (([] : List Int) ++ ((l0.take (t198 : Int).toNat).drop 5)), t198, 0)) else (none)) else (none)) else (none)) else (none))) = some (r1, r2, r3, r4) := H
                          have A26 := Aside0.mk A260
                          clear A260
                          by_cases c27 : t202 < t198
                          · rw [if_pos c27] at H
                            have c27b0 : decide (t202 < t198) = true := decide_eq_true c27
                            clear c27
                            simp only [Option.some.injEq, Prod.mk.injEq] at H
                            obtain ⟨rfl, rfl, rfl, rfl⟩ := H
                            go_wp2_with (first | ((with_reducible refine gate_callee (f := 21) rfl ?_); refine goe_ (some 49) Try.func21 #[.slice A0 l0.length c0] ?_; (with_reducible refine (impl_size_byte.calls _ _ l0 t202 _ ?side1 ?side2 A26.out).mono ?_); (case side1 => exact kc_ (Kd.C_below HR0.out HB.out)); (case side2 => exact HC0.out); rintro e w' ⟨rfl, ⟨nd, rfl⟩⟩; refine ⟨_, rfl, ?_⟩; (try (rw [drewN_self wc]; generalize hq_ : World.drewN wc _ = wc; have n0_ : Aside0 (wc.heap[gb194]? = some (.cells #[.int .i64 x195000_1, .slice none 0 0] 26 (0, 0))) := ⟨by rw [← hq_]; exact (by (with_reducible repeat (first | refine blk_drewN ?_ _ | refine blk_drew ?_ | refine blk_alloc ?_ _)); exact BK194.out)⟩; have n1_ : Aside0 (Below w.heap.size w wc) := ⟨by rw [← hq_]; exact bb_⟩; clear BK194 HB hq_; have BK194 := n0_; have HB := n1_; clear n0_ n1_)); obtain ⟨hcz28_0, hcz28_1, hfz28_0, hfz28_1⟩ := cf2_ BK194))
                            refine bodyPost_ret (results_ctt rfl _ _ gb194 26 #[.int .i64 0, .slice none 0 0] (0, 0) _ rfl (by (with_reducible repeat (first | refine blk_drewN ?_ _ | refine blk_drew ?_ | refine blk_alloc ?_ _)); refine blk_put (cs := #[.int .i64 0, .slice none 0 0]) ?_ 1 _ rfl; (with_reducible repeat (first | refine blk_drewN ?_ _ | refine blk_drew ?_ | refine blk_alloc ?_ _)); refine blk_put (cs := #[.int .i64 x195000_1, .slice none 0 0]) ?_ 0 _ rfl; (with_reducible repeat (first | refine blk_drewN ?_ _ | refine blk_drew ?_ | refine blk_alloc ?_ _)); exact BK194.out) Try.underlying26 rfl (by kernel_rfl)) rfl ?_
                            exact ⟨_, by first | rfl | (simp [errW_none, errW_some] <;> rfl) | (simp only [← hji2]; first | rfl | (simp [errW_none, errW_some] <;> rfl)) | (simp [*, errW_none, errW_some] <;> rfl), by first | exact Kd.R_nil _ _ _ _ _ | exact Kd.N_nil _ _ _ _ _ | exact Kd.V_nil _ _ _ _ _ | exact Kd.Q_nil _ _ _ _ _ | exact Kd.S_nil _ _ _ _ _, bb_⟩
                          · rw [if_neg c27] at H
                            have c27b0 : decide (t202 < t198) = false := decide_eq_false c27
                            clear c27
                            by_cases c29 : 4 < (l0.length : Int)
                            · rw [if_pos c29] at H
                              have c29b0 : decide (4 < (l0.length : Int)) = true := decide_eq_true c29
                              have c29b1 : decide (4 < l0.length) = true := decide_eq_true (by omega)
                              clear c29
                              by_cases c30 : 5 ≤ t198
                              · rw [if_pos c30] at H
                                have c30b0 := eq_true c30
                                have c30b1 : decide (5 ≤ t198) = true := decide_eq_true c30
                                clear c30
                                by_cases c31 : t198 ≤ (l0.length : Int)
                                · rw [if_pos c31] at H
                                  have c31b0 := eq_true c31
                                  have c31b1 : decide (t198 ≤ (l0.length : Int)) = true := decide_eq_true c31
                                  clear c31
                                  by_cases c32 : ([] : List Int).length + ((l0.take (t198 : Int).toNat).drop 5).length < 140737488355328
                                  · rw [if_pos c32] at H
                                    have LMc32 := Aside0.mk c32
                                    clear c32
                                    obtain ⟨y205, hy205⟩ : ∃ y_ : List Int, y_ = (([] : List Int) ++ ((l0.take (t198 : Int).toNat).drop 5)) := ⟨_, rfl⟩
                                    replace H : (some (wrap64 (rd l0 4), y205, t198, 0)) = some (r1, r2, r3, r4) := by first | (rw [hy205]; with_reducible exact H) | (have H2_ := (Option.bind_some _ _).symm.trans H; rw [hy205]; with_reducible exact H2_) | (have H2_ := (Option.bind_some _ _).symm.trans H; with_reducible exact H2_) | with_reducible exact H | (rw [hy205]; exact H) | exact H
                                    have Ny205 := Aside0.mk hy205
                                    clear hy205
                                    simp only [Option.some.injEq, Prod.mk.injEq] at H
                                    obtain ⟨rfl, rfl, rfl, rfl⟩ := H
                                    try go_wp2_with (first | ((with_reducible refine gate_callee (f := 21) rfl ?_); refine goe_ (some 49) Try.func21 #[.slice A0 l0.length c0] ?_; (with_reducible refine (impl_size_byte.calls _ _ l0 t202 _ ?side1 ?side2 A26.out).mono ?_); (case side1 => exact kc_ (Kd.C_below HR0.out HB.out)); (case side2 => exact HC0.out); rintro e w' ⟨rfl, ⟨nd, rfl⟩⟩; refine ⟨_, rfl, ?_⟩; (try (rw [drewN_self wc]; generalize hq_ : World.drewN wc _ = wc; have n0_ : Aside0 (wc.heap[gb194]? = some (.cells #[.int .i64 x195000_1, .slice none 0 0] 26 (0, 0))) := ⟨by rw [← hq_]; exact (by (with_reducible repeat (first | refine blk_drewN ?_ _ | refine blk_drew ?_ | refine blk_alloc ?_ _)); exact BK194.out)⟩; have n1_ : Aside0 (Below w.heap.size w wc) := ⟨by rw [← hq_]; exact bb_⟩; clear BK194 HB hq_; have BK194 := n0_; have HB := n1_; clear n0_ n1_))))
                                    have n0_ := Aside0.mk (blk_drew BK194.out)
                                    have n1_ := Aside0.mk (below_drew1 HB.out)
                                    clear BK194
                                    clear HB
                                    have BK194 := n0_
                                    have HB := n1_
                                    clear n0_ n1_
                                    have p203 : 0 ≤ (4 : Int) := (by omega)
                                    have q203 : 4 < (l0.length : Int) := of_decide_eq_true as_
                                    obtain ⟨ad203, e203, hx203_0⟩ := Kd.at_int HR0.out 4 p203 q203
                                    have hw203_0 := hx203_0
                                    (try rw [show ((4 : Int)).toNat = 4 from rfl] at hw203_0)
                                    (try rw [show 4 * 1 = 4 from rfl] at hw203_0)
                                    (try simp only [Nat.reduceMul, Nat.reduceEqDiff, Go.Addr.add, ↓reduceIte] at hw203_0)
                                    cases e203
                                    (try simp only [show (4 : Int).toNat = 4 from rfl, Nat.reduceMul, Nat.reduceEqDiff, Go.Addr.add, ↓reduceIte] at hx203_0)
                                    have qi203 : (4 < l0.length) = True := eq_true (by omega)
                                    (try rw [show ((4 : Int)).toNat = 4 from rfl] at hx203_0)
                                    replace hx203_0 := (HB.out.cell (World.block_lt_of_cell? w _ hx203_0)).trans hx203_0
                                    replace p203 := eq_true p203
                                    replace q203 := eq_true q203
                                    obtain ⟨i034, hi034, _, hsz34, _⟩ := info_parts info5
                                    obtain ⟨A34, hcut34, hA34, hC34⟩ := print_mid_of (P := Try.prog) (Value.int .u8) 0 22 5 .i64 .i64 Try.underlying22 hi034 hsz34 (some ad203) c0 l0 5 t198 (by omega) (by first | omega | exact of_decide_eq_true as_) (of_decide_eq_true as_) HC0.out
                                    have HR204 := Aside0.mk (Kd.C_of_reads (h1 := fun _ => rfl) (hA34 _ (Kd.reads_of_C HR0.out)))
                                    have HC204 := Aside0.mk hC34
                                    clear hA34 hC34 hi034 hsz34
                                    refine start_ (n := 13) (S := fun w' => w'.cell? ⟨ad203.block, ad203.off + 4, none⟩ = some (.int .u8 (rd l0 4))) (ds := []) #[false, false, false, false, false, false, false, false, false, false, false, false, false] (by kernel_rfl) rfl rfl (((HB.out.cell (World.block_lt_of_cell? w _ hw203_0)).trans hw203_0)) (fun hHeld => ?_); refine with_tabW impl_nextFrame.tab16 impl_nextFrame.bits16 (fun HT_ HW_ => ?_)
                                    generalize wc.drew = w33 at BK194 HB HR204 hx203_0 hHeld ⊢
                                    refine pure_ (i := 0) (N := some 53) (v := ?_) (a' := ?_) #[true, false, false, false, false, false, false, false, false, false, false, false, false] rfl rfl (any_of HT_.out (by kernel_rfl)) (fun _ _ _ h => h) (Or.inl ⟨by rfl, ?_⟩) ?_ ?_
                                    rotate_left
                                    · intro w'
                                      go_simp
                                      with_reducible rfl
                                    rotate_left
                                    · simp only [Act.put, List.setIfInBounds_toArray, List.set_cons_zero, List.set_cons_succ, i64_w, i32_w]
                                      rfl
                                    refine pure_ (i := 1) (N := some 54) (v := ?_) (a' := ?_) #[true, true, false, false, false, false, false, false, false, false, false, false, false] rfl rfl (any_of HT_.out (by kernel_rfl)) (fun _ _ _ h => h) (Or.inl ⟨by rfl, ?_⟩) ?_ ?_
                                    rotate_left
                                    · intro w'
                                      go_simp
                                      with_reducible rfl
                                    rotate_left
                                    · simp only [Act.put, List.setIfInBounds_toArray, List.set_cons_zero, List.set_cons_succ, i64_w, i32_w]
                                      rfl
                                    refine pure_ (i := 4) (N := some 57) (v := ?_) (a' := ?_) #[true, true, false, false, true, false, false, false, false, false, false, false, false] rfl rfl (any_of HT_.out (by kernel_rfl)) (fun _ _ _ h => h) (Or.inl ⟨by rfl, ?_⟩) ?_ ?_
                                    rotate_left
                                    · intro w'
                                      go_simp
                                      with_reducible rfl
                                    rotate_left
                                    · simp only [Act.put, List.setIfInBounds_toArray, List.set_cons_zero, List.set_cons_succ, i64_w, i32_w]
                                      rfl
                                    refine pure_ (i := 5) (N := some 58) (v := ?_) (a' := ?_) #[true, true, false, false, true, true, false, false, false, false, false, false, false] rfl rfl (any_of HT_.out (by kernel_rfl)) (fun _ _ _ h => h) (Or.inl ⟨by rfl, ?_⟩) ?_ ?_
                                    rotate_left
                                    · intro w'
                                      go_simp
                                      with_reducible rfl
                                    rotate_left
                                    · simp only [Act.put, List.setIfInBounds_toArray, List.set_cons_zero, List.set_cons_succ, i64_w, i32_w]
                                      rfl
                                    refine pure_ (i := 6) (N := some 59) (v := ?_) (a' := ?_) #[true, true, false, false, true, true, true, false, false, false, false, false, false] rfl rfl (any_of HT_.out (by kernel_rfl)) (fun _ _ _ h => h) (Or.inl ⟨by rfl, ?_⟩) ?_ ?_
                                    rotate_left
                                    · intro w'
                                      go_simp
                                      with_reducible rfl
                                    rotate_left
                                    · simp only [Act.put, List.setIfInBounds_toArray, List.set_cons_zero, List.set_cons_succ, i64_w, i32_w]
                                      rfl
                                    refine pure_ (i := 9) (N := some 62) (v := ?_) (a' := ?_) #[true, true, false, false, true, true, true, false, false, true, false, false, false] rfl rfl (any_of HT_.out (by kernel_rfl)) (fun _ _ _ h => h) (Or.inl ⟨by rfl, ?_⟩) ?_ ?_
                                    rotate_left
                                    · intro w'
                                      go_simp
                                      with_reducible rfl
                                    rotate_left
                                    · simp only [Act.put, List.setIfInBounds_toArray, List.set_cons_zero, List.set_cons_succ, i64_w, i32_w]
                                      rfl
                                    refine take_ (i := 2) (N := some 55) (v := ?_) (a' := ?_) #[true, true, true, false, true, true, true, false, false, true, false, false, false] rfl rfl (take_ofW HT_.out HW_.out (by kernel_rfl)) (fun _ _ _ h => h) (Or.inl ⟨by rfl, ?_⟩) hHeld ?_ ?_
                                    rotate_left
                                    · intro w' s0
                                      go_simp
                                      with_reducible rfl
                                    rotate_left
                                    · simp only [Act.put, List.setIfInBounds_toArray, List.set_cons_zero, List.set_cons_succ, i64_w, i32_w]
                                      rfl
                                    refine pure_ (i := 3) (N := some 56) (v := ?_) (a' := ?_) #[true, true, true, true, true, true, true, false, false, true, false, false, false] rfl rfl (any_of HT_.out (by kernel_rfl)) (fun _ _ _ h => h) (Or.inl ⟨by rfl, ?_⟩) ?_ ?_
                                    rotate_left
                                    · intro w'
                                      go_simp
                                      with_reducible rfl
                                    rotate_left
                                    · simp only [Act.put, List.setIfInBounds_toArray, List.set_cons_zero, List.set_cons_succ, i64_w, i32_w]
                                      rfl
                                    refine one_ (i := 7) (N := some 60) #[true, true, true, true, true, true, true, true, false, true, false, false, false] rfl rfl (one_of HT_.out (by kernel_rfl)) (by decide) (fun K hK => ?_)
                                    refine Kd.R_append_rows_step (Kd.int .u8) (w0 := w) w.heap.size (by rfl) (.const (.slice none 0 0)) (.tmp 59) 22 5 (.int .u8 0) 1 rfl Try.underlying22 info5 rfl (by decide) (by omega) (.slice none 0 0) ([] : List Int) ((l0.take (t198 : Int).toNat).drop 5) _ _ _ (fun _ => True) (fun _ => False) rfl rfl ?aO ?aR (fun _ _ h => h) (fun _ h => h.elim) ?aF ?aB ?aS ?aL ?_
                                    (case aR => first | (have hq_ := HR204.out; rw [show ((l0.take (t198 : Int).toNat).drop 5).length = (t198.toNat - 5) from (by rw [List.length_drop, List.length_take]; have h_ : (t198 : Int) ≤ (l0.length : Int) := of_decide_eq_true as_; omega)] at hq_; repeat (first | exact (Kd.C_below hq_ HB.out) | (with_reducible refine Kd.C_alloc ?_ _) | (with_reducible refine Kd.C_drewN ?_ _) | (with_reducible refine Kd.C_drew ?_)); done) | (rw [← show ((l0.take (t198 : Int).toNat).drop 5).length = (t198.toNat - 5) from (by rw [List.length_drop, List.length_take]; have h_ : (t198 : Int) ≤ (l0.length : Int) := of_decide_eq_true as_; omega)]; repeat (first | exact (Kd.C_below HR204.out HB.out) | (with_reducible refine Kd.C_alloc ?_ _) | (with_reducible refine Kd.C_drewN ?_ _) | (with_reducible refine Kd.C_drew ?_)); done) | (repeat (first | exact (Kd.C_below HR204.out HB.out) | (with_reducible refine Kd.C_alloc ?_ _) | (with_reducible refine Kd.C_drewN ?_ _) | (with_reducible refine Kd.C_drew ?_))))
                                    (case aB => exact bb_)
                                    (case aF => exact (fun _ _ => trivial))
                                    (case aO => exact ((Kd.R_nil _ _ _ _ (fun _ => True))))
                                    (case aS => exact (below_size bb_))
                                    (case aL => have := LMc32.out; have hlx_ := (show ((l0.take (t198 : Int).toNat).drop 5).length = (t198.toNat - 5) from (by rw [List.length_drop, List.length_take]; have h_ : (t198 : Int) ≤ (l0.length : Int) := of_decide_eq_true as_; omega)); omega)
                                    intro v206 w35 ho hb hg hat
                                    rw [← Ny205.out] at ho
                                    have n0_ := Aside0.mk (blk_grown (g := gb194) (o := .cells #[.int .i64 x195000_1, .slice none 0 0] 26 (0, 0)) (by (with_reducible repeat (first | refine blk_drewN ?_ _ | refine blk_drew ?_ | refine blk_alloc ?_ _)); exact BK194.out) hg (by simp [Value.ownBlock]))
                                    have n1_ := Aside0.mk (hb)
                                    have n2_ := Aside0.mk (ho)
                                    clear BK194
                                    clear HB
                                    have BK194 := n0_
                                    have HB := n1_
                                    have HO207 := n2_
                                    clear n0_ n1_ n2_
                                    clear ho hb hg hat
                                    obtain ⟨Ao36, co36, eo36⟩ := Kd.R_slice HO207.out
                                    (first | subst eo36 | (injection eo36 with f1_ f2_ f3_; have f4_ := f1_.symm; have f5_ := f3_.symm; clear f1_ f2_ f3_; subst f4_; subst f5_))
                                    refine hK.out _ _ (((HB.out.cell (World.block_lt_of_cell? w _ hw203_0)).trans hw203_0)) (fun hHeld => ?_)
                                    clear hK K
                                    refine norm_ (a' := ?_) ?_ ?_
                                    rotate_left
                                    · show Act.put _ (some 60) _ = _
                                      simp only [Act.put, List.setIfInBounds_toArray, List.set_cons_zero, List.set_cons_succ, i64_w, i32_w]
                                      rfl
                                    refine pure_ (i := 8) (N := some 61) (v := ?_) (a' := ?_) #[true, true, true, true, true, true, true, true, true, true, false, false, false] rfl rfl (any_of HT_.out (by kernel_rfl)) (fun _ _ _ h => h) (Or.inl ⟨by rfl, ?_⟩) ?_ ?_
                                    rotate_left
                                    · intro w'
                                      go_simp
                                      with_reducible rfl
                                    rotate_left
                                    · simp only [Act.put, List.setIfInBounds_toArray, List.set_cons_zero, List.set_cons_succ, i64_w, i32_w]
                                      rfl
                                    refine one_ (i := 10) (N := none) #[true, true, true, true, true, true, true, true, true, true, true, false, false] rfl rfl (one_of HT_.out (by kernel_rfl)) (by decide) (fun K hK => ?_)
                                    have hs37 : w35.cell? ⟨gb194, 0, none⟩ = some (.int .i64 x195000_1) := (blk_cell BK194.out 0).trans rfl
                                    have hfs37 := blk_frozen BK194.out 0
                                    have hs38 : w35.cell? ⟨gb194, 1, none⟩ = some (.slice none 0 0) := (blk_cell BK194.out 1).trans rfl
                                    have hfs38 := blk_frozen BK194.out 1
                                    refine skip_ (w1 := ?_) ?_ ?_ ?_ ?_
                                    rotate_left
                                    · first | kernel_rfl | rfl
                                    · rfl
                                    · go_simp
                                      rfl
                                    refine hK.out _ _ (((cell_far (p := ⟨gb194, _, none⟩) (by first | exact Nat.ne_of_lt (Nat.lt_of_lt_of_le (by have := World.block_lt_of_cell? _ _ hw203_0; first | rwa [add_block] at this | exact this) GW194.out) | (rw [add_block]; exact Nat.ne_of_lt (Nat.lt_of_lt_of_le (by have := World.block_lt_of_cell? _ _ hw203_0; first | rwa [add_block] at this | exact this) GW194.out)) | (show (Addr.add _ _).block ≠ _; rw [add_block]; exact Nat.ne_of_lt (Nat.lt_of_lt_of_le (by have := World.block_lt_of_cell? _ _ hw203_0; first | rwa [add_block] at this | exact this) GW194.out)) | (dsimp only; exact Nat.ne_of_lt (Nat.lt_of_lt_of_le (by have := World.block_lt_of_cell? _ _ hw203_0; first | rwa [add_block] at this | exact this) GW194.out))) _).trans (((cell_far (p := ⟨gb194, _, none⟩) (by first | exact Nat.ne_of_lt (Nat.lt_of_lt_of_le (by have := World.block_lt_of_cell? _ _ hw203_0; first | rwa [add_block] at this | exact this) GW194.out) | (rw [add_block]; exact Nat.ne_of_lt (Nat.lt_of_lt_of_le (by have := World.block_lt_of_cell? _ _ hw203_0; first | rwa [add_block] at this | exact this) GW194.out)) | (show (Addr.add _ _).block ≠ _; rw [add_block]; exact Nat.ne_of_lt (Nat.lt_of_lt_of_le (by have := World.block_lt_of_cell? _ _ hw203_0; first | rwa [add_block] at this | exact this) GW194.out)) | (dsimp only; exact Nat.ne_of_lt (Nat.lt_of_lt_of_le (by have := World.block_lt_of_cell? _ _ hw203_0; first | rwa [add_block] at this | exact this) GW194.out))) _).trans (hHeld))))) (fun hHeld => ?_)
                                    clear hK K
                                    refine pure_ (i := 11) (N := some 3) (v := ?_) (a' := ?_) #[true, true, true, true, true, true, true, true, true, true, true, true, false] rfl rfl (any_of HT_.out (by kernel_rfl)) (fun _ _ _ h => h) (Or.inl ⟨by rfl, ?_⟩) ?_ ?_
                                    rotate_left
                                    · intro w'
                                      go_simp
                                      with_reducible rfl
                                    rotate_left
                                    · simp only [Act.put, List.setIfInBounds_toArray, List.set_cons_zero, List.set_cons_succ, i64_w, i32_w]
                                      rfl
                                    refine pure_ (i := 12) (N := some 4) (v := ?_) (a' := ?_) #[true, true, true, true, true, true, true, true, true, true, true, true, true] rfl rfl (any_of HT_.out (by kernel_rfl)) (fun _ _ _ h => h) (Or.inl ⟨by rfl, ?_⟩) ?_ ?_
                                    rotate_left
                                    · intro w'
                                      go_simp
                                      with_reducible rfl
                                    rotate_left
                                    · simp only [Act.put, List.setIfInBounds_toArray, List.set_cons_zero, List.set_cons_succ, i64_w, i32_w]
                                      rfl
                                    refine done_ (done_of HT_.out (by kernel_rfl)) ?_
                                    try go_wp2
                                    refine bodyPost_ret (results_ctt rfl _ _ gb194 26 #[.int .i64 (wrap64 (rd l0 4)), .slice Ao36 y205.length co36] (0, 0) _ rfl (by (with_reducible repeat (first | refine blk_drewN ?_ _ | refine blk_drew ?_ | refine blk_alloc ?_ _)); refine blk_put (cs := #[.int .i64 (wrap64 (rd l0 4)), .slice none 0 0]) ?_ 1 _ rfl; (with_reducible repeat (first | refine blk_drewN ?_ _ | refine blk_drew ?_ | refine blk_alloc ?_ _)); refine blk_put (cs := #[.int .i64 x195000_1, .slice none 0 0]) ?_ 0 _ rfl; (with_reducible repeat (first | refine blk_drewN ?_ _ | refine blk_drew ?_ | refine blk_alloc ?_ _)); exact BK194.out) Try.underlying26 rfl (by kernel_rfl)) rfl ?_
                                    exact ⟨_, by first | rfl | (simp [errW_none, errW_some] <;> rfl) | (simp only [← hji2]; first | rfl | (simp [errW_none, errW_some] <;> rfl)) | (simp [*, errW_none, errW_some] <;> rfl), by (with_reducible repeat (first | apply Kd.R_alloc | apply Kd.R_drewN | apply Kd.R_drew)); exact Kd.R_mono (Kd.R_far (p := ⟨gb194, 1, none⟩) (Kd.R_far (p := ⟨gb194, 0, none⟩) (Kd.R_types HO207.out BK194.out (by decide)) (fun _ hk => hk.2) (.int .i64 (wrap64 (rd l0 4)))) (fun _ hk => hk.2) (.slice Ao36 y205.length co36)) (fun _ hk => trivial), bb_⟩
                                  · rw [if_neg c32] at H
                                    exact absurd H (by simp)
                                · rw [if_neg c31] at H
                                  exact absurd H (by simp)
                              · rw [if_neg c30] at H
                                exact absurd H (by simp)
                            · rw [if_neg c29] at H
                              exact absurd H (by simp)
                  · replace c18 := Bool.eq_false_iff.mpr c18
                    subst c18
                    have H1 : (some (0, ([] : List Int), 0, 2)) = some (r1, r2, r3, r4) := by rw [if_neg (show ¬ (false = true) by decide)] at H; exact H
                    clear H
                    have H := H1
                    clear H1
                    simp only [Option.some.injEq, Prod.mk.injEq] at H
                    obtain ⟨rfl, rfl, rfl, rfl⟩ := H
                    obtain ⟨i039, hi039, _, hsz39, _⟩ := info_parts info5
                    obtain ⟨A39, hcut39, hA39, hC39⟩ := print_mid_of (P := Try.prog) (Value.int .u8) 0 22 5 .i64 .i64 Try.underlying22 hi039 hsz39 A0 c0 l0 2 4 (by omega) (by first | omega | exact of_decide_eq_true as_) (of_decide_eq_true as_) HC0.out
                    have HR197 := Aside0.mk (Kd.C_of_reads (h1 := fun _ => rfl) (hA39 _ (Kd.reads_of_C HR0.out)))
                    have HC197 := Aside0.mk hC39
                    clear hA39 hC39 hi039 hsz39
                    go_wp2_with (first | ((with_reducible refine gate_callee (f := 22) rfl ?_); refine goesL_ (some 28) rfl rfl Try.func22 (by kernel_rfl) rfl #[.slice A39 ((l0.take 4).drop 2).length (c0 - 2)] rfl (by (try simp only [List.map_toArray, List.map_cons, List.map_nil]); first | done | (rw [show ((l0.take 4).drop 2).length = (4 - 2) from (by rw [List.length_drop, List.length_take]; have h_ : (4 : Int) ≤ (l0.length : Int) := of_decide_eq_true as_; omega)] <;> rfl) | rfl | (simp only [List.length_drop, List.length_take]; rfl)) ?_; (with_reducible refine (impl_numberOf.calls k1 _ _ ((l0.take 4).drop 2) t198 _ ?side1 ?side2 A16.out).mono ?_); (case side1 => exact kc_ (Kd.C_below HR197.out HB.out)); (case side2 => exact HC197.out); rintro e w' ⟨rfl, ⟨nd, rfl⟩⟩; refine ⟨_, rfl, ?_⟩; (try (rw [drewN_self wr]; generalize hq_ : World.drewN wr _ = wr; have n0_ : Aside0 (wr.heap[gb194]? = some (.cells #[.int .i64 x195000_1, .slice none 0 0] 26 (0, 0))) := ⟨by rw [← hq_]; exact (by (with_reducible repeat (first | refine blk_drewN ?_ _ | refine blk_drew ?_ | refine blk_alloc ?_ _)); exact BK194.out)⟩; have n1_ : Aside0 (Below w.heap.size w wr) := ⟨by rw [← hq_]; exact bb_⟩; clear BK194 HB hq_; have BK194 := n0_; have HB := n1_; clear n0_ n1_)); have hczq194_0 := blk_cell BK194.out 0; simp only [List.getElem?_toArray, List.getElem?_cons_zero, List.getElem?_cons_succ] at hczq194_0; have hfzq194_0 := blk_frozen BK194.out 0; have hczq194_1 := blk_cell BK194.out 1; simp only [List.getElem?_toArray, List.getElem?_cons_zero, List.getElem?_cons_succ] at hczq194_1; have hfzq194_1 := blk_frozen BK194.out 1) | ((with_reducible refine gate_callee (f := 14) rfl ?_); refine goe_ (some 31) Try.func14 #[.int .i64 t198, .int .i64 5, .int .i64 125] ?_; (with_reducible refine (impl_in.calls t198 5 125 false _ A17.out).mono ?_); rintro e w' ⟨rfl, ⟨nd, rfl⟩⟩; refine ⟨_, rfl, ?_⟩; (try (rw [drewN_self wr]; generalize hq_ : World.drewN wr _ = wr; have n0_ : Aside0 (wr.heap[gb194]? = some (.cells #[.int .i64 x195000_1, .slice none 0 0] 26 (0, 0))) := ⟨by rw [← hq_]; exact (by (with_reducible repeat (first | refine blk_drewN ?_ _ | refine blk_drew ?_ | refine blk_alloc ?_ _)); exact BK194.out)⟩; have n1_ : Aside0 (Below w.heap.size w wr) := ⟨by rw [← hq_]; exact bb_⟩; clear BK194 HB hq_; have BK194 := n0_; have HB := n1_; clear n0_ n1_)); obtain ⟨hcz40_0, hcz40_1, hfz40_0, hfz40_1⟩ := cf2_ BK194))
                    refine bodyPost_ret (results_ctt rfl _ _ gb194 26 #[.int .i64 0, .slice none 0 0] (0, 0) _ rfl (by (with_reducible repeat (first | refine blk_drewN ?_ _ | refine blk_drew ?_ | refine blk_alloc ?_ _)); refine blk_put (cs := #[.int .i64 0, .slice none 0 0]) ?_ 1 _ rfl; (with_reducible repeat (first | refine blk_drewN ?_ _ | refine blk_drew ?_ | refine blk_alloc ?_ _)); refine blk_put (cs := #[.int .i64 x195000_1, .slice none 0 0]) ?_ 0 _ rfl; (with_reducible repeat (first | refine blk_drewN ?_ _ | refine blk_drew ?_ | refine blk_alloc ?_ _)); exact BK194.out) Try.underlying26 rfl (by kernel_rfl)) rfl ?_
                    exact ⟨_, by first | rfl | (simp [errW_none, errW_some] <;> rfl) | (simp only [← hji2]; first | rfl | (simp [errW_none, errW_some] <;> rfl)) | (simp [*, errW_none, errW_some] <;> rfl), by first | exact Kd.R_nil _ _ _ _ _ | exact Kd.N_nil _ _ _ _ _ | exact Kd.V_nil _ _ _ _ _ | exact Kd.Q_nil _ _ _ _ _ | exact Kd.S_nil _ _ _ _ _, bb_⟩
                · rw [if_neg c15] at H
                  exact absurd H (by simp)
              · rw [if_neg c14] at H
                exact absurd H (by simp)
    · rw [if_neg c4] at H
      exact absurd H (by simp)
  · rw [if_neg c3] at H
    exact absurd H (by simp)
end Go.Proofs.Ytifkoddiodgfpaa.PFnFrames
