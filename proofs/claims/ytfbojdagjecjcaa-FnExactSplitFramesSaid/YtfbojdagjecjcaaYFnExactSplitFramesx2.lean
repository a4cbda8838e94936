/- The functions that the law FnExactSplitFrames reaches: each as a plain Lean function, with the proof that the call does what it says. -/
import Derived.Test.YtfbojdagjecjcaaYFnExactSplitFramesx0
import Derived.Test.YtfbojdagjecjcaaYFnExactSplitFramesx1
namespace Go.Proofs.Ytfbojdagjecjcaa.PFnExactSplitFrames
open Go.RowKit Go.Proofs.YtfbojdagjecjcaaW.PrintWords Go.Proofs.YtfbojdagjecjcaaW.PrintLast Go.Proofs.YtfbojdagjecjcaaW.PrintMore
attribute [local go_sem] max2_int min2_int max_two min_two max_three min_three max_four min_four
set_option linter.unusedVariables false
set_option linter.unusedSimpArgs false
def spec_SplitFrames.l0 : Nat → List Int → Int → Int → List (S91) → Option (Int × Int × (List (S91)))
  | 0, _, _, _, _ => none
  | k + 1, x0, x111000, x111001, x111002 => if 0 ≤ x111001 then (if x111001 ≤ (x0.length : Int) then ((spec_l1Head.f k (x0.drop (x111001 : Int).toNat)).bind fun t112 => (if t112 = 0 then (if ((x0.drop (x111001 : Int).toNat).length : Int) < 5 then (some (x111000, x111001, x111002)) else ((spec_l1Take.f k (x0.drop (x111001 : Int).toNat) 2 2).bind fun t113 => (if ((x0.drop (x111001 : Int).toNat).length : Int) < t113 then (some (x111000, x111001, x111002)) else (if 4 < ((x0.drop (x111001 : Int).toNat).length : Int) then ((some (([] : List Int) : List Int)).bind fun y115 => (if 5 ≤ t113 then (if t113 ≤ ((x0.drop (x111001 : Int).toNat).length : Int) then (if y115.length + (((x0.drop (x111001 : Int).toNat).take (t113 : Int).toNat).drop 5).length < 140737488355328 then (if x111002.length < 4398046511104 then (spec_SplitFrames.l0 k x0 x111000 (wrap64 (x111001 + t113)) (x111002 ++ [(⟨wrap64 (rd (x0.drop (x111001 : Int).toNat) 4), (y115 ++ (((x0.drop (x111001 : Int).toNat).take (t113 : Int).toNat).drop 5))⟩ : S91)])) else (none)) else (none)) else (none)) else (none))) else (none))))) else (some (t112, x111001, x111002)))) else (none)) else (none)
def spec_SplitFrames.f (k : Nat) (l0 : List Int) : Option (Int × Int × (List (S91))) := if (l0.length : Int) > 400 then (some (2, 0, ([] : List (S91)))) else (spec_SplitFrames.l0 k l0 0 0 ([] : List (S91)))
theorem spec_SplitFrames.mono_l : ∀ k, (∀ y0 y1 y2 y3, LeO (spec_SplitFrames.l0 k y0 y1 y2 y3) (spec_SplitFrames.l0 (k + 1) y0 y1 y2 y3))
  | 0 => fun _ _ _ _ r h => by simp [spec_SplitFrames.l0] at h
  | k + 1 => by
    have ih0 := spec_SplitFrames.mono_l k
    · intro y0 y1 y2 y3
      unfold spec_SplitFrames.l0
      repeat' first
      | (with_reducible exact ih0 _ _ _ _)
      | (with_reducible exact spec_l1Head.mono _ _)
      | (with_reducible exact spec_l1Take.mono _ _ _ _)
      | (with_reducible exact LeO.refl _)
      | (with_reducible exact LeO.none _)
      | (with_reducible refine LeO.ite ?_ ?_)
      | (with_reducible refine LeO.bind ?_ (fun _ => ?_))
      | exact ih0 _ _ _ _
      | exact spec_l1Head.mono _ _
      | exact spec_l1Take.mono _ _ _ _
      | exact LeO.none _
      | refine LeO.ite ?_ ?_
      | refine LeO.bind ?_ (fun _ => ?_)
theorem spec_SplitFrames.mono : ∀ a0 k, LeO (spec_SplitFrames.f k a0) (spec_SplitFrames.f (k + 1) a0) := by
  intro a0 k
  have ih0 := spec_SplitFrames.mono_l k
  unfold spec_SplitFrames.f
  repeat' first
      | (with_reducible exact ih0 _ _ _ _)
      | (with_reducible exact spec_l1Head.mono _ _)
      | (with_reducible exact spec_l1Take.mono _ _ _ _)
      | (with_reducible exact LeO.refl _)
      | (with_reducible exact LeO.none _)
      | (with_reducible refine LeO.ite ?_ ?_)
      | (with_reducible refine LeO.bind ?_ (fun _ => ?_))
      | exact ih0 _ _ _ _
      | exact spec_l1Head.mono _ _
      | exact spec_l1Take.mono _ _ _ _
      | exact LeO.none _
      | refine LeO.ite ?_ ?_
      | refine LeO.bind ?_ (fun _ => ?_)
def spec_SplitFrames.T14 : Bool × List (List Nat × List Nat) := (true, [([], []), ([0], [0]), ([], []), ([2], [2]), ([3], [3]), ([4], [4]), ([], []), ([], []), ([], []), ([7, 8], [7, 8]), ([6, 9], [6, 9]), ([5, 10], [5, 10]), ([11], [11]), ([1, 12, 10], [1, 12]), ([0, 1, 2, 3, 4, 5, 6, 7, 8, 9, 10, 11, 12, 13], []), ([14, 13, 13, 0, 1, 2, 3, 4, 5, 6, 7, 8, 9, 10, 11, 12, 13], [13, 14])])
def spec_SplitFrames.B14 : List Nat := [0, 1, 0, 4, 12, 28, 0, 0, 0, 384, 960, 2044, 4092, 8191, 16383, 32767]
theorem spec_SplitFrames.tab14 : rtab .any (opsOf Try.f25 14) = spec_SplitFrames.T14 := by kernel_rfl
theorem spec_SplitFrames.bits14 : waitsOk spec_SplitFrames.T14.2 spec_SplitFrames.B14 = true := by kernel_rfl
set_option maxHeartbeats 8000000 in
set_option maxRecDepth 100000 in
theorem spec_SplitFrames.calls (k : Nat) (A0 : Option Addr) (c0 : Nat) (l0 : List Int) (r1 : Int) (r2 : Int) (r3 : List (S91)) (w : World) (hr0 : Kd.C (Kd.int .u8) w A0 l0.length l0) (hc0 : l0.length ≤ c0) (h : spec_SplitFrames.f k l0 = some (r1, r2, r3)) :
    Calls Try.prog 25 #[.slice A0 l0.length c0] w fun e w' => ∃ v2_ : Value, e = .returned (.agg #[.int .i64 r1, .int .i64 r2, v2_]) ∧ Kd.S k91 91 w' w.heap.size (fun _ => True) v2_ r3 ∧ Below w.heap.size w w' := by
  have hu46 := Try.underlying46
  have hu91 := Try.underlying91
  have HR0 := Aside0.mk hr0
  have HC0 := Aside0.mk hc0
  clear hr0 hc0
  have HB := Aside0.mk (Below.refl w.heap.size w)
  have H : (if (l0.length : Int) > 400 then (some (2, 0, ([] : List (S91)))) else (spec_SplitFrames.l0 k l0 0 0 ([] : List (S91)))) = some (r1, r2, r3) := h
  clear h
  by_cases c2 : (l0.length : Int) > 400
  · rw [if_pos c2] at H
    have c2b0 : decide (400 < (l0.length : Int)) = true := decide_eq_true c2
    have c2b1 : decide (400 < l0.length) = true := decide_eq_true (by omega)
    clear c2
    simp only [Option.some.injEq, Prod.mk.injEq] at H
    obtain ⟨rfl, rfl, rfl⟩ := H
    go_enter Try.func25, Try.ntmps25
    go_wp2_with (first | ((with_reducible refine gate_dst (N := 2) rfl ?_); refine box_e_ 2 #[.int .i64 0, .int .i64 0, .slice none 0 0] 46 ?_; intro gb109 hg w3 hbox hb; have BK109 := Aside0.mk (hbox); have GW109 := (bs_ hg : Aside0 (w.heap.size ≤ _)); have GE109 := (bs_ hg : Aside0 (w.heap.size ≤ _)); replace HB := Aside0.mk (below_step bb_ hb); clear hb hbox hg; obtain ⟨hcz4_0, hcz4_1, hcz4_2, hfz4_0, hfz4_1, hfz4_2⟩ := cf3_ BK109))
    refine bodyPost_ret (results_cell_row rfl _ _ gb109 46 #[.int .i64 2, .int .i64 0, .slice none 0 0] (0, 0) _ rfl (by (with_reducible repeat (first | refine blk_drewN ?_ _ | refine blk_drew ?_ | refine blk_alloc ?_ _)); refine blk_put (cs := #[.int .i64 2, .int .i64 0, .slice none 0 0]) ?_ 2 _ rfl; (with_reducible repeat (first | refine blk_drewN ?_ _ | refine blk_drew ?_ | refine blk_alloc ?_ _)); refine blk_put (cs := #[.int .i64 2, .int .i64 0, .slice none 0 0]) ?_ 1 _ rfl; (with_reducible repeat (first | refine blk_drewN ?_ _ | refine blk_drew ?_ | refine blk_alloc ?_ _)); refine blk_put (cs := #[.int .i64 0, .int .i64 0, .slice none 0 0]) ?_ 0 _ rfl; (with_reducible repeat (first | refine blk_drewN ?_ _ | refine blk_drew ?_ | refine blk_alloc ?_ _)); exact BK109.out) Try.underlying46 rfl (by kernel_rfl)) rfl ?_
    exact ⟨_, er_, by first | exact Kd.S_nil _ _ _ _ _ | exact Kd.N_nil _ _ _ _ _ | exact Kd.V_nil _ _ _ _ _ | exact Kd.Q_nil _ _ _ _ _ | exact Kd.R_nil _ _ _ _ _, bb_⟩
  · rw [if_neg c2] at H
    have c2b0 : decide (400 < (l0.length : Int)) = false := decide_eq_false c2
    have c2b1 : decide (400 < l0.length) = false := decide_eq_false (by omega)
    clear c2
    have H' := Aside0.mk H
    clear H
    go_enter Try.func25, Try.ntmps25
    go_wp2_with (first | ((with_reducible refine gate_dst (N := 2) rfl ?_); refine box_e_ 2 #[.int .i64 0, .int .i64 0, .slice none 0 0] 46 ?_; intro gb109 hg w5 hbox hb; have BK109 := Aside0.mk (hbox); have GW109 := (bs_ hg : Aside0 (w.heap.size ≤ _)); have GE109 := (bs_ hg : Aside0 (w.heap.size ≤ _)); replace HB := Aside0.mk (below_step bb_ hb); clear hb hbox hg) | ((with_reducible refine gate_dst (N := 3) rfl ?_); refine box_e_ 3 #[.int .i64 0, .int .i64 0, .slice none 0 0] 46 ?_; intro gb110 hg w6 hbox hb; have BK110 := Aside0.mk (hbox); have GW110 := (bs_ hg : Aside0 (w.heap.size ≤ _)); have GE110 := (bs_ hg : Aside0 (w.heap.size ≤ _)); replace HB := Aside0.mk (below_step bb_ hb); have NB109_110 := (nl_ hg BK109 : Aside0 (gb109 ≠ gb110)); have NB110_109 := (nr_ hg BK109 : Aside0 (gb110 ≠ gb109)); replace BK109 := Aside0.mk (blk_below (kb_ BK109) hb); clear hb hbox hg; have hnb7 := NB110_109.out; have hnc7 := NB109_110.out; obtain ⟨hcz8_0, hcz8_1, hcz8_2, hfz8_0, hfz8_1, hfz8_2⟩ := cf3_ BK110))
    go_loopg [] k (fun kq w' => ∃ (x110000_1 : Int) (x110001_1 : Int) (x111000_1 : Int) (x111001_1 : Int) (x111002_1 : List (S91)) (u111002 : Value), Aside0 (spec_SplitFrames.l0 kq l0 x111000_1 x111001_1 x111002_1 = some (r1, r2, r3)) ∧ Aside0 (kq ≤ k) ∧ Aside0 (Kd.S k91 91 w' w.heap.size (fun _ => True) u111002 x111002_1) ∧ Aside0 (w'.heap[gb109]? = some (.cells #[.int .i64 x110000_1, .int .i64 x110001_1, (.slice none 0 0)] 46 (0, 0))) ∧ Aside0 (w'.heap[gb110]? = some (.cells #[.int .i64 x111000_1, .int .i64 x111001_1, u111002] 46 (0, 0))) ∧ Aside0 (Below w.heap.size w w'))
    case atStart => exact ⟨(0), (0), (0), (0), (([] : List (S91))), (.slice none 0 0), H', ⟨Nat.le_refl _⟩, ⟨by first | exact Kd.S_nil _ _ _ _ _ | exact Kd.N_nil _ _ _ _ _ | exact Kd.V_nil _ _ _ _ _ | exact Kd.Q_nil _ _ _ _ _ | exact Kd.R_nil _ _ _ _ _⟩, ⟨by (with_reducible repeat (first | refine blk_drewN ?_ _ | refine blk_drew ?_ | refine blk_alloc ?_ _)); refine blk_far ?_ NB109_110.out _; (with_reducible repeat (first | refine blk_drewN ?_ _ | refine blk_drew ?_ | refine blk_alloc ?_ _)); refine blk_far ?_ NB109_110.out _; (with_reducible repeat (first | refine blk_drewN ?_ _ | refine blk_drew ?_ | refine blk_alloc ?_ _)); refine blk_far ?_ NB109_110.out _; (with_reducible repeat (first | refine blk_drewN ?_ _ | refine blk_drew ?_ | refine blk_alloc ?_ _)); exact BK109.out⟩, ⟨by (with_reducible repeat (first | refine blk_drewN ?_ _ | refine blk_drew ?_ | refine blk_alloc ?_ _)); refine blk_put (cs := #[.int .i64 0, .int .i64 0, .slice none 0 0]) ?_ 2 _ rfl; (with_reducible repeat (first | refine blk_drewN ?_ _ | refine blk_drew ?_ | refine blk_alloc ?_ _)); refine blk_put (cs := #[.int .i64 0, .int .i64 0, .slice none 0 0]) ?_ 1 _ rfl; (with_reducible repeat (first | refine blk_drewN ?_ _ | refine blk_drew ?_ | refine blk_alloc ?_ _)); refine blk_put (cs := #[.int .i64 0, .int .i64 0, .slice none 0 0]) ?_ 0 _ rfl; (with_reducible repeat (first | refine blk_drewN ?_ _ | refine blk_drew ?_ | refine blk_alloc ?_ _)); exact BK110.out⟩, ⟨bb_⟩⟩
    case round =>
      clear H'
      try clear c2
      try clear c2b0
      try clear c2b1
      try clear p2
      try clear c7
      try clear hcz4_0
      try clear hcz4_1
      try clear hcz4_2
      try clear hcz8_0
      try clear hcz8_1
      try clear hcz8_2
      try clear hfz4_0
      try clear hfz4_1
      try clear hfz4_2
      try clear hfz8_0
      try clear hfz8_1
      try clear hfz8_2
      obtain ⟨x110000_1, x110001_1, x111000_1, x111001_1, x111002_1, u111002, HA, HK1, HO_111002, BK109, BK110, HB⟩ := hrel
      cases gk with
      | zero => exact absurd HA.out (by simp [spec_SplitFrames.l0])
      | succ k1 =>
        have H := HA.out
        clear HA
        simp only [spec_SplitFrames.l0] at H
        by_cases c9 : 0 ≤ x111001_1
        · rw [if_pos c9] at H
          have c9b0 := eq_true c9
          have c9b1 : decide (0 ≤ x111001_1) = true := decide_eq_true c9
          clear c9
          by_cases c10 : x111001_1 ≤ (l0.length : Int)
          · rw [if_pos c10] at H
            have c10b0 := eq_true c10
            have c10b1 : decide (x111001_1 ≤ (l0.length : Int)) = true := decide_eq_true c10
            clear c10
            replace H := Option.bind_eq_some_iff.mp H
            obtain ⟨t112, A110, H⟩ := H
            replace H : (if t112 = 0 then (if ((l0.drop (x111001_1 : Int).toNat).length : Int) < 5 then (some (x111000_1, x111001_1, x111002_1)) else ((spec_l1Take.f k1 (l0.drop (x111001_1 : Int).toNat) 2 2).bind fun t113 => (if ((l0.drop (x111001_1 : Int).toNat).length : Int) < t113 then (some (x111000_1, x111001_1, x111002_1)) else (if 4 < ((l0.drop (x111001_1 : Int).toNat).length : Int) then ((some (([] : List Int) : List Int)).bind fun y115 => (if 5 ≤ t113 then (if t113 ≤ ((l0.drop (x111001_1 : Int).toNat).length : Int) then (if y115.length + (((l0.drop (x111001_1 : Int).toNat).take (t113 : Int).toNat).drop 5).length < 140737488355328 then (if x111002_1.length < 4398046511104 then (spec_SplitFrames.l0 k1 l0 x111000_1 (wrap64 (x111001_1 + t113)) (x111002_1 ++ [(⟨wrap64 (rd (l0.drop (x111001_1 : Int).toNat) 4), (y115 ++ (((l0.drop (x111001_1 : Int).toNat).take (t113 : Int).toNat).drop 5))⟩ : S91)])) else (none)) else (none)) else (none)) else (none))) else (none))))) else (some (t112, x111001_1, x111002_1))) = some (r1, r2, r3) := H
            have A11 := Aside0.mk A110
            clear A110
            by_cases c12 : t112 = 0
            · rw [if_pos c12] at H
              have c12b0 : (t112 == 0) = true := beq_iff_eq.mpr c12
              have c12b1 : (t112 != 0) = false := bne_eq_false_iff_eq.mpr c12
              clear c12
              by_cases c13 : ((l0.drop (x111001_1 : Int).toNat).length : Int) < 5
              · rw [if_pos c13] at H
                have c13b0 : decide (((l0.drop (x111001_1 : Int).toNat).length : Int) < 5) = true := decide_eq_true c13
                (try (have c13b0d := c13b0; simp only [List.length_drop, List.length_take] at c13b0d))
                have c13b1 : decide ((l0.drop (x111001_1 : Int).toNat).length < 5) = true := decide_eq_true (by omega)
                (try (have c13b1d := c13b1; simp only [List.length_drop, List.length_take] at c13b1d))
                clear c13
                simp only [Option.some.injEq, Prod.mk.injEq] at H
                obtain ⟨rfl, rfl, rfl⟩ := H
                have hnb14 := NB110_109.out
                have hnc14 := NB109_110.out
                obtain ⟨hcz15_0, hcz15_1, hcz15_2, hfz15_0, hfz15_1, hfz15_2⟩ := cf3_ BK110
                obtain ⟨i016, hi016, _, hsz16, _⟩ := info_parts info5
                obtain ⟨A16, hcut16, hA16, hC16⟩ := print_drop_of (P := Try.prog) (Value.int .u8) 0 43 5 .i64 Try.underlying43 hi016 hsz16 A0 c0 l0 x111001_1 (of_decide_eq_true as_) (of_decide_eq_true as_) HC0.out
                have HR111 := Aside0.mk (Kd.C_of_reads (h1 := fun _ => rfl) (hA16 _ (Kd.reads_of_C HR0.out)))
                have HC111 := Aside0.mk hC16
                clear hA16 hC16 hi016 hsz16
                generalize hdl16_ : (l0.drop (x111001_1 : Int).toNat) = dl16_ at *
                go_wp2_with (first | ((with_reducible refine gate_callee (f := 90) rfl ?_); refine goesL_ (some 17) rfl rfl Try.func90 (by kernel_rfl) rfl #[.slice A16 dl16_.length (c0 - x111001_1.toNat)] rfl (by (try simp only [List.map_toArray, List.map_cons, List.map_nil]); first | done | (rw [show dl16_.length = (l0.length - x111001_1.toNat) from List.length_drop] <;> rfl) | rfl | (simp only [List.length_drop, List.length_take]; rfl)) ?_; (with_reducible refine (spec_l1Head.calls k1 _ _ dl16_ t112 _ ?side1 ?side2 A11.out).mono ?_); (case side1 => exact kc_ (Kd.C_below HR111.out HB.out)); (case side2 => exact HC111.out); rintro e w' ⟨rfl, ⟨nd, rfl⟩⟩; refine ⟨_, rfl, ?_⟩; (try (rw [drewN_self wr]; generalize hq_ : World.drewN wr _ = wr; have n0_ : Aside0 (Kd.S k91 91 wr w.heap.size (fun _ => True) u111002 x111002_1) := ⟨by rw [← hq_]; exact (by (with_reducible repeat (first | apply Kd.S_alloc | apply Kd.S_drewN | apply Kd.S_drew)); exact HO_111002.out)⟩; have n1_ : Aside0 (wr.heap[gb109]? = some (.cells #[.int .i64 x110000_1, .int .i64 x110001_1, .slice none 0 0] 46 (0, 0))) := ⟨by rw [← hq_]; exact (by (with_reducible repeat (first | refine blk_drewN ?_ _ | refine blk_drew ?_ | refine blk_alloc ?_ _)); exact BK109.out)⟩; have n2_ : Aside0 (wr.heap[gb110]? = some (.cells #[.int .i64 x111000_1, .int .i64 x111001_1, u111002] 46 (0, 0))) := ⟨by rw [← hq_]; exact (by (with_reducible repeat (first | refine blk_drewN ?_ _ | refine blk_drew ?_ | refine blk_alloc ?_ _)); exact BK110.out)⟩; have n3_ : Aside0 (Below w.heap.size w wr) := ⟨by rw [← hq_]; exact bb_⟩; clear HO_111002 BK109 BK110 HB hq_; have HO_111002 := n0_; have BK109 := n1_; have BK110 := n2_; have HB := n3_; clear n0_ n1_ n2_ n3_)); obtain ⟨hcz17_0, hcz17_1, hcz17_2, hfz17_0, hfz17_1, hfz17_2⟩ := cf3_ BK109; obtain ⟨Ao18, co18, eo18⟩ := Kd.S_slice HO_111002.out; subst eo18; have hczq110_0 := blk_cell BK110.out 0; simp only [List.getElem?_toArray, List.getElem?_cons_zero, List.getElem?_cons_succ] at hczq110_0; have hfzq110_0 := blk_frozen BK110.out 0; have hczq110_1 := blk_cell BK110.out 1; simp only [List.getElem?_toArray, List.getElem?_cons_zero, List.getElem?_cons_succ] at hczq110_1; have hfzq110_1 := blk_frozen BK110.out 1; have hczq110_2 := blk_cell BK110.out 2; simp only [List.getElem?_toArray, List.getElem?_cons_zero, List.getElem?_cons_succ] at hczq110_2; have hfzq110_2 := blk_frozen BK110.out 2))
                refine bodyPost_ret (results_cell_row rfl _ _ gb109 46 #[.int .i64 x111000_1, .int .i64 x111001_1, .slice Ao18 x111002_1.length co18] (0, 0) _ rfl (by (with_reducible repeat (first | refine blk_drewN ?_ _ | refine blk_drew ?_ | refine blk_alloc ?_ _)); refine blk_put (cs := #[.int .i64 x111000_1, .int .i64 x111001_1, .slice none 0 0]) ?_ 2 _ rfl; (with_reducible repeat (first | refine blk_drewN ?_ _ | refine blk_drew ?_ | refine blk_alloc ?_ _)); refine blk_put (cs := #[.int .i64 x111000_1, .int .i64 x110001_1, .slice none 0 0]) ?_ 1 _ rfl; (with_reducible repeat (first | refine blk_drewN ?_ _ | refine blk_drew ?_ | refine blk_alloc ?_ _)); refine blk_put (cs := #[.int .i64 x110000_1, .int .i64 x110001_1, .slice none 0 0]) ?_ 0 _ rfl; (with_reducible repeat (first | refine blk_drewN ?_ _ | refine blk_drew ?_ | refine blk_alloc ?_ _)); exact BK109.out) Try.underlying46 rfl (by kernel_rfl)) rfl ?_
                exact ⟨_, er_, by (with_reducible repeat (first | apply Kd.S_alloc | apply Kd.S_drewN | apply Kd.S_drew)); exact Kd.S_mono (Kd.S_far (p := ⟨gb109, 2, none⟩) (Kd.S_far (p := ⟨gb109, 1, none⟩) (Kd.S_far (p := ⟨gb109, 0, none⟩) (Kd.S_types HO_111002.out BK109.out (by decide)) (fun _ hk => hk.2) (.int .i64 x111000_1)) (fun _ hk => hk.2) (.int .i64 x111001_1)) (fun _ hk => hk.2) (.slice Ao18 x111002_1.length co18)) (fun _ hk => trivial), bb_⟩
              · rw [if_neg c13] at H
                have c13b0 : decide (((l0.drop (x111001_1 : Int).toNat).length : Int) < 5) = false := decide_eq_false c13
                (try (have c13b0d := c13b0; simp only [List.length_drop, List.length_take] at c13b0d))
                have c13b1 : decide ((l0.drop (x111001_1 : Int).toNat).length < 5) = false := decide_eq_false (by omega)
                (try (have c13b1d := c13b1; simp only [List.length_drop, List.length_take] at c13b1d))
                clear c13
                replace H := Option.bind_eq_some_iff.mp H
                obtain ⟨t113, A190, H⟩ := H
                replace H : (if ((l0.drop (x111001_1 : Int).toNat).length : Int) < t113 then (some (x111000_1, x111001_1, x111002_1)) else (if 4 < ((l0.drop (x111001_1 : Int).toNat).length : Int) then ((some (([] : List Int) : List Int)).bind fun y115 => (if 5 ≤ t113 then (if t113 ≤ ((l0.drop (x111001_1 : Int).toNat).length : Int) then (if y115.length + (((l0.drop (x111001_1 : Int).toNat).take (t113 : Int).toNat).drop 5).length < 140737488355328 then (if x111002_1.length < 4398046511104 then (spec_SplitFrames.l0 k1 l0 x111000_1 (wrap64 (x111001_1 + t113)) (x111002_1 ++ [(⟨wrap64 (rd (l0.drop (x111001_1 : Int).toNat) 4), (y115 ++ (((l0.drop (x111001_1 : Int).toNat).take (t113 : Int).toNat).drop 5))⟩ : S91)])) else (none)) else (none)) else (none)) else (none))) else (none))) = some (r1, r2, r3) := H
                have A19 := Aside0.mk A190
                clear A190
                by_cases c20 : ((l0.drop (x111001_1 : Int).toNat).length : Int) < t113
                · rw [if_pos c20] at H
                  have c20b0 : decide (((l0.drop (x111001_1 : Int).toNat).length : Int) < t113) = true := decide_eq_true c20
                  (try (have c20b0d := c20b0; simp only [List.length_drop, List.length_take] at c20b0d))
                  clear c20
                  simp only [Option.some.injEq, Prod.mk.injEq] at H
                  obtain ⟨rfl, rfl, rfl⟩ := H
                  have hnb21 := NB110_109.out
                  have hnc21 := NB109_110.out
                  obtain ⟨hcz22_0, hcz22_1, hcz22_2, hfz22_0, hfz22_1, hfz22_2⟩ := cf3_ BK110
                  obtain ⟨i023, hi023, _, hsz23, _⟩ := info_parts info5
                  obtain ⟨A23, hcut23, hA23, hC23⟩ := print_drop_of (P := Try.prog) (Value.int .u8) 0 43 5 .i64 Try.underlying43 hi023 hsz23 A0 c0 l0 x111001_1 (of_decide_eq_true as_) (of_decide_eq_true as_) HC0.out
                  have HR111 := Aside0.mk (Kd.C_of_reads (h1 := fun _ => rfl) (hA23 _ (Kd.reads_of_C HR0.out)))
                  have HC111 := Aside0.mk hC23
                  clear hA23 hC23 hi023 hsz23
                  generalize hdl23_ : (l0.drop (x111001_1 : Int).toNat) = dl23_ at *
                  go_wp2_with (first | ((with_reducible refine gate_callee (f := 90) rfl ?_); refine goesL_ (some 17) rfl rfl Try.func90 (by kernel_rfl) rfl #[.slice A23 dl23_.length (c0 - x111001_1.toNat)] rfl (by (try simp only [List.map_toArray, List.map_cons, List.map_nil]); first | done | (rw [show dl23_.length = (l0.length - x111001_1.toNat) from List.length_drop] <;> rfl) | rfl | (simp only [List.length_drop, List.length_take]; rfl)) ?_; (with_reducible refine (spec_l1Head.calls k1 _ _ dl23_ t112 _ ?side1 ?side2 A11.out).mono ?_); (case side1 => exact kc_ (Kd.C_below HR111.out HB.out)); (case side2 => exact HC111.out); rintro e w' ⟨rfl, ⟨nd, rfl⟩⟩; refine ⟨_, rfl, ?_⟩; (try (rw [drewN_self wr]; generalize hq_ : World.drewN wr _ = wr; have n0_ : Aside0 (Kd.S k91 91 wr w.heap.size (fun _ => True) u111002 x111002_1) := ⟨by rw [← hq_]; exact (by (with_reducible repeat (first | apply Kd.S_alloc | apply Kd.S_drewN | apply Kd.S_drew)); exact HO_111002.out)⟩; have n1_ : Aside0 (wr.heap[gb109]? = some (.cells #[.int .i64 x110000_1, .int .i64 x110001_1, .slice none 0 0] 46 (0, 0))) := ⟨by rw [← hq_]; exact (by (with_reducible repeat (first | refine blk_drewN ?_ _ | refine blk_drew ?_ | refine blk_alloc ?_ _)); exact BK109.out)⟩; have n2_ : Aside0 (wr.heap[gb110]? = some (.cells #[.int .i64 x111000_1, .int .i64 x111001_1, u111002] 46 (0, 0))) := ⟨by rw [← hq_]; exact (by (with_reducible repeat (first | refine blk_drewN ?_ _ | refine blk_drew ?_ | refine blk_alloc ?_ _)); exact BK110.out)⟩; have n3_ : Aside0 (Below w.heap.size w wr) := ⟨by rw [← hq_]; exact bb_⟩; clear HO_111002 BK109 BK110 HB hq_; have HO_111002 := n0_; have BK109 := n1_; have BK110 := n2_; have HB := n3_; clear n0_ n1_ n2_ n3_)); have hczq109_0 := blk_cell BK109.out 0; simp only [List.getElem?_toArray, List.getElem?_cons_zero, List.getElem?_cons_succ] at hczq109_0; have hfzq109_0 := blk_frozen BK109.out 0; have hczq109_1 := blk_cell BK109.out 1; simp only [List.getElem?_toArray, List.getElem?_cons_zero, List.getElem?_cons_succ] at hczq109_1; have hfzq109_1 := blk_frozen BK109.out 1; have hczq109_2 := blk_cell BK109.out 2; simp only [List.getElem?_toArray, List.getElem?_cons_zero, List.getElem?_cons_succ] at hczq109_2; have hfzq109_2 := blk_frozen BK109.out 2; have hczq110_0 := blk_cell BK110.out 0; simp only [List.getElem?_toArray, List.getElem?_cons_zero, List.getElem?_cons_succ] at hczq110_0; have hfzq110_0 := blk_frozen BK110.out 0; have hczq110_1 := blk_cell BK110.out 1; simp only [List.getElem?_toArray, List.getElem?_cons_zero, List.getElem?_cons_succ] at hczq110_1; have hfzq110_1 := blk_frozen BK110.out 1; have hczq110_2 := blk_cell BK110.out 2; simp only [List.getElem?_toArray, List.getElem?_cons_zero, List.getElem?_cons_succ] at hczq110_2; have hfzq110_2 := blk_frozen BK110.out 2) | ((with_reducible refine gate_callee (f := 91) rfl ?_); refine goesL_ (some 28) rfl rfl Try.func91 (by kernel_rfl) rfl #[.slice A23 dl23_.length (c0 - x111001_1.toNat), .int .i64 2, .int .i64 2] rfl (by (try simp only [List.map_toArray, List.map_cons, List.map_nil]); first | done | (rw [show dl23_.length = (l0.length - x111001_1.toNat) from List.length_drop] <;> rfl) | rfl | (simp only [List.length_drop, List.length_take]; rfl)) ?_; (with_reducible refine (spec_l1Take.calls k1 _ _ dl23_ 2 2 t113 _ ?side1 ?side2 A19.out).mono ?_); (case side1 => exact kc_ (Kd.C_below HR111.out HB.out)); (case side2 => exact HC111.out); rintro e w' ⟨rfl, ⟨nd, rfl⟩⟩; refine ⟨_, rfl, ?_⟩; (try (rw [drewN_self wr]; generalize hq_ : World.drewN wr _ = wr; have n0_ : Aside0 (Kd.S k91 91 wr w.heap.size (fun _ => True) u111002 x111002_1) := ⟨by rw [← hq_]; exact (by (with_reducible repeat (first | apply Kd.S_alloc | apply Kd.S_drewN | apply Kd.S_drew)); exact HO_111002.out)⟩; have n1_ : Aside0 (wr.heap[gb109]? = some (.cells #[.int .i64 x110000_1, .int .i64 x110001_1, .slice none 0 0] 46 (0, 0))) := ⟨by rw [← hq_]; exact (by (with_reducible repeat (first | refine blk_drewN ?_ _ | refine blk_drew ?_ | refine blk_alloc ?_ _)); exact BK109.out)⟩; have n2_ : Aside0 (wr.heap[gb110]? = some (.cells #[.int .i64 x111000_1, .int .i64 x111001_1, u111002] 46 (0, 0))) := ⟨by rw [← hq_]; exact (by (with_reducible repeat (first | refine blk_drewN ?_ _ | refine blk_drew ?_ | refine blk_alloc ?_ _)); exact BK110.out)⟩; have n3_ : Aside0 (Below w.heap.size w wr) := ⟨by rw [← hq_]; exact bb_⟩; clear HO_111002 BK109 BK110 HB hq_; have HO_111002 := n0_; have BK109 := n1_; have BK110 := n2_; have HB := n3_; clear n0_ n1_ n2_ n3_)); obtain ⟨hcz24_0, hcz24_1, hcz24_2, hfz24_0, hfz24_1, hfz24_2⟩ := cf3_ BK109; obtain ⟨Ao25, co25, eo25⟩ := Kd.S_slice HO_111002.out; subst eo25; have hczq110_0 := blk_cell BK110.out 0; simp only [List.getElem?_toArray, List.getElem?_cons_zero, List.getElem?_cons_succ] at hczq110_0; have hfzq110_0 := blk_frozen BK110.out 0; have hczq110_1 := blk_cell BK110.out 1; simp only [List.getElem?_toArray, List.getElem?_cons_zero, List.getElem?_cons_succ] at hczq110_1; have hfzq110_1 := blk_frozen BK110.out 1; have hczq110_2 := blk_cell BK110.out 2; simp only [List.getElem?_toArray, List.getElem?_cons_zero, List.getElem?_cons_succ] at hczq110_2; have hfzq110_2 := blk_frozen BK110.out 2))
                  refine bodyPost_ret (results_cell_row rfl _ _ gb109 46 #[.int .i64 x111000_1, .int .i64 x111001_1, .slice Ao25 x111002_1.length co25] (0, 0) _ rfl (by (with_reducible repeat (first | refine blk_drewN ?_ _ | refine blk_drew ?_ | refine blk_alloc ?_ _)); refine blk_put (cs := #[.int .i64 x111000_1, .int .i64 x111001_1, .slice none 0 0]) ?_ 2 _ rfl; (with_reducible repeat (first | refine blk_drewN ?_ _ | refine blk_drew ?_ | refine blk_alloc ?_ _)); refine blk_put (cs := #[.int .i64 x111000_1, .int .i64 x110001_1, .slice none 0 0]) ?_ 1 _ rfl; (with_reducible repeat (first | refine blk_drewN ?_ _ | refine blk_drew ?_ | refine blk_alloc ?_ _)); refine blk_put (cs := #[.int .i64 x110000_1, .int .i64 x110001_1, .slice none 0 0]) ?_ 0 _ rfl; (with_reducible repeat (first | refine blk_drewN ?_ _ | refine blk_drew ?_ | refine blk_alloc ?_ _)); exact BK109.out) Try.underlying46 rfl (by kernel_rfl)) rfl ?_
                  exact ⟨_, er_, by (with_reducible repeat (first | apply Kd.S_alloc | apply Kd.S_drewN | apply Kd.S_drew)); exact Kd.S_mono (Kd.S_far (p := ⟨gb109, 2, none⟩) (Kd.S_far (p := ⟨gb109, 1, none⟩) (Kd.S_far (p := ⟨gb109, 0, none⟩) (Kd.S_types HO_111002.out BK109.out (by decide)) (fun _ hk => hk.2) (.int .i64 x111000_1)) (fun _ hk => hk.2) (.int .i64 x111001_1)) (fun _ hk => hk.2) (.slice Ao25 x111002_1.length co25)) (fun _ hk => trivial), bb_⟩
                · rw [if_neg c20] at H
                  have c20b0 : decide (((l0.drop (x111001_1 : Int).toNat).length : Int) < t113) = false := decide_eq_false c20
                  (try (have c20b0d := c20b0; simp only [List.length_drop, List.length_take] at c20b0d))
                  clear c20
                  by_cases c26 : 4 < ((l0.drop (x111001_1 : Int).toNat).length : Int)
                  · rw [if_pos c26] at H
                    have c26b0 : decide (4 < ((l0.drop (x111001_1 : Int).toNat).length : Int)) = true := decide_eq_true c26
                    (try (have c26b0d := c26b0; simp only [List.length_drop, List.length_take] at c26b0d))
                    have c26b1 : decide (4 < (l0.drop (x111001_1 : Int).toNat).length) = true := decide_eq_true (by omega)
                    (try (have c26b1d := c26b1; simp only [List.length_drop, List.length_take] at c26b1d))
                    clear c26
                    obtain ⟨y115, hy115⟩ : ∃ y_ : List Int, y_ = (([] : List Int)) := ⟨_, rfl⟩
                    replace H : (if 5 ≤ t113 then (if t113 ≤ ((l0.drop (x111001_1 : Int).toNat).length : Int) then (if y115.length + (((l0.drop (x111001_1 : Int).toNat).take (t113 : Int).toNat).drop 5).length < 140737488355328 then (if x111002_1.length < 4398046511104 then (spec_SplitFrames.l0 k1 l0 x111000_1 (wrap64 (x111001_1 + t113)) (x111002_1 ++ [(⟨wrap64 (rd (l0.drop (x111001_1 : Int).toNat) 4), (y115 ++ (((l0.drop (x111001_1 : Int).toNat).take (t113 : Int).toNat).drop 5))⟩ : S91)])) else (none)) else (none)) else (none)) else (none)) = some (r1, r2, r3) := by first | (rw [hy115]; with_reducible exact H) | (have H2_ := (Option.bind_some _ _).symm.trans H; rw [hy115]; with_reducible exact H2_) | (have H2_ := (Option.bind_some _ _).symm.trans H; with_reducible exact H2_) | with_reducible exact H | (rw [hy115]; exact H) | exact H
                    have Ny115 := Aside0.mk hy115
                    clear hy115
                    by_cases c27 : 5 ≤ t113
                    · rw [if_pos c27] at H
                      have c27b0 := eq_true c27
                      have c27b1 : decide (5 ≤ t113) = true := decide_eq_true c27
                      clear c27
                      by_cases c28 : t113 ≤ ((l0.drop (x111001_1 : Int).toNat).length : Int)
                      · rw [if_pos c28] at H
                        have c28b0 := eq_true c28
                        have c28b1 : decide (t113 ≤ ((l0.drop (x111001_1 : Int).toNat).length : Int)) = true := decide_eq_true c28
                        (try (have c28b1d := c28b1; simp only [List.length_drop, List.length_take] at c28b1d))
                        clear c28
                        by_cases c29 : y115.length + (((l0.drop (x111001_1 : Int).toNat).take (t113 : Int).toNat).drop 5).length < 140737488355328
                        · rw [if_pos c29] at H
                          have LMc29 := Aside0.mk c29
                          clear c29
                          obtain ⟨y119, hy119⟩ : ∃ y_ : List Int, y_ = (y115 ++ (((l0.drop (x111001_1 : Int).toNat).take (t113 : Int).toNat).drop 5)) := ⟨_, rfl⟩
                          replace H : (if x111002_1.length < 4398046511104 then (spec_SplitFrames.l0 k1 l0 x111000_1 (wrap64 (x111001_1 + t113)) (x111002_1 ++ [(⟨wrap64 (rd (l0.drop (x111001_1 : Int).toNat) 4), y119⟩ : S91)])) else (none)) = some (r1, r2, r3) := by first | (rw [hy119]; with_reducible exact H) | (have H2_ := (Option.bind_some _ _).symm.trans H; rw [hy119]; with_reducible exact H2_) | (have H2_ := (Option.bind_some _ _).symm.trans H; with_reducible exact H2_) | with_reducible exact H | (rw [hy119]; exact H) | exact H
                          have Ny119 := Aside0.mk hy119
                          clear hy119
                          by_cases c30 : x111002_1.length < 4398046511104
                          · rw [if_pos c30] at H
                            have LMc30 := Aside0.mk c30
                            clear c30
                            obtain ⟨y122, hy122⟩ : ∃ y_ : List (S91), y_ = (x111002_1 ++ [(⟨wrap64 (rd (l0.drop (x111001_1 : Int).toNat) 4), y119⟩ : S91)]) := ⟨_, rfl⟩
                            replace H : (spec_SplitFrames.l0 k1 l0 x111000_1 (wrap64 (x111001_1 + t113)) y122) = some (r1, r2, r3) := by first | (rw [hy122]; with_reducible exact H) | (have H2_ := (Option.bind_some _ _).symm.trans H; rw [hy122]; with_reducible exact H2_) | (have H2_ := (Option.bind_some _ _).symm.trans H; with_reducible exact H2_) | with_reducible exact H | (rw [hy122]; exact H) | exact H
                            have Ny122 := Aside0.mk hy122
                            clear hy122
                            have H' := Aside0.mk H
                            clear H
                            have hnb31 := NB110_109.out
                            have hnc31 := NB109_110.out
                            obtain ⟨hcz32_0, hcz32_1, hcz32_2, hfz32_0, hfz32_1, hfz32_2⟩ := cf3_ BK110
                            obtain ⟨i033, hi033, _, hsz33, _⟩ := info_parts info5
                            obtain ⟨A33, hcut33, hA33, hC33⟩ := print_drop_of (P := Try.prog) (Value.int .u8) 0 43 5 .i64 Try.underlying43 hi033 hsz33 A0 c0 l0 x111001_1 (of_decide_eq_true as_) (of_decide_eq_true as_) HC0.out
                            have HR111 := Aside0.mk (Kd.C_of_reads (h1 := fun _ => rfl) (hA33 _ (Kd.reads_of_C HR0.out)))
                            have HC111 := Aside0.mk hC33
                            clear hA33 hC33 hi033 hsz33
                            generalize hdl33_ : (l0.drop (x111001_1 : Int).toNat) = dl33_ at *
                            try go_wp2_with (first | ((with_reducible refine gate_callee (f := 90) rfl ?_); refine goesL_ (some 17) rfl rfl Try.func90 (by kernel_rfl) rfl #[.slice A33 dl33_.length (c0 - x111001_1.toNat)] rfl (by (try simp only [List.map_toArray, List.map_cons, List.map_nil]); first | done | (rw [show dl33_.length = (l0.length - x111001_1.toNat) from List.length_drop] <;> rfl) | rfl | (simp only [List.length_drop, List.length_take]; rfl)) ?_; (with_reducible refine (spec_l1Head.calls k1 _ _ dl33_ t112 _ ?side1 ?side2 A11.out).mono ?_); (case side1 => exact kc_ (Kd.C_below HR111.out HB.out)); (case side2 => exact HC111.out); rintro e w' ⟨rfl, ⟨nd, rfl⟩⟩; refine ⟨_, rfl, ?_⟩; (try (rw [drewN_self wr]; generalize hq_ : World.drewN wr _ = wr; have n0_ : Aside0 (Kd.S k91 91 wr w.heap.size (fun _ => True) u111002 x111002_1) := ⟨by rw [← hq_]; exact (by (with_reducible repeat (first | apply Kd.S_alloc | apply Kd.S_drewN | apply Kd.S_drew)); exact HO_111002.out)⟩; have n1_ : Aside0 (wr.heap[gb109]? = some (.cells #[.int .i64 x110000_1, .int .i64 x110001_1, .slice none 0 0] 46 (0, 0))) := ⟨by rw [← hq_]; exact (by (with_reducible repeat (first | refine blk_drewN ?_ _ | refine blk_drew ?_ | refine blk_alloc ?_ _)); exact BK109.out)⟩; have n2_ : Aside0 (wr.heap[gb110]? = some (.cells #[.int .i64 x111000_1, .int .i64 x111001_1, u111002] 46 (0, 0))) := ⟨by rw [← hq_]; exact (by (with_reducible repeat (first | refine blk_drewN ?_ _ | refine blk_drew ?_ | refine blk_alloc ?_ _)); exact BK110.out)⟩; have n3_ : Aside0 (Below w.heap.size w wr) := ⟨by rw [← hq_]; exact bb_⟩; clear HO_111002 BK109 BK110 HB hq_; have HO_111002 := n0_; have BK109 := n1_; have BK110 := n2_; have HB := n3_; clear n0_ n1_ n2_ n3_)); have hczq109_0 := blk_cell BK109.out 0; simp only [List.getElem?_toArray, List.getElem?_cons_zero, List.getElem?_cons_succ] at hczq109_0; have hfzq109_0 := blk_frozen BK109.out 0; have hczq109_1 := blk_cell BK109.out 1; simp only [List.getElem?_toArray, List.getElem?_cons_zero, List.getElem?_cons_succ] at hczq109_1; have hfzq109_1 := blk_frozen BK109.out 1; have hczq109_2 := blk_cell BK109.out 2; simp only [List.getElem?_toArray, List.getElem?_cons_zero, List.getElem?_cons_succ] at hczq109_2; have hfzq109_2 := blk_frozen BK109.out 2; have hczq110_0 := blk_cell BK110.out 0; simp only [List.getElem?_toArray, List.getElem?_cons_zero, List.getElem?_cons_succ] at hczq110_0; have hfzq110_0 := blk_frozen BK110.out 0; have hczq110_1 := blk_cell BK110.out 1; simp only [List.getElem?_toArray, List.getElem?_cons_zero, List.getElem?_cons_succ] at hczq110_1; have hfzq110_1 := blk_frozen BK110.out 1; have hczq110_2 := blk_cell BK110.out 2; simp only [List.getElem?_toArray, List.getElem?_cons_zero, List.getElem?_cons_succ] at hczq110_2; have hfzq110_2 := blk_frozen BK110.out 2) | ((with_reducible refine gate_callee (f := 91) rfl ?_); refine goesL_ (some 28) rfl rfl Try.func91 (by kernel_rfl) rfl #[.slice A33 dl33_.length (c0 - x111001_1.toNat), .int .i64 2, .int .i64 2] rfl (by (try simp only [List.map_toArray, List.map_cons, List.map_nil]); first | done | (rw [show dl33_.length = (l0.length - x111001_1.toNat) from List.length_drop] <;> rfl) | rfl | (simp only [List.length_drop, List.length_take]; rfl)) ?_; (with_reducible refine (spec_l1Take.calls k1 _ _ dl33_ 2 2 t113 _ ?side1 ?side2 A19.out).mono ?_); (case side1 => exact kc_ (Kd.C_below HR111.out HB.out)); (case side2 => exact HC111.out); rintro e w' ⟨rfl, ⟨nd, rfl⟩⟩; refine ⟨_, rfl, ?_⟩; (try (rw [drewN_self wr]; generalize hq_ : World.drewN wr _ = wr; have n0_ : Aside0 (Kd.S k91 91 wr w.heap.size (fun _ => True) u111002 x111002_1) := ⟨by rw [← hq_]; exact (by (with_reducible repeat (first | apply Kd.S_alloc | apply Kd.S_drewN | apply Kd.S_drew)); exact HO_111002.out)⟩; have n1_ : Aside0 (wr.heap[gb109]? = some (.cells #[.int .i64 x110000_1, .int .i64 x110001_1, .slice none 0 0] 46 (0, 0))) := ⟨by rw [← hq_]; exact (by (with_reducible repeat (first | refine blk_drewN ?_ _ | refine blk_drew ?_ | refine blk_alloc ?_ _)); exact BK109.out)⟩; have n2_ : Aside0 (wr.heap[gb110]? = some (.cells #[.int .i64 x111000_1, .int .i64 x111001_1, u111002] 46 (0, 0))) := ⟨by rw [← hq_]; exact (by (with_reducible repeat (first | refine blk_drewN ?_ _ | refine blk_drew ?_ | refine blk_alloc ?_ _)); exact BK110.out)⟩; have n3_ : Aside0 (Below w.heap.size w wr) := ⟨by rw [← hq_]; exact bb_⟩; clear HO_111002 BK109 BK110 HB hq_; have HO_111002 := n0_; have BK109 := n1_; have BK110 := n2_; have HB := n3_; clear n0_ n1_ n2_ n3_)); have hczq109_0 := blk_cell BK109.out 0; simp only [List.getElem?_toArray, List.getElem?_cons_zero, List.getElem?_cons_succ] at hczq109_0; have hfzq109_0 := blk_frozen BK109.out 0; have hczq109_1 := blk_cell BK109.out 1; simp only [List.getElem?_toArray, List.getElem?_cons_zero, List.getElem?_cons_succ] at hczq109_1; have hfzq109_1 := blk_frozen BK109.out 1; have hczq109_2 := blk_cell BK109.out 2; simp only [List.getElem?_toArray, List.getElem?_cons_zero, List.getElem?_cons_succ] at hczq109_2; have hfzq109_2 := blk_frozen BK109.out 2; have hczq110_0 := blk_cell BK110.out 0; simp only [List.getElem?_toArray, List.getElem?_cons_zero, List.getElem?_cons_succ] at hczq110_0; have hfzq110_0 := blk_frozen BK110.out 0; have hczq110_1 := blk_cell BK110.out 1; simp only [List.getElem?_toArray, List.getElem?_cons_zero, List.getElem?_cons_succ] at hczq110_1; have hfzq110_1 := blk_frozen BK110.out 1; have hczq110_2 := blk_cell BK110.out 2; simp only [List.getElem?_toArray, List.getElem?_cons_zero, List.getElem?_cons_succ] at hczq110_2; have hfzq110_2 := blk_frozen BK110.out 2))
                            have n0_ := Aside0.mk (Kd.S_drew HO_111002.out)
                            have n1_ := Aside0.mk (blk_drew BK109.out)
                            have n2_ := Aside0.mk (blk_drew BK110.out)
                            have n3_ := Aside0.mk (below_drew1 HB.out)
                            clear HO_111002
                            clear BK109
                            clear BK110
                            clear HB
                            have HO_111002 := n0_
                            have BK109 := n1_
                            have BK110 := n2_
                            have HB := n3_
                            clear n0_ n1_ n2_ n3_
                            have p114 : 0 ≤ (4 : Int) := (by omega)
                            have q114 : 4 < (dl33_.length : Int) := of_decide_eq_true as_
                            obtain ⟨ad114, e114, hx114_0⟩ := Kd.at_int HR111.out 4 p114 q114
                            have hw114_0 := hx114_0
                            (try rw [show ((4 : Int)).toNat = 4 from rfl] at hw114_0)
                            (try rw [show 4 * 1 = 4 from rfl] at hw114_0)
                            (try simp only [Nat.reduceMul, Nat.reduceEqDiff, Go.Addr.add, ↓reduceIte] at hw114_0)
                            cases e114
                            (try simp only [show (4 : Int).toNat = 4 from rfl, Nat.reduceMul, Nat.reduceEqDiff, Go.Addr.add, ↓reduceIte] at hx114_0)
                            have qi114 : (4 < dl33_.length) = True := eq_true (by omega)
                            (try rw [show ((4 : Int)).toNat = 4 from rfl] at hx114_0)
                            replace hx114_0 := (HB.out.cell (World.block_lt_of_cell? w _ hx114_0)).trans hx114_0
                            replace p114 := eq_true p114
                            replace q114 := eq_true q114
                            obtain ⟨i035, hi035, _, hsz35, _⟩ := info_parts info5
                            obtain ⟨A35, hcut35, hA35, hC35⟩ := print_mid_of (P := Try.prog) (Value.int .u8) 0 43 5 .i64 .i64 Try.underlying43 hi035 hsz35 (some ad114) (c0 - x111001_1.toNat) dl33_ 5 t113 (by omega) (by first | omega | exact of_decide_eq_true as_) (of_decide_eq_true as_) HC111.out
                            have HR118 := Aside0.mk (Kd.C_of_reads (h1 := fun _ => rfl) (hA35 _ (Kd.reads_of_C HR111.out)))
                            have HC118 := Aside0.mk hC35
                            clear hA35 hC35 hi035 hsz35
                            refine start_ (n := 16) (S := fun w' => w'.cell? ⟨gb110, 0, none⟩ = some (.int .i64 x111000_1) ∧ w'.cell? ⟨gb110, 1, none⟩ = some (.int .i64 x111001_1) ∧ w'.cell? ⟨gb110, 2, none⟩ = some (u111002) ∧ w'.cell? ⟨ad114.block, ad114.off + 4, none⟩ = some (.int .u8 (rd dl33_ 4))) (ds := [15]) #[false, false, false, false, false, false, false, false, false, false, false, false, false, false, false, false] (by kernel_rfl) rfl rfl ⟨(blk_cell BK110.out 0).trans rfl, (blk_cell BK110.out 1).trans rfl, (blk_cell BK110.out 2).trans rfl, ((HB.out.cell (World.block_lt_of_cell? w _ hw114_0)).trans hw114_0)⟩ (fun hHeld => ?_); refine with_tabW spec_SplitFrames.tab14 spec_SplitFrames.bits14 (fun HT_ HW_ => ?_)
                            generalize wr.drew = w34 at HO_111002 BK109 BK110 HB HR118 hx114_0 hHeld ⊢
                            refine pure_ (i := 0) (N := some 34) (v := ?_) (a' := ?_) #[true, false, false, false, false, false, false, false, false, false, false, false, false, false, false, false] rfl rfl (any_of HT_.out (by kernel_rfl)) (fun _ _ _ h => h) (Or.inl ⟨by rfl, ?_⟩) ?_ ?_
                            rotate_left
                            · intro w'
                              go_simp
                              with_reducible rfl
                            rotate_left
                            · simp only [Act.put, List.setIfInBounds_toArray, List.set_cons_zero, List.set_cons_succ, i64_w, i32_w]
                              rfl
                            refine pure_ (i := 2) (N := some 36) (v := ?_) (a' := ?_) #[true, false, true, false, false, false, false, false, false, false, false, false, false, false, false, false] rfl rfl (any_of HT_.out (by kernel_rfl)) (fun _ _ _ h => h) (Or.inl ⟨by rfl, ?_⟩) ?_ ?_
                            rotate_left
                            · intro w'
                              go_simp
                              with_reducible rfl
                            rotate_left
                            · simp only [Act.put, List.setIfInBounds_toArray, List.set_cons_zero, List.set_cons_succ, i64_w, i32_w]
                              rfl
                            refine pure_ (i := 3) (N := some 37) (v := ?_) (a' := ?_) #[true, false, true, true, false, false, false, false, false, false, false, false, false, false, false, false] rfl rfl (any_of HT_.out (by kernel_rfl)) (fun _ _ _ h => h) (Or.inl ⟨by rfl, ?_⟩) ?_ ?_
                            rotate_left
                            · intro w'
                              go_simp
                              with_reducible rfl
                            rotate_left
                            · simp only [Act.put, List.setIfInBounds_toArray, List.set_cons_zero, List.set_cons_succ, i64_w, i32_w]
                              rfl
                            refine pure_ (i := 7) (N := some 41) (v := ?_) (a' := ?_) #[true, false, true, true, false, false, false, true, false, false, false, false, false, false, false, false] rfl rfl (any_of HT_.out (by kernel_rfl)) (fun _ _ _ h => h) (Or.inl ⟨by rfl, ?_⟩) ?_ ?_
                            rotate_left
                            · intro w'
                              go_simp
                              with_reducible rfl
                            rotate_left
                            · simp only [Act.put, List.setIfInBounds_toArray, List.set_cons_zero, List.set_cons_succ, i64_w, i32_w]
                              rfl
                            refine pure_ (i := 8) (N := some 42) (v := ?_) (a' := ?_) #[true, false, true, true, false, false, false, true, true, false, false, false, false, false, false, false] rfl rfl (any_of HT_.out (by kernel_rfl)) (fun _ _ _ h => h) (Or.inl ⟨by rfl, ?_⟩) ?_ ?_
                            rotate_left
                            · intro w'
                              go_simp
                              with_reducible rfl
                            rotate_left
                            · simp only [Act.put, List.setIfInBounds_toArray, List.set_cons_zero, List.set_cons_succ, i64_w, i32_w]
                              rfl
                            refine pure_ (i := 9) (N := some 43) (v := ?_) (a' := ?_) #[true, false, true, true, false, false, false, true, true, true, false, false, false, false, false, false] rfl rfl (any_of HT_.out (by kernel_rfl)) (fun _ _ _ h => h) (Or.inl ⟨by rfl, ?_⟩) ?_ ?_
                            rotate_left
                            · intro w'
                              go_simp
                              with_reducible rfl
                            rotate_left
                            · simp only [Act.put, List.setIfInBounds_toArray, List.set_cons_zero, List.set_cons_succ, i64_w, i32_w]
                              rfl
                            refine take_ (i := 1) (N := some 35) (v := ?_) (a' := ?_) #[true, true, true, true, false, false, false, true, true, true, false, false, false, false, false, false] rfl rfl (take_ofW HT_.out HW_.out (by kernel_rfl)) (fun _ _ _ h => h) (Or.inl ⟨by rfl, ?_⟩) hHeld ?_ ?_
                            rotate_left
                            · rintro w' ⟨s0, s1, s2, s3⟩
                              go_simp
                              with_reducible rfl
                            rotate_left
                            · simp only [Act.put, List.setIfInBounds_toArray, List.set_cons_zero, List.set_cons_succ, i64_w, i32_w]
                              rfl
                            refine take_ (i := 4) (N := some 38) (v := ?_) (a' := ?_) #[true, true, true, true, true, false, false, true, true, true, false, false, false, false, false, false] rfl rfl (take_ofW HT_.out HW_.out (by kernel_rfl)) (fun _ _ _ h => h) (Or.inl ⟨by rfl, ?_⟩) hHeld ?_ ?_
                            rotate_left
                            · rintro w' ⟨s0, s1, s2, s3⟩
                              go_simp
                              with_reducible rfl
                            rotate_left
                            · simp only [Act.put, List.setIfInBounds_toArray, List.set_cons_zero, List.set_cons_succ, i64_w, i32_w]
                              rfl
                            refine pure_ (i := 5) (N := some 39) (v := ?_) (a' := ?_) #[true, true, true, true, true, true, false, true, true, true, false, false, false, false, false, false] rfl rfl (any_of HT_.out (by kernel_rfl)) (fun _ _ _ h => h) (Or.inl ⟨by rfl, ?_⟩) ?_ ?_
                            rotate_left
                            · intro w'
                              go_simp
                              with_reducible rfl
                            rotate_left
                            · simp only [Act.put, List.setIfInBounds_toArray, List.set_cons_zero, List.set_cons_succ, i64_w, i32_w]
                              rfl
                            refine one_ (i := 6) (N := some 40) #[true, true, true, true, true, true, true, true, true, true, false, false, false, false, false, false] rfl rfl (one_of HT_.out (by kernel_rfl)) (by decide) (fun K hK => ?_)
                            refine Kd.R_lit_step (Kd.int .u8) _ 5 ?hg (N := 40) ?hd (xs := ([] : List Int)) (inner := []) (ok := fun _ => True) (okp := fun _ => True) ?hr ?hp (fun _ hk => hk) trivial (Below.refl _ _) (Nat.le_refl _) (by simp) ?_; (case hd => rfl); (case hg => rfl); (case hr => first | (go_simp; done) | (go_simp; rfl)); (case hp => exact (Reps.none _ _))
                            intro v116 w36 ho37 hb hg_ hnew_
                            clear hg_ hnew_
                            (first | rw [← Ny115.out] at ho37 | (simp only [Int.reduceToNat] at ho37; rw [← Ny115.out] at ho37))
                            have n0_ := Aside0.mk (Kd.S_elder' (by (with_reducible repeat (first | apply Kd.S_alloc | apply Kd.S_drewN | apply Kd.S_drew)); exact HO_111002.out) (Kd.R_base ho37) hb)
                            have n1_ := Aside0.mk (Kd.R_lower ho37 (below_size bb_))
                            have n2_ := Aside0.mk (blk_below (kb_ BK109) hb)
                            have n3_ := Aside0.mk (blk_below (kb_ BK110) hb)
                            have n4_ := Aside0.mk (below_step bb_ hb)
                            clear HO_111002
                            clear BK109
                            clear BK110
                            clear HB
                            have HO_111002 := n0_
                            have HO117 := n1_
                            have BK109 := n2_
                            have BK110 := n3_
                            have HB := n4_
                            clear n0_ n1_ n2_ n3_ n4_
                            clear hb ho37
                            refine hK.out _ _ ⟨(blk_cell BK110.out 0).trans rfl, (blk_cell BK110.out 1).trans rfl, (blk_cell BK110.out 2).trans rfl, ((HB.out.cell (World.block_lt_of_cell? w _ hw114_0)).trans hw114_0)⟩ (fun hHeld => ?_)
                            clear hK K
                            refine norm_ (a' := ?_) ?_ ?_
                            rotate_left
                            · show Act.put _ (some 40) _ = _
                              simp only [Act.put, List.setIfInBounds_toArray, List.set_cons_zero, List.set_cons_succ, i64_w, i32_w]
                              rfl
                            refine one_ (i := 10) (N := some 44) #[true, true, true, true, true, true, true, true, true, true, true, false, false, false, false, false] rfl rfl (one_of HT_.out (by kernel_rfl)) (by decide) (fun K hK => ?_)
                            refine Kd.R_append_rows_step (Kd.int .u8) (w0 := w) w.heap.size (by rfl) (.tmp 40) (.tmp 43) 43 5 (.int .u8 0) 1 rfl Try.underlying43 info5 rfl (by decide) (by omega) v116 y115 ((dl33_.take (t113 : Int).toNat).drop 5) _ _ _ (fun _ => True) (fun _ => False) rfl rfl ?aO ?aR (fun _ _ h => h) (fun _ h => h.elim) ?aF ?aB ?aS ?aL ?_
                            (case aR => first | (rw [← show ((dl33_.take (t113 : Int).toNat).drop 5).length = (t113.toNat - 5) from (by rw [List.length_drop, List.length_take]; have h_ : (t113 : Int) ≤ (dl33_.length : Int) := of_decide_eq_true as_; omega)]; repeat (first | exact (Kd.C_below HR118.out HB.out) | (with_reducible refine Kd.C_alloc ?_ _) | (with_reducible refine Kd.C_drewN ?_ _) | (with_reducible refine Kd.C_drew ?_))) | (repeat (first | exact (Kd.C_below HR118.out HB.out) | (with_reducible refine Kd.C_alloc ?_ _) | (with_reducible refine Kd.C_drewN ?_ _) | (with_reducible refine Kd.C_drew ?_))))
                            (case aB => exact bb_)
                            (case aF => exact (fun _ _ => trivial))
                            (case aO => exact (kr_ HO117))
                            (case aS => exact (below_size bb_))
                            (case aL => have := LMc29.out; have hlx_ := (show ((dl33_.take (t113 : Int).toNat).drop 5).length = (t113.toNat - 5) from (by rw [List.length_drop, List.length_take]; have h_ : (t113 : Int) ≤ (dl33_.length : Int) := of_decide_eq_true as_; omega)); omega)
                            intro v120 w38 ho hb hg hat
                            rw [← Ny119.out] at ho
                            have n0_ := Aside0.mk (Kd.S_after (ok := (fun _ => True)) (by (with_reducible repeat (first | apply Kd.S_alloc | apply Kd.S_drewN | apply Kd.S_drew)); exact HO_111002.out) hg hat)
                            have n1_ := Aside0.mk (blk_grown (g := gb109) (o := .cells #[.int .i64 x110000_1, .int .i64 x110001_1, .slice none 0 0] 46 (0, 0)) (by (with_reducible repeat (first | refine blk_drewN ?_ _ | refine blk_drew ?_ | refine blk_alloc ?_ _)); exact BK109.out) hg (Kd.R_ne HO117.out BK109.out (by decide)))
                            have n2_ := Aside0.mk (blk_grown (g := gb110) (o := .cells #[.int .i64 x111000_1, .int .i64 x111001_1, u111002] 46 (0, 0)) (by (with_reducible repeat (first | refine blk_drewN ?_ _ | refine blk_drew ?_ | refine blk_alloc ?_ _)); exact BK110.out) hg (Kd.R_ne HO117.out BK110.out (by decide)))
                            have n3_ := Aside0.mk (hb)
                            have n4_ := Aside0.mk (ho)
                            clear HO_111002
                            clear BK109
                            clear BK110
                            clear HB
                            clear HO117
                            have HO_111002 := n0_
                            have BK109 := n1_
                            have BK110 := n2_
                            have HB := n3_
                            have HO121 := n4_
                            clear n0_ n1_ n2_ n3_ n4_
                            clear ho hb hg hat
                            obtain ⟨Ao39, co39, eo39⟩ := Kd.R_slice HO121.out
                            (first | subst eo39 | (injection eo39 with f1_ f2_ f3_; have f4_ := f1_.symm; have f5_ := f3_.symm; clear f1_ f2_ f3_; subst f4_; subst f5_))
                            refine hK.out _ _ ⟨(blk_cell BK110.out 0).trans rfl, (blk_cell BK110.out 1).trans rfl, (blk_cell BK110.out 2).trans rfl, ((HB.out.cell (World.block_lt_of_cell? w _ hw114_0)).trans hw114_0)⟩ (fun hHeld => ?_)
                            clear hK K
                            refine norm_ (a' := ?_) ?_ ?_
                            rotate_left
                            · show Act.put _ (some 44) _ = _
                              simp only [Act.put, List.setIfInBounds_toArray, List.set_cons_zero, List.set_cons_succ, i64_w, i32_w]
                              rfl
                            refine pure_ (i := 11) (N := some 45) (v := ?_) (a' := ?_) #[true, true, true, true, true, true, true, true, true, true, true, true, false, false, false, false] rfl rfl (any_of HT_.out (by kernel_rfl)) (fun _ _ _ h => h) (Or.inl ⟨by rfl, ?_⟩) ?_ ?_
                            rotate_left
                            · intro w'
                              go_simp
                              with_reducible rfl
                            rotate_left
                            · simp only [Act.put, List.setIfInBounds_toArray, List.set_cons_zero, List.set_cons_succ, i64_w, i32_w]
                              rfl
                            refine one_ (i := 12) (N := some 46) #[true, true, true, true, true, true, true, true, true, true, true, true, true, false, false, false] rfl rfl (one_of HT_.out (by kernel_rfl)) (by decide) (fun K hK => ?_)
                            refine value_ (w1 := ?_) (v := ?_) (by rfl) rfl ?_ ?_
                            rotate_left 2
                            · go_simp
                              constructor
                              · rfl
                              · rfl
                            refine hK.out _ _ ⟨(blk_cell (blk_alloc BK110.out _) 0).trans rfl, (blk_cell (blk_alloc BK110.out _) 1).trans rfl, (blk_cell (blk_alloc BK110.out _) 2).trans rfl, (World.cell?_alloc_lt _ _ _ (World.block_lt_of_cell? _ _ (((HB.out.cell (World.block_lt_of_cell? w _ hw114_0)).trans hw114_0)))).trans (((HB.out.cell (World.block_lt_of_cell? w _ hw114_0)).trans hw114_0))⟩ (fun hHeld => ?_)
                            clear hK K
                            refine norm_ (a' := ?_) ?_ ?_
                            rotate_left
                            · show Act.put _ (some 46) _ = _
                              simp only [Act.put, List.setIfInBounds_toArray, List.set_cons_zero, List.set_cons_succ, i64_w, i32_w]
                              rfl
                            refine one_ (i := 13) (N := some 47) #[true, true, true, true, true, true, true, true, true, true, true, true, true, true, false, false] rfl rfl (one_of HT_.out (by kernel_rfl)) (by decide) (fun K hK => ?_)
                            refine Kd.S_append_step k91 (w0 := w) w.heap.size (by rfl) (.tmp 35) (.tmp 46) 44 91 (.agg #[(.int .i64 0), (.slice none 0 0)]) 32 rfl Try.underlying44 info91 rfl (by decide) (by omega) u111002 x111002_1 (⟨wrap64 (rd dl33_ 4), y119⟩ : S91) [.int .i64 (wrap64 (rd dl33_ 4)), .slice Ao39 y119.length co39] (fun _ => True) (fun k_ => some k_ = (.slice Ao39 y119.length co39 : Value).ownBlock) rfl rfl ?aP (fun k_ hk_ => ((Kd.R_mono (ok' := fun k_ => ((fun _ => True)) k_ ∧ some k_ ≠ (u111002 : Value).ownBlock) (Kd.R_apart' (HO121.out) (Kd.S_typed HO_111002.out) (by decide)) (fun k_ hk => ⟨trivial, hk.2⟩))).1 k_ hk_.symm) ?aF ?aO ?aB ?aS ?aL ?_
                            (case aP => exact k91_mkM _ _ _ (⟨wrap64 (rd dl33_ 4), y119⟩ : S91) (Kd.R_mono (Kd.R_tight rfl (Kd.R_mono (ok' := fun k_ => ((fun _ => True)) k_ ∧ some k_ ≠ (u111002 : Value).ownBlock) (Kd.R_apart' (HO121.out) (Kd.S_typed HO_111002.out) (by decide)) (fun k_ hk => ⟨trivial, hk.2⟩))) (fun _ h_ => h_)))
                            (case aB => exact bb_)
                            (case aF => exact (fun _ _ => trivial))
                            (case aO => exact (by (with_reducible repeat (first | apply Kd.S_alloc | apply Kd.S_drewN | apply Kd.S_drew)); exact Kd.S_mono HO_111002.out (fun k_ hk => ⟨trivial, fun e_ => hk.2 e_⟩)))
                            (case aS => exact (below_size bb_))
                            (case aL => have := LMc30.out; omega)
                            intro v123 w40 ho hb hg hat
                            rw [← Ny122.out] at ho
                            have n0_ := Aside0.mk (blk_grown (g := gb109) (o := .cells #[.int .i64 x110000_1, .int .i64 x110001_1, .slice none 0 0] 46 (0, 0)) (by (with_reducible repeat (first | refine blk_drewN ?_ _ | refine blk_drew ?_ | refine blk_alloc ?_ _)); exact BK109.out) hg (Kd.S_ne HO_111002.out BK109.out (by decide)))
                            have n1_ := Aside0.mk (blk_grown (g := gb110) (o := .cells #[.int .i64 x111000_1, .int .i64 x111001_1, u111002] 46 (0, 0)) (by (with_reducible repeat (first | refine blk_drewN ?_ _ | refine blk_drew ?_ | refine blk_alloc ?_ _)); exact BK110.out) hg (Kd.S_ne HO_111002.out BK110.out (by decide)))
                            have n2_ := Aside0.mk (hb)
                            have n3_ := Aside0.mk (ho)
                            clear BK109
                            clear BK110
                            clear HB
                            clear HO_111002
                            clear HO121
                            have BK109 := n0_
                            have BK110 := n1_
                            have HB := n2_
                            have HO124 := n3_
                            clear n0_ n1_ n2_ n3_
                            clear ho hb hg hat
                            obtain ⟨Ao41, co41, eo41⟩ := Kd.S_slice HO124.out
                            (first | subst eo41 | (injection eo41 with f1_ f2_ f3_; have f4_ := f1_.symm; have f5_ := f3_.symm; clear f1_ f2_ f3_; subst f4_; subst f5_))
                            refine hK.out _ _ ⟨(blk_cell BK110.out 0).trans rfl, (blk_cell BK110.out 1).trans rfl, (blk_cell BK110.out 2).trans rfl, ((HB.out.cell (World.block_lt_of_cell? w _ hw114_0)).trans hw114_0)⟩ (fun hHeld => ?_)
                            clear hK K
                            refine norm_ (a' := ?_) ?_ ?_
                            rotate_left
                            · show Act.put _ (some 47) _ = _
                              simp only [Act.put, List.setIfInBounds_toArray, List.set_cons_zero, List.set_cons_succ, i64_w, i32_w]
                              rfl
                            refine pure_ (i := 14) (N := some 48) (v := ?_) (a' := ?_) #[true, true, true, true, true, true, true, true, true, true, true, true, true, true, true, false] rfl rfl (any_of HT_.out (by kernel_rfl)) (fun _ _ _ h => h) (Or.inl ⟨by rfl, ?_⟩) ?_ ?_
                            rotate_left
                            · intro w'
                              go_simp
                              with_reducible rfl
                            rotate_left
                            · simp only [Act.put, List.setIfInBounds_toArray, List.set_cons_zero, List.set_cons_succ, i64_w, i32_w]
                              rfl
                            refine last_ (i := 15) (N := none) #[true, true, true, true, true, true, true, true, true, true, true, true, true, true, true, true] rfl rfl (one_of HT_.out (by kernel_rfl)) (by decide) (fun K hK => ?_)
                            have hs42 : w40.cell? ⟨gb110, 2, none⟩ = some (u111002) := (blk_cell BK110.out 2).trans rfl
                            have hfs42 := blk_frozen BK110.out 2
                            have hns42_0 := NB109_110.out
                            have hms42_0 := NB110_109.out
                            refine skip_ (w1 := ?_) ?_ ?_ ?_ ?_
                            rotate_left
                            · first | kernel_rfl | rfl
                            · rfl
                            · go_simp
                              rfl
                            refine hK.out _ _ ?_
                            clear hK K
                            refine done_ (done_of HT_.out (by kernel_rfl)) ?_
                            obtain ⟨hcz43_0, hcz43_1, hcz43_2, hfz43_0, hfz43_1, hfz43_2⟩ := cf3_ BK110
                            try go_wp2
                            go_roundg k1
                            case measure => have := HK1.out; omega
                            case rel => exact ⟨(x110000_1), (x110001_1), (x111000_1), (wrap64 (x111001_1 + t113)), (y122), (.slice Ao41 y122.length co41), H', ⟨by have := HK1.out; omega⟩, ⟨by (with_reducible repeat (first | apply Kd.S_alloc | apply Kd.S_drewN | apply Kd.S_drew)); exact Kd.S_mono (Kd.S_far (p := ⟨gb110, 1, none⟩) (Kd.S_far (p := ⟨gb110, 2, none⟩) (Kd.S_types HO124.out BK110.out (by decide)) (fun _ hk => hk.2) (.slice Ao41 y122.length co41)) (fun _ hk => hk.2) (.int .i64 (wrap64 (x111001_1 + t113)))) (fun _ hk => trivial)⟩, ⟨by (with_reducible repeat (first | refine blk_drewN ?_ _ | refine blk_drew ?_ | refine blk_alloc ?_ _)); refine blk_far ?_ NB109_110.out _; (with_reducible repeat (first | refine blk_drewN ?_ _ | refine blk_drew ?_ | refine blk_alloc ?_ _)); refine blk_far ?_ NB109_110.out _; (with_reducible repeat (first | refine blk_drewN ?_ _ | refine blk_drew ?_ | refine blk_alloc ?_ _)); exact BK109.out⟩, ⟨by (with_reducible repeat (first | refine blk_drewN ?_ _ | refine blk_drew ?_ | refine blk_alloc ?_ _)); refine blk_put (cs := #[.int .i64 x111000_1, .int .i64 x111001_1, .slice Ao41 y122.length co41]) ?_ 1 _ rfl; (with_reducible repeat (first | refine blk_drewN ?_ _ | refine blk_drew ?_ | refine blk_alloc ?_ _)); refine blk_put (cs := #[.int .i64 x111000_1, .int .i64 x111001_1, u111002]) ?_ 2 _ rfl; (with_reducible repeat (first | refine blk_drewN ?_ _ | refine blk_drew ?_ | refine blk_alloc ?_ _)); exact BK110.out⟩, ⟨bb_⟩⟩
                          · rw [if_neg c30] at H
                            exact absurd H (by simp)
                        · rw [if_neg c29] at H
                          exact absurd H (by simp)
                      · rw [if_neg c28] at H
                        exact absurd H (by simp)
                    · rw [if_neg c27] at H
                      exact absurd H (by simp)
                  · rw [if_neg c26] at H
                    exact absurd H (by simp)
            · rw [if_neg c12] at H
              have c12b0 : (t112 == 0) = false := beq_eq_false_iff_ne.mpr c12
              have c12b1 : (t112 != 0) = true := bne_iff_ne.mpr c12
              simp only [Option.some.injEq, Prod.mk.injEq] at H
              obtain ⟨rfl, rfl, rfl⟩ := H
              have hnb44 := NB110_109.out
              have hnc44 := NB109_110.out
              obtain ⟨hcz45_0, hcz45_1, hcz45_2, hfz45_0, hfz45_1, hfz45_2⟩ := cf3_ BK110
              obtain ⟨i046, hi046, _, hsz46, _⟩ := info_parts info5
              obtain ⟨A46, hcut46, hA46, hC46⟩ := print_drop_of (P := Try.prog) (Value.int .u8) 0 43 5 .i64 Try.underlying43 hi046 hsz46 A0 c0 l0 x111001_1 (of_decide_eq_true as_) (of_decide_eq_true as_) HC0.out
              have HR111 := Aside0.mk (Kd.C_of_reads (h1 := fun _ => rfl) (hA46 _ (Kd.reads_of_C HR0.out)))
              have HC111 := Aside0.mk hC46
              clear hA46 hC46 hi046 hsz46
              generalize hdl46_ : (l0.drop (x111001_1 : Int).toNat) = dl46_ at *
              go_wp2_with (first | ((with_reducible refine gate_callee (f := 90) rfl ?_); refine goesL_ (some 17) rfl rfl Try.func90 (by kernel_rfl) rfl #[.slice A46 dl46_.length (c0 - x111001_1.toNat)] rfl (by (try simp only [List.map_toArray, List.map_cons, List.map_nil]); first | done | (rw [show dl46_.length = (l0.length - x111001_1.toNat) from List.length_drop] <;> rfl) | rfl | (simp only [List.length_drop, List.length_take]; rfl)) ?_; (with_reducible refine (spec_l1Head.calls k1 _ _ dl46_ t112 _ ?side1 ?side2 A11.out).mono ?_); (case side1 => exact kc_ (Kd.C_below HR111.out HB.out)); (case side2 => exact HC111.out); rintro e w' ⟨rfl, ⟨nd, rfl⟩⟩; refine ⟨_, rfl, ?_⟩; (try (rw [drewN_self wr]; generalize hq_ : World.drewN wr _ = wr; have n0_ : Aside0 (Kd.S k91 91 wr w.heap.size (fun _ => True) u111002 x111002_1) := ⟨by rw [← hq_]; exact (by (with_reducible repeat (first | apply Kd.S_alloc | apply Kd.S_drewN | apply Kd.S_drew)); exact HO_111002.out)⟩; have n1_ : Aside0 (wr.heap[gb109]? = some (.cells #[.int .i64 x110000_1, .int .i64 x110001_1, .slice none 0 0] 46 (0, 0))) := ⟨by rw [← hq_]; exact (by (with_reducible repeat (first | refine blk_drewN ?_ _ | refine blk_drew ?_ | refine blk_alloc ?_ _)); exact BK109.out)⟩; have n2_ : Aside0 (wr.heap[gb110]? = some (.cells #[.int .i64 x111000_1, .int .i64 x111001_1, u111002] 46 (0, 0))) := ⟨by rw [← hq_]; exact (by (with_reducible repeat (first | refine blk_drewN ?_ _ | refine blk_drew ?_ | refine blk_alloc ?_ _)); exact BK110.out)⟩; have n3_ : Aside0 (Below w.heap.size w wr) := ⟨by rw [← hq_]; exact bb_⟩; clear HO_111002 BK109 BK110 HB hq_; have HO_111002 := n0_; have BK109 := n1_; have BK110 := n2_; have HB := n3_; clear n0_ n1_ n2_ n3_)); obtain ⟨hcz47_0, hcz47_1, hcz47_2, hfz47_0, hfz47_1, hfz47_2⟩ := cf3_ BK109; obtain ⟨Ao48, co48, eo48⟩ := Kd.S_slice HO_111002.out; subst eo48; have hczq110_0 := blk_cell BK110.out 0; simp only [List.getElem?_toArray, List.getElem?_cons_zero, List.getElem?_cons_succ] at hczq110_0; have hfzq110_0 := blk_frozen BK110.out 0; have hczq110_1 := blk_cell BK110.out 1; simp only [List.getElem?_toArray, List.getElem?_cons_zero, List.getElem?_cons_succ] at hczq110_1; have hfzq110_1 := blk_frozen BK110.out 1; have hczq110_2 := blk_cell BK110.out 2; simp only [List.getElem?_toArray, List.getElem?_cons_zero, List.getElem?_cons_succ] at hczq110_2; have hfzq110_2 := blk_frozen BK110.out 2))
              refine bodyPost_ret (results_cell_row rfl _ _ gb109 46 #[.int .i64 t112, .int .i64 x111001_1, .slice Ao48 x111002_1.length co48] (0, 0) _ rfl (by (with_reducible repeat (first | refine blk_drewN ?_ _ | refine blk_drew ?_ | refine blk_alloc ?_ _)); refine blk_put (cs := #[.int .i64 t112, .int .i64 x111001_1, .slice none 0 0]) ?_ 2 _ rfl; (with_reducible repeat (first | refine blk_drewN ?_ _ | refine blk_drew ?_ | refine blk_alloc ?_ _)); refine blk_put (cs := #[.int .i64 t112, .int .i64 x110001_1, .slice none 0 0]) ?_ 1 _ rfl; (with_reducible repeat (first | refine blk_drewN ?_ _ | refine blk_drew ?_ | refine blk_alloc ?_ _)); refine blk_put (cs := #[.int .i64 x110000_1, .int .i64 x110001_1, .slice none 0 0]) ?_ 0 _ rfl; (with_reducible repeat (first | refine blk_drewN ?_ _ | refine blk_drew ?_ | refine blk_alloc ?_ _)); refine blk_far ?_ NB109_110.out _; (with_reducible repeat (first | refine blk_drewN ?_ _ | refine blk_drew ?_ | refine blk_alloc ?_ _)); exact BK109.out) Try.underlying46 rfl (by kernel_rfl)) rfl ?_
              exact ⟨_, er_, by (with_reducible repeat (first | apply Kd.S_alloc | apply Kd.S_drewN | apply Kd.S_drew)); exact Kd.S_mono (Kd.S_far (p := ⟨gb109, 2, none⟩) (Kd.S_far (p := ⟨gb109, 1, none⟩) (Kd.S_far (p := ⟨gb109, 0, none⟩) (Kd.S_far (p := ⟨gb110, 0, none⟩) (Kd.S_types (Kd.S_types HO_111002.out BK110.out (by decide)) BK109.out (by decide)) (fun _ hk => hk.1.2) (.int .i64 t112)) (fun _ hk => hk.2) (.int .i64 t112)) (fun _ hk => hk.2) (.int .i64 x111001_1)) (fun _ hk => hk.2) (.slice Ao48 x111002_1.length co48)) (fun _ hk => trivial), bb_⟩
          · rw [if_neg c10] at H
            exact absurd H (by simp)
        · rw [if_neg c9] at H
          exact absurd H (by simp)
end Go.Proofs.Ytfbojdagjecjcaa.PFnExactSplitFrames
