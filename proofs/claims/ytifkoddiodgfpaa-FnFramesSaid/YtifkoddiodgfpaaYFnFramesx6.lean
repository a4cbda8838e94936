/- The functions that the law FnFrames reaches: each as a plain Lean function, with the proof that the call does what it says. -/
import Derived.Test.YtifkoddiodgfpaaYFnFramesx0
import Derived.Test.YtifkoddiodgfpaaYFnFramesx5
namespace Go.Proofs.Ytifkoddiodgfpaa.PFnFrames
open Go.RowKit Go.Proofs.YtifkoddiodgfpaaW.PrintWords Go.Proofs.YtifkoddiodgfpaaW.PrintLast Go.Proofs.YtifkoddiodgfpaaW.PrintMore
attribute [local go_sem] max2_int min2_int max_two min_two max_three min_three max_four min_four
set_option linter.unusedVariables false
set_option linter.unusedSimpArgs false
def impl_SplitFrames.l0 : Nat → List Int → Int → Int → List (S26) → Option (Int × Int × (List (S26)))
  | 0, _, _, _, _ => none
  | k + 1, x0, x210000, x210001, x210002 => if 0 ≤ x210001 then (if x210001 ≤ (x0.length : Int) then ((impl_nextFrame.f k (x0.drop (x210001 : Int).toNat)).bind fun bt211 => (if bt211.2.2.1 = 0 then (some (bt211.2.2.2, x210001, x210002)) else (if x210002.length < 4398046511104 then (impl_SplitFrames.l0 k x0 x210000 (wrap64 (x210001 + bt211.2.2.1)) (x210002 ++ [(⟨bt211.1, bt211.2.1⟩ : S26)])) else (none)))) else (none)) else (none)
def impl_SplitFrames.f (k : Nat) (l0 : List Int) : Option (Int × Int × (List (S26))) := if (l0.length : Int) > 400 then (some (2, 0, ([] : List (S26)))) else (impl_SplitFrames.l0 k l0 0 0 ([] : List (S26)))
theorem impl_SplitFrames.mono_l : ∀ k, (∀ y0 y1 y2 y3, LeO (impl_SplitFrames.l0 k y0 y1 y2 y3) (impl_SplitFrames.l0 (k + 1) y0 y1 y2 y3))
  | 0 => fun _ _ _ _ r h => by simp [impl_SplitFrames.l0] at h
  | k + 1 => by
    have ih0 := impl_SplitFrames.mono_l k
    · intro y0 y1 y2 y3
      unfold impl_SplitFrames.l0
      repeat' first
      | (with_reducible exact ih0 _ _ _ _)
      | (with_reducible exact impl_nextFrame.mono _ _)
      | (with_reducible exact LeO.refl _)
      | (with_reducible exact LeO.none _)
      | (with_reducible refine LeO.ite ?_ ?_)
      | (with_reducible refine LeO.bind ?_ (fun _ => ?_))
      | exact ih0 _ _ _ _
      | exact impl_nextFrame.mono _ _
      | exact LeO.none _
      | refine LeO.ite ?_ ?_
      | refine LeO.bind ?_ (fun _ => ?_)
theorem impl_SplitFrames.mono : ∀ a0 k, LeO (impl_SplitFrames.f k a0) (impl_SplitFrames.f (k + 1) a0) := by
  intro a0 k
  have ih0 := impl_SplitFrames.mono_l k
  unfold impl_SplitFrames.f
  repeat' first
      | (with_reducible exact ih0 _ _ _ _)
      | (with_reducible exact impl_nextFrame.mono _ _)
      | (with_reducible exact LeO.refl _)
      | (with_reducible exact LeO.none _)
      | (with_reducible refine LeO.ite ?_ ?_)
      | (with_reducible refine LeO.bind ?_ (fun _ => ?_))
      | exact ih0 _ _ _ _
      | exact impl_nextFrame.mono _ _
      | exact LeO.none _
      | refine LeO.ite ?_ ?_
      | refine LeO.bind ?_ (fun _ => ?_)
set_option maxHeartbeats 8000000 in
set_option maxRecDepth 100000 in
theorem impl_SplitFrames.calls (k : Nat) (A0 : Option Addr) (c0 : Nat) (l0 : List Int) (r1 : Int) (r2 : Int) (r3 : List (S26)) (w : World) (hr0 : Kd.C (Kd.int .u8) w A0 l0.length l0) (hc0 : l0.length ≤ c0) (h : impl_SplitFrames.f k l0 = some (r1, r2, r3)) :
    Calls Try.prog 10 #[.slice A0 l0.length c0] w fun e w' => ∃ v2_ : Value, e = .returned (.agg #[.int .i64 r1, .int .i64 r2, v2_]) ∧ Kd.S k26 26 w' w.heap.size (fun _ => True) v2_ r3 ∧ Below w.heap.size w w' := by
  have hu34 := Try.underlying34
  have hu26 := Try.underlying26
  have HR0 := Aside0.mk hr0
  have HC0 := Aside0.mk hc0
  clear hr0 hc0
  have HB := Aside0.mk (Below.refl w.heap.size w)
  have H : (if (l0.length : Int) > 400 then (some (2, 0, ([] : List (S26)))) else (impl_SplitFrames.l0 k l0 0 0 ([] : List (S26)))) = some (r1, r2, r3) := h
  clear h
  by_cases c2 : (l0.length : Int) > 400
  · rw [if_pos c2] at H
    have c2b0 : decide (400 < (l0.length : Int)) = true := decide_eq_true c2
    have c2b1 : decide (400 < l0.length) = true := decide_eq_true (by omega)
    clear c2
    simp only [Option.some.injEq, Prod.mk.injEq] at H
    obtain ⟨rfl, rfl, rfl⟩ := H
    go_enter Try.func10, Try.ntmps10
    go_wp2_with (first | ((with_reducible refine gate_dst (N := 2) rfl ?_); refine box_e_ 2 #[.int .i64 0, .int .i64 0, .slice none 0 0] 34 ?_; intro gb208 hg w3 hbox hb; have BK208 := Aside0.mk (hbox); have GW208 := (bs_ hg : Aside0 (w.heap.size ≤ _)); have GE208 := (bs_ hg : Aside0 (w.heap.size ≤ _)); replace HB := Aside0.mk (below_step bb_ hb); clear hb hbox hg; obtain ⟨hcz4_0, hcz4_1, hcz4_2, hfz4_0, hfz4_1, hfz4_2⟩ := cf3_ BK208))
    refine bodyPost_ret (results_cell_row rfl _ _ gb208 34 #[.int .i64 2, .int .i64 0, .slice none 0 0] (0, 0) _ rfl (by (with_reducible repeat (first | refine blk_drewN ?_ _ | refine blk_drew ?_ | refine blk_alloc ?_ _)); refine blk_put (cs := #[.int .i64 2, .int .i64 0, .slice none 0 0]) ?_ 2 _ rfl; (with_reducible repeat (first | refine blk_drewN ?_ _ | refine blk_drew ?_ | refine blk_alloc ?_ _)); refine blk_put (cs := #[.int .i64 2, .int .i64 0, .slice none 0 0]) ?_ 1 _ rfl; (with_reducible repeat (first | refine blk_drewN ?_ _ | refine blk_drew ?_ | refine blk_alloc ?_ _)); refine blk_put (cs := #[.int .i64 0, .int .i64 0, .slice none 0 0]) ?_ 0 _ rfl; (with_reducible repeat (first | refine blk_drewN ?_ _ | refine blk_drew ?_ | refine blk_alloc ?_ _)); exact BK208.out) Try.underlying34 rfl (by kernel_rfl)) rfl ?_
    exact ⟨_, er_, by first | exact Kd.S_nil _ _ _ _ _ | exact Kd.N_nil _ _ _ _ _ | exact Kd.V_nil _ _ _ _ _ | exact Kd.Q_nil _ _ _ _ _ | exact Kd.R_nil _ _ _ _ _, bb_⟩
  · rw [if_neg c2] at H
    have c2b0 : decide (400 < (l0.length : Int)) = false := decide_eq_false c2
    have c2b1 : decide (400 < l0.length) = false := decide_eq_false (by omega)
    clear c2
    have H' := Aside0.mk H
    clear H
    go_enter Try.func10, Try.ntmps10
    go_wp2_with (first | ((with_reducible refine gate_dst (N := 2) rfl ?_); refine box_e_ 2 #[.int .i64 0, .int .i64 0, .slice none 0 0] 34 ?_; intro gb208 hg w5 hbox hb; have BK208 := Aside0.mk (hbox); have GW208 := (bs_ hg : Aside0 (w.heap.size ≤ _)); have GE208 := (bs_ hg : Aside0 (w.heap.size ≤ _)); replace HB := Aside0.mk (below_step bb_ hb); clear hb hbox hg) | ((with_reducible refine gate_dst (N := 3) rfl ?_); refine box_e_ 3 #[.int .i64 0, .int .i64 0, .slice none 0 0] 34 ?_; intro gb209 hg w6 hbox hb; have BK209 := Aside0.mk (hbox); have GW209 := (bs_ hg : Aside0 (w.heap.size ≤ _)); have GE209 := (bs_ hg : Aside0 (w.heap.size ≤ _)); replace HB := Aside0.mk (below_step bb_ hb); have NB208_209 := (nl_ hg BK208 : Aside0 (gb208 ≠ gb209)); have NB209_208 := (nr_ hg BK208 : Aside0 (gb209 ≠ gb208)); replace BK208 := Aside0.mk (blk_below (kb_ BK208) hb); clear hb hbox hg; have hnb7 := NB209_208.out; have hnc7 := NB208_209.out; obtain ⟨hcz8_0, hcz8_1, hcz8_2, hfz8_0, hfz8_1, hfz8_2⟩ := cf3_ BK209))
    go_loopg [] k (fun kq w' => ∃ (x209000_1 : Int) (x209001_1 : Int) (x210000_1 : Int) (x210001_1 : Int) (x210002_1 : List (S26)) (u210002 : Value), Aside0 (impl_SplitFrames.l0 kq l0 x210000_1 x210001_1 x210002_1 = some (r1, r2, r3)) ∧ Aside0 (kq ≤ k) ∧ Aside0 (Kd.S k26 26 w' w.heap.size (fun _ => True) u210002 x210002_1) ∧ Aside0 (w'.heap[gb208]? = some (.cells #[.int .i64 x209000_1, .int .i64 x209001_1, (.slice none 0 0)] 34 (0, 0))) ∧ Aside0 (w'.heap[gb209]? = some (.cells #[.int .i64 x210000_1, .int .i64 x210001_1, u210002] 34 (0, 0))) ∧ Aside0 (Below w.heap.size w w'))
    case atStart => exact ⟨(0), (0), (0), (0), (([] : List (S26))), (.slice none 0 0), H', ⟨Nat.le_refl _⟩, ⟨by first | exact Kd.S_nil _ _ _ _ _ | exact Kd.N_nil _ _ _ _ _ | exact Kd.V_nil _ _ _ _ _ | exact Kd.Q_nil _ _ _ _ _ | exact Kd.R_nil _ _ _ _ _⟩, ⟨by (with_reducible repeat (first | refine blk_drewN ?_ _ | refine blk_drew ?_ | refine blk_alloc ?_ _)); refine blk_far ?_ NB208_209.out _; (with_reducible repeat (first | refine blk_drewN ?_ _ | refine blk_drew ?_ | refine blk_alloc ?_ _)); refine blk_far ?_ NB208_209.out _; (with_reducible repeat (first | refine blk_drewN ?_ _ | refine blk_drew ?_ | refine blk_alloc ?_ _)); refine blk_far ?_ NB208_209.out _; (with_reducible repeat (first | refine blk_drewN ?_ _ | refine blk_drew ?_ | refine blk_alloc ?_ _)); exact BK208.out⟩, ⟨by (with_reducible repeat (first | refine blk_drewN ?_ _ | refine blk_drew ?_ | refine blk_alloc ?_ _)); refine blk_put (cs := #[.int .i64 0, .int .i64 0, .slice none 0 0]) ?_ 2 _ rfl; (with_reducible repeat (first | refine blk_drewN ?_ _ | refine blk_drew ?_ | refine blk_alloc ?_ _)); refine blk_put (cs := #[.int .i64 0, .int .i64 0, .slice none 0 0]) ?_ 1 _ rfl; (with_reducible repeat (first | refine blk_drewN ?_ _ | refine blk_drew ?_ | refine blk_alloc ?_ _)); refine blk_put (cs := #[.int .i64 0, .int .i64 0, .slice none 0 0]) ?_ 0 _ rfl; (with_reducible repeat (first | refine blk_drewN ?_ _ | refine blk_drew ?_ | refine blk_alloc ?_ _)); exact BK209.out⟩, ⟨bb_⟩⟩
    case round =>
      clear H'
      try clear c1
      try clear c2
      try clear c2b0
      try clear c2b1
      try clear p2
      try clear c7
      try clear hcz4_0
      try clear hcz4_1
      try clear hcz4_2
      try clear hcz8_0
      try clear hcz8_1
      try clear hcz8_2
      try clear hfz4_0
      try clear hfz4_1
      try clear hfz4_2
      try clear hfz8_0
      try clear hfz8_1
      try clear hfz8_2
      obtain ⟨x209000_1, x209001_1, x210000_1, x210001_1, x210002_1, u210002, HA, HK1, HO_210002, BK208, BK209, HB⟩ := hrel
      cases gk with
      | zero => exact absurd HA.out (by simp [impl_SplitFrames.l0])
      | succ k1 =>
        have H := HA.out
        clear HA
        simp only [impl_SplitFrames.l0] at H
        by_cases c9 : 0 ≤ x210001_1
        · rw [if_pos c9] at H
          have c9b0 := eq_true c9
          have c9b1 : decide (0 ≤ x210001_1) = true := decide_eq_true c9
          clear c9
          by_cases c10 : x210001_1 ≤ (l0.length : Int)
          · rw [if_pos c10] at H
            have c10b0 := eq_true c10
            have c10b1 : decide (x210001_1 ≤ (l0.length : Int)) = true := decide_eq_true c10
            clear c10
            replace H := Option.bind_eq_some_iff.mp H
            obtain ⟨⟨t211, t212, t215, t216⟩, A110, H⟩ := H
            replace H : (if t215 = 0 then (some (t216, x210001_1, x210002_1)) else (if x210002_1.length < 4398046511104 then (impl_SplitFrames.l0 k1 l0 x210000_1 (wrap64 (x210001_1 + t215)) (x210002_1 ++ [(⟨t211, t212⟩ : S26)])) else (none))) = some (r1, r2, r3) := H
            have A11 := Aside0.mk A110
            clear A110
            by_cases c12 : t215 = 0
            · rw [if_pos c12] at H
              have c12b0 : (t215 == 0) = true := beq_iff_eq.mpr c12
              have c12b1 : (t215 != 0) = false := bne_eq_false_iff_eq.mpr c12
              clear c12
              simp only [Option.some.injEq, Prod.mk.injEq] at H
              obtain ⟨rfl, rfl, rfl⟩ := H
              have hnb13 := NB209_208.out
              have hnc13 := NB208_209.out
              obtain ⟨hcz14_0, hcz14_1, hcz14_2, hfz14_0, hfz14_1, hfz14_2⟩ := cf3_ BK209
              obtain ⟨i015, hi015, _, hsz15, _⟩ := info_parts info5
              obtain ⟨A15, hcut15, hA15, hC15⟩ := print_drop_of (P := Try.prog) (Value.int .u8) 0 22 5 .i64 Try.underlying22 hi015 hsz15 A0 c0 l0 x210001_1 (of_decide_eq_true as_) (of_decide_eq_true as_) HC0.out
              have HR210 := Aside0.mk (Kd.C_of_reads (h1 := fun _ => rfl) (hA15 _ (Kd.reads_of_C HR0.out)))
              have HC210 := Aside0.mk hC15
              clear hA15 hC15 hi015 hsz15
              generalize hdl15_ : (l0.drop (x210001_1 : Int).toNat) = dl15_ at *
              go_wp2_with (first | ((with_reducible refine gate_callee (f := 16) rfl ?_); refine goesL_ (some 17) rfl rfl Try.func16 (by kernel_rfl) rfl #[.slice A15 dl15_.length (c0 - x210001_1.toNat)] rfl (by (try simp only [List.map_toArray, List.map_cons, List.map_nil]); first | done | (rw [show dl15_.length = (l0.length - x210001_1.toNat) from List.length_drop] <;> rfl) | rfl | (simp only [List.length_drop, List.length_take]; rfl)) ?_; (with_reducible refine (impl_nextFrame.calls k1 _ _ dl15_ t211 t212 t215 t216 _ ?side1 ?side2 A11.out).mono ?_); (case side1 => exact kc_ (Kd.C_below HR210.out HB.out)); (case side2 => exact HC210.out); rintro e w16 ⟨v213, rfl, ho0, hb⟩; refine ⟨_, rfl, ?_⟩; replace HO_210002 := Aside0.mk (Kd.S_elder' (by (with_reducible repeat (first | apply Kd.S_alloc | apply Kd.S_drewN | apply Kd.S_drew)); exact HO_210002.out) (Kd.R_base ho0) hb); have HO214 := Aside0.mk (Kd.R_lower ho0 (below_size bb_)); replace BK208 := Aside0.mk (blk_below (kb_ BK208) hb); replace BK209 := Aside0.mk (blk_below (kb_ BK209) hb); replace HB := Aside0.mk (below_step bb_ hb); (try clear hb); (try clear hb2); (try clear hk); (try clear hi); (try clear ho0)) | ((with_reducible refine gate_dst (N := 4) rfl ?_); refine box_e_ 4 #[.int .i64 0, .slice none 0 0] 26 ?_; intro gb217 hg w17 hbox hb; replace HO_210002 := Aside0.mk (Kd.S_below (Kd.S_elderB (by (with_reducible repeat (first | apply Kd.S_alloc | apply Kd.S_drewN | apply Kd.S_drew)); exact HO_210002.out) gb217 (Nat.le_of_eq hg.symm)) hb); replace HO214 := Aside0.mk (Kd.R_below (kr_ HO214) hb); have BK217 := Aside0.mk (hbox); have GW217 := (bs_ hg : Aside0 (w.heap.size ≤ _)); have GE217 := (bs_ hg : Aside0 (w.heap.size ≤ _)); replace HB := Aside0.mk (below_step bb_ hb); have NB208_217 := (nl_ hg BK208 : Aside0 (gb208 ≠ gb217)); have NB217_208 := (nr_ hg BK208 : Aside0 (gb217 ≠ gb208)); replace BK208 := Aside0.mk (blk_below (kb_ BK208) hb); have NB209_217 := (nl_ hg BK209 : Aside0 (gb209 ≠ gb217)); have NB217_209 := (nr_ hg BK209 : Aside0 (gb217 ≠ gb209)); replace BK209 := Aside0.mk (blk_below (kb_ BK209) hb); clear hb hbox hg; have hnb18 := NB217_208.out; have hnc18 := NB208_217.out; have hnb19 := NB217_209.out; have hnc19 := NB209_217.out; obtain ⟨hcz20_0, hcz20_1, hfz20_0, hfz20_1⟩ := cf2_ BK217; obtain ⟨Ao21, co21, eo21⟩ := Kd.R_slice HO214.out; subst eo21; obtain ⟨hcz22_0, hcz22_1, hcz22_2, hfz22_0, hfz22_1, hfz22_2⟩ := cf3_ BK209; obtain ⟨hcz23_0, hcz23_1, hcz23_2, hfz23_0, hfz23_1, hfz23_2⟩ := cf3_ BK208; obtain ⟨Ao24, co24, eo24⟩ := Kd.S_slice HO_210002.out; subst eo24))
              refine bodyPost_ret (results_cell_row rfl _ _ gb208 34 #[.int .i64 t216, .int .i64 x210001_1, .slice Ao24 x210002_1.length co24] (0, 0) _ rfl (by (with_reducible repeat (first | refine blk_drewN ?_ _ | refine blk_drew ?_ | refine blk_alloc ?_ _)); refine blk_put (cs := #[.int .i64 t216, .int .i64 x210001_1, .slice none 0 0]) ?_ 2 _ rfl; (with_reducible repeat (first | refine blk_drewN ?_ _ | refine blk_drew ?_ | refine blk_alloc ?_ _)); refine blk_put (cs := #[.int .i64 t216, .int .i64 x209001_1, .slice none 0 0]) ?_ 1 _ rfl; (with_reducible repeat (first | refine blk_drewN ?_ _ | refine blk_drew ?_ | refine blk_alloc ?_ _)); refine blk_put (cs := #[.int .i64 x209000_1, .int .i64 x209001_1, .slice none 0 0]) ?_ 0 _ rfl; (with_reducible repeat (first | refine blk_drewN ?_ _ | refine blk_drew ?_ | refine blk_alloc ?_ _)); refine blk_far ?_ NB208_209.out _; (with_reducible repeat (first | refine blk_drewN ?_ _ | refine blk_drew ?_ | refine blk_alloc ?_ _)); refine blk_far ?_ NB208_217.out _; (with_reducible repeat (first | refine blk_drewN ?_ _ | refine blk_drew ?_ | refine blk_alloc ?_ _)); refine blk_far ?_ NB208_217.out _; (with_reducible repeat (first | refine blk_drewN ?_ _ | refine blk_drew ?_ | refine blk_alloc ?_ _)); exact BK208.out) Try.underlying34 rfl (by kernel_rfl)) rfl ?_
              exact ⟨_, er_, by (with_reducible repeat (first | apply Kd.S_alloc | apply Kd.S_drewN | apply Kd.S_drew)); exact Kd.S_mono (Kd.S_far (p := ⟨gb208, 2, none⟩) (Kd.S_far (p := ⟨gb208, 1, none⟩) (Kd.S_far (p := ⟨gb208, 0, none⟩) (Kd.S_far (p := ⟨gb209, 0, none⟩) (Kd.S_far (p := ⟨gb217, 1, none⟩) (Kd.S_far (p := ⟨gb217, 0, none⟩) (Kd.S_types (Kd.S_types (Kd.S_mono HO_210002.out (fun k_ hk => (⟨hk, hk.2⟩ : _ ∧ k_ ≠ gb217))) BK209.out (by decide)) BK208.out (by decide)) (fun _ hk => hk.1.1.2) (.int .i64 t211)) (fun _ hk => hk.1.1.2) (.slice Ao21 t212.length co21)) (fun _ hk => hk.1.2) (.int .i64 t216)) (fun _ hk => hk.2) (.int .i64 t216)) (fun _ hk => hk.2) (.int .i64 x210001_1)) (fun _ hk => hk.2) (.slice Ao24 x210002_1.length co24)) (fun _ hk => trivial), bb_⟩
            · rw [if_neg c12] at H
              have c12b0 : (t215 == 0) = false := beq_eq_false_iff_ne.mpr c12
              have c12b1 : (t215 != 0) = true := bne_iff_ne.mpr c12
              by_cases c25 : x210002_1.length < 4398046511104
              · rw [if_pos c25] at H
                have LMc25 := Aside0.mk c25
                clear c25
                obtain ⟨y218, hy218⟩ : ∃ y_ : List (S26), y_ = (x210002_1 ++ [(⟨t211, t212⟩ : S26)]) := ⟨_, rfl⟩
                replace H : (impl_SplitFrames.l0 k1 l0 x210000_1 (wrap64 (x210001_1 + t215)) y218) = some (r1, r2, r3) := by first | (rw [hy218]; with_reducible exact H) | (have H2_ := (Option.bind_some _ _).symm.trans H; rw [hy218]; with_reducible exact H2_) | (have H2_ := (Option.bind_some _ _).symm.trans H; with_reducible exact H2_) | with_reducible exact H | (rw [hy218]; exact H) | exact H
                have Ny218 := Aside0.mk hy218
                clear hy218
                have H' := Aside0.mk H
                clear H
                have hnb26 := NB209_208.out
                have hnc26 := NB208_209.out
                obtain ⟨hcz27_0, hcz27_1, hcz27_2, hfz27_0, hfz27_1, hfz27_2⟩ := cf3_ BK209
                obtain ⟨i028, hi028, _, hsz28, _⟩ := info_parts info5
                obtain ⟨A28, hcut28, hA28, hC28⟩ := print_drop_of (P := Try.prog) (Value.int .u8) 0 22 5 .i64 Try.underlying22 hi028 hsz28 A0 c0 l0 x210001_1 (of_decide_eq_true as_) (of_decide_eq_true as_) HC0.out
                have HR210 := Aside0.mk (Kd.C_of_reads (h1 := fun _ => rfl) (hA28 _ (Kd.reads_of_C HR0.out)))
                have HC210 := Aside0.mk hC28
                clear hA28 hC28 hi028 hsz28
                generalize hdl28_ : (l0.drop (x210001_1 : Int).toNat) = dl28_ at *
                go_wp2_with (first | ((with_reducible refine gate_callee (f := 16) rfl ?_); refine goesL_ (some 17) rfl rfl Try.func16 (by kernel_rfl) rfl #[.slice A28 dl28_.length (c0 - x210001_1.toNat)] rfl (by (try simp only [List.map_toArray, List.map_cons, List.map_nil]); first | done | (rw [show dl28_.length = (l0.length - x210001_1.toNat) from List.length_drop] <;> rfl) | rfl | (simp only [List.length_drop, List.length_take]; rfl)) ?_; (with_reducible refine (impl_nextFrame.calls k1 _ _ dl28_ t211 t212 t215 t216 _ ?side1 ?side2 A11.out).mono ?_); (case side1 => exact kc_ (Kd.C_below HR210.out HB.out)); (case side2 => exact HC210.out); rintro e w29 ⟨v213, rfl, ho0, hb⟩; refine ⟨_, rfl, ?_⟩; replace HO_210002 := Aside0.mk (Kd.S_elder' (by (with_reducible repeat (first | apply Kd.S_alloc | apply Kd.S_drewN | apply Kd.S_drew)); exact HO_210002.out) (Kd.R_base ho0) hb); have HO214 := Aside0.mk (Kd.R_lower ho0 (below_size bb_)); replace BK208 := Aside0.mk (blk_below (kb_ BK208) hb); replace BK209 := Aside0.mk (blk_below (kb_ BK209) hb); replace HB := Aside0.mk (below_step bb_ hb); (try clear hb); (try clear hb2); (try clear hk); (try clear hi); (try clear ho0)) | ((with_reducible refine gate_dst (N := 4) rfl ?_); refine box_e_ 4 #[.int .i64 0, .slice none 0 0] 26 ?_; intro gb217 hg w30 hbox hb; replace HO_210002 := Aside0.mk (Kd.S_below (Kd.S_elderB (by (with_reducible repeat (first | apply Kd.S_alloc | apply Kd.S_drewN | apply Kd.S_drew)); exact HO_210002.out) gb217 (Nat.le_of_eq hg.symm)) hb); replace HO214 := Aside0.mk (Kd.R_below (kr_ HO214) hb); have BK217 := Aside0.mk (hbox); have GW217 := (bs_ hg : Aside0 (w.heap.size ≤ _)); have GE217 := (bs_ hg : Aside0 (w.heap.size ≤ _)); replace HB := Aside0.mk (below_step bb_ hb); have NB208_217 := (nl_ hg BK208 : Aside0 (gb208 ≠ gb217)); have NB217_208 := (nr_ hg BK208 : Aside0 (gb217 ≠ gb208)); replace BK208 := Aside0.mk (blk_below (kb_ BK208) hb); have NB209_217 := (nl_ hg BK209 : Aside0 (gb209 ≠ gb217)); have NB217_209 := (nr_ hg BK209 : Aside0 (gb217 ≠ gb209)); replace BK209 := Aside0.mk (blk_below (kb_ BK209) hb); clear hb hbox hg; have hnb31 := NB217_208.out; have hnc31 := NB208_217.out; have hnb32 := NB217_209.out; have hnc32 := NB209_217.out; obtain ⟨hcz33_0, hcz33_1, hfz33_0, hfz33_1⟩ := cf2_ BK217; obtain ⟨Ao34, co34, eo34⟩ := Kd.R_slice HO214.out; subst eo34) | ((with_reducible refine gate_store (t := 26) (p := 4) rfl ?_); refine store_event (t := 26) (p := 4) (v := ?vo_w35) (w1 := ((w30.setCell ⟨gb217, 0, none⟩ (.int .i64 t211)).setCell ⟨gb217, 1, none⟩ (.slice Ao34 t212.length co34))) ?hg ?ho ?hn ?hr ?_; (case ho => rfl); (case hg => rfl); (case hn => rfl); (case hr => first | (go_simp; done) | (go_simp; rfl)); intro w35 hw; have n0_ : Aside0 (Kd.S k26 26 w35 w.heap.size (fun k_ => some k_ ≠ (.slice Ao34 t212.length co34 : Value).ownBlock ∧ k_ ≠ gb217) u210002 x210002_1) := ⟨(by rw [hw]; exact (by (with_reducible repeat (first | apply Kd.S_alloc | apply Kd.S_drewN | apply Kd.S_drew)); exact Kd.S_mono (Kd.S_far (p := ⟨gb217, 1, none⟩) (Kd.S_far (p := ⟨gb217, 0, none⟩) (Kd.S_mono HO_210002.out (fun k_ hk => (⟨hk, hk.2⟩ : _ ∧ k_ ≠ gb217))) (fun _ hk => hk.2) (.int .i64 t211)) (fun _ hk => hk.2) (.slice Ao34 t212.length co34)) (fun _ hk => ⟨hk.1.1.2, hk.1.2⟩)))⟩; have n1_ : Aside0 (Kd.R (Kd.int .u8) 5 w35 w.heap.size (fun _ => True) (.slice Ao34 t212.length co34) t212) := ⟨(by rw [hw]; exact (by (with_reducible repeat (first | apply Kd.R_alloc | apply Kd.R_drewN | apply Kd.R_drew)); exact Kd.R_mono (Kd.R_far (p := ⟨gb217, 1, none⟩) (Kd.R_far (p := ⟨gb217, 0, none⟩) (Kd.R_types HO214.out BK217.out (by decide)) (fun _ hk => hk.2) (.int .i64 t211)) (fun _ hk => hk.2) (.slice Ao34 t212.length co34)) (fun _ hk => trivial)))⟩; have n2_ : Aside0 (w35.heap[gb208]? = some (.cells #[.int .i64 x209000_1, .int .i64 x209001_1, .slice none 0 0] 34 (0, 0))) := ⟨(by rw [hw]; exact (by (with_reducible repeat (first | refine blk_drewN ?_ _ | refine blk_drew ?_ | refine blk_alloc ?_ _)); refine blk_far ?_ NB208_217.out _; (with_reducible repeat (first | refine blk_drewN ?_ _ | refine blk_drew ?_ | refine blk_alloc ?_ _)); refine blk_far ?_ NB208_217.out _; (with_reducible repeat (first | refine blk_drewN ?_ _ | refine blk_drew ?_ | refine blk_alloc ?_ _)); exact BK208.out))⟩; have n3_ : Aside0 (w35.heap[gb209]? = some (.cells #[.int .i64 x210000_1, .int .i64 x210001_1, u210002] 34 (0, 0))) := ⟨(by rw [hw]; exact (by (with_reducible repeat (first | refine blk_drewN ?_ _ | refine blk_drew ?_ | refine blk_alloc ?_ _)); refine blk_far ?_ NB209_217.out _; (with_reducible repeat (first | refine blk_drewN ?_ _ | refine blk_drew ?_ | refine blk_alloc ?_ _)); refine blk_far ?_ NB209_217.out _; (with_reducible repeat (first | refine blk_drewN ?_ _ | refine blk_drew ?_ | refine blk_alloc ?_ _)); exact BK209.out))⟩; have n4_ : Aside0 (w35.heap[gb217]? = some (.cells #[.int .i64 t211, .slice Ao34 t212.length co34] 26 (0, 0))) := ⟨(by rw [hw]; exact (by (with_reducible repeat (first | refine blk_drewN ?_ _ | refine blk_drew ?_ | refine blk_alloc ?_ _)); refine blk_put (cs := #[.int .i64 t211, .slice none 0 0]) ?_ 1 _ rfl; (with_reducible repeat (first | refine blk_drewN ?_ _ | refine blk_drew ?_ | refine blk_alloc ?_ _)); refine blk_put (cs := #[.int .i64 0, .slice none 0 0]) ?_ 0 _ rfl; (with_reducible repeat (first | refine blk_drewN ?_ _ | refine blk_drew ?_ | refine blk_alloc ?_ _)); exact BK217.out))⟩; have n5_ : Aside0 (Below w.heap.size w w35) := ⟨(by rw [hw]; exact bb_)⟩; clear hw; clear HO_210002; clear HO214; clear BK208; clear BK209; clear BK217; clear HB; have HO_210002 := n0_; have HO214 := n1_; have BK208 := n2_; have BK209 := n3_; have BK217 := n4_; have HB := n5_; clear n0_ n1_ n2_ n3_ n4_ n5_; obtain ⟨hcz36_0, hcz36_1, hcz36_2, hfz36_0, hfz36_1, hfz36_2⟩ := cf3_ BK209) | ((with_reducible refine gate_store (t := 2) (p := 30) rfl ?_); refine store_event (t := 2) (p := 30) (v := ?vo_w37) (w1 := (w35.setCell ⟨gb209, 1, none⟩ (.int .i64 (wrap64 (x210001_1 + t215))))) ?hg ?ho ?hn ?hr ?_; (case ho => rfl); (case hg => rfl); (case hn => rfl); (case hr => first | (go_simp; done) | (go_simp; rfl)); intro w37 hw; have n0_ : Aside0 (Kd.S k26 26 w37 w.heap.size (fun k_ => some k_ ≠ (.slice Ao34 t212.length co34 : Value).ownBlock ∧ k_ ≠ gb217) u210002 x210002_1) := ⟨(by rw [hw]; exact (by (with_reducible repeat (first | apply Kd.S_alloc | apply Kd.S_drewN | apply Kd.S_drew)); exact Kd.S_mono (Kd.S_far (p := ⟨gb209, 1, none⟩) (Kd.S_types HO_210002.out BK209.out (by decide)) (fun _ hk => hk.2) (.int .i64 (wrap64 (x210001_1 + t215)))) (fun _ hk => ⟨hk.1.1, hk.1.2⟩)))⟩; have n1_ : Aside0 (Kd.R (Kd.int .u8) 5 w37 w.heap.size (fun _ => True) (.slice Ao34 t212.length co34) t212) := ⟨(by rw [hw]; exact (by (with_reducible repeat (first | apply Kd.R_alloc | apply Kd.R_drewN | apply Kd.R_drew)); exact Kd.R_mono (Kd.R_far (p := ⟨gb209, 1, none⟩) (Kd.R_types HO214.out BK209.out (by decide)) (fun _ hk => hk.2) (.int .i64 (wrap64 (x210001_1 + t215)))) (fun _ hk => trivial)))⟩; have n2_ : Aside0 (w37.heap[gb208]? = some (.cells #[.int .i64 x209000_1, .int .i64 x209001_1, .slice none 0 0] 34 (0, 0))) := ⟨(by rw [hw]; exact (by (with_reducible repeat (first | refine blk_drewN ?_ _ | refine blk_drew ?_ | refine blk_alloc ?_ _)); refine blk_far ?_ NB208_209.out _; (with_reducible repeat (first | refine blk_drewN ?_ _ | refine blk_drew ?_ | refine blk_alloc ?_ _)); exact BK208.out))⟩; have n3_ : Aside0 (w37.heap[gb209]? = some (.cells #[.int .i64 x210000_1, .int .i64 (wrap64 (x210001_1 + t215)), u210002] 34 (0, 0))) := ⟨(by rw [hw]; exact (by (with_reducible repeat (first | refine blk_drewN ?_ _ | refine blk_drew ?_ | refine blk_alloc ?_ _)); refine blk_put (cs := #[.int .i64 x210000_1, .int .i64 x210001_1, u210002]) ?_ 1 _ rfl; (with_reducible repeat (first | refine blk_drewN ?_ _ | refine blk_drew ?_ | refine blk_alloc ?_ _)); exact BK209.out))⟩; have n4_ : Aside0 (w37.heap[gb217]? = some (.cells #[.int .i64 t211, .slice Ao34 t212.length co34] 26 (0, 0))) := ⟨(by rw [hw]; exact (by (with_reducible repeat (first | refine blk_drewN ?_ _ | refine blk_drew ?_ | refine blk_alloc ?_ _)); refine blk_far ?_ NB217_209.out _; (with_reducible repeat (first | refine blk_drewN ?_ _ | refine blk_drew ?_ | refine blk_alloc ?_ _)); exact BK217.out))⟩; have n5_ : Aside0 (Below w.heap.size w w37) := ⟨(by rw [hw]; exact bb_)⟩; clear hw; clear HO_210002; clear HO214; clear BK208; clear BK209; clear BK217; clear HB; have HO_210002 := n0_; have HO214 := n1_; have BK208 := n2_; have BK209 := n3_; have BK217 := n4_; have HB := n5_; clear n0_ n1_ n2_ n3_ n4_ n5_; obtain ⟨hcz38_0, hcz38_1, hcz38_2, hfz38_0, hfz38_1, hfz38_2⟩ := cf3_ BK209; obtain ⟨hcz39_0, hcz39_1, hfz39_0, hfz39_1⟩ := cf2_ BK217) | ((with_reducible refine gate_builtin (b := .append) (xs := #[.tmp 32, .tmp 34]) rfl ?_); at_builtin; refine Kd.S_append k26 (w0 := w) w.heap.size rfl (.tmp 32) (.tmp 34) 24 26 (.agg #[(.int .i64 0), (.slice none 0 0)]) 32 rfl Try.underlying24 info26 rfl (by decide) (by omega) u210002 x210002_1 (⟨t211, t212⟩ : S26) [.int .i64 t211, .slice Ao34 t212.length co34] (fun k_ => k_ ≠ gb217) (fun k_ => some k_ = (.slice Ao34 t212.length co34 : Value).ownBlock) rfl rfl ?aP (fun k_ hk_ => ((Kd.R_mono (ok' := fun k_ => ((fun k_ => k_ ≠ gb217)) k_ ∧ some k_ ≠ (u210002 : Value).ownBlock) (Kd.R_types (Kd.R_apart' (HO214.out) (Kd.S_typed HO_210002.out) (by decide)) BK217.out (by decide)) (fun k_ hk => ⟨hk.2, hk.1.2⟩))).1 k_ hk_.symm) ?aF ?aO ?aB ?aS ?aL ?_; (case aP => exact k26_mkM _ _ _ (⟨t211, t212⟩ : S26) (Kd.R_mono (Kd.R_tight rfl (Kd.R_mono (ok' := fun k_ => ((fun k_ => k_ ≠ gb217)) k_ ∧ some k_ ≠ (u210002 : Value).ownBlock) (Kd.R_types (Kd.R_apart' (HO214.out) (Kd.S_typed HO_210002.out) (by decide)) BK217.out (by decide)) (fun k_ hk => ⟨hk.2, hk.1.2⟩))) (fun _ h_ => h_))); (case aB => exact bb_); (case aF => exact (fun k_ hk => Kd.freshB (g := gb217) (o := .cells #[.int .i64 t211, .slice Ao34 t212.length co34] 26 (0, 0)) (by (with_reducible repeat (first | refine blk_drewN ?_ _ | refine blk_drew ?_ | refine blk_alloc ?_ _)); exact BK217.out) k_ hk)); (case aO => exact (by (with_reducible repeat (first | apply Kd.S_alloc | apply Kd.S_drewN | apply Kd.S_drew)); exact Kd.S_mono HO_210002.out (fun k_ hk => ⟨hk.2, fun e_ => hk.1 e_⟩))); (case aS => exact (below_size bb_)); (case aL => have := LMc25.out; omega); intro v219 w40 ho hb hg hat; rw [← Ny218.out] at ho; have n0_ := Aside0.mk (blk_grown (g := gb208) (o := .cells #[.int .i64 x209000_1, .int .i64 x209001_1, .slice none 0 0] 34 (0, 0)) (by (with_reducible repeat (first | refine blk_drewN ?_ _ | refine blk_drew ?_ | refine blk_alloc ?_ _)); exact BK208.out) hg (Kd.S_ne HO_210002.out BK208.out (by decide))); have n1_ := Aside0.mk (blk_grown (g := gb209) (o := .cells #[.int .i64 x210000_1, .int .i64 (wrap64 (x210001_1 + t215)), u210002] 34 (0, 0)) (by (with_reducible repeat (first | refine blk_drewN ?_ _ | refine blk_drew ?_ | refine blk_alloc ?_ _)); exact BK209.out) hg (Kd.S_ne HO_210002.out BK209.out (by decide))); have n2_ := Aside0.mk (blk_grown (g := gb217) (o := .cells #[.int .i64 t211, .slice Ao34 t212.length co34] 26 (0, 0)) (by (with_reducible repeat (first | refine blk_drewN ?_ _ | refine blk_drew ?_ | refine blk_alloc ?_ _)); exact BK217.out) hg (Kd.S_away HO_210002.out (fun _ hk => hk.2))); have n3_ := Aside0.mk (hb); have n4_ := Aside0.mk (ho); clear BK208; clear BK209; clear BK217; clear HB; clear HO_210002; clear HO214; have BK208 := n0_; have BK209 := n1_; have BK217 := n2_; have HB := n3_; have HO220 := n4_; clear n0_ n1_ n2_ n3_ n4_; clear ho hb hg hat; obtain ⟨Ao41, co41, eo41⟩ := Kd.S_slice HO220.out; subst eo41; obtain ⟨hcz42_0, hcz42_1, hcz42_2, hfz42_0, hfz42_1, hfz42_2⟩ := cf3_ BK209))
                go_roundg k1
                case measure => have := HK1.out; omega
                case rel => exact ⟨(x209000_1), (x209001_1), (x210000_1), (wrap64 (x210001_1 + t215)), (y218), (.slice Ao41 y218.length co41), H', ⟨by have := HK1.out; omega⟩, ⟨by (with_reducible repeat (first | apply Kd.S_alloc | apply Kd.S_drewN | apply Kd.S_drew)); exact Kd.S_mono (Kd.S_far (p := ⟨gb209, 2, none⟩) (Kd.S_types HO220.out BK209.out (by decide)) (fun _ hk => hk.2) (.slice Ao41 y218.length co41)) (fun _ hk => trivial)⟩, ⟨by (with_reducible repeat (first | refine blk_drewN ?_ _ | refine blk_drew ?_ | refine blk_alloc ?_ _)); refine blk_far ?_ NB208_209.out _; (with_reducible repeat (first | refine blk_drewN ?_ _ | refine blk_drew ?_ | refine blk_alloc ?_ _)); exact BK208.out⟩, ⟨by (with_reducible repeat (first | refine blk_drewN ?_ _ | refine blk_drew ?_ | refine blk_alloc ?_ _)); refine blk_put (cs := #[.int .i64 x210000_1, .int .i64 (wrap64 (x210001_1 + t215)), u210002]) ?_ 2 _ rfl; (with_reducible repeat (first | refine blk_drewN ?_ _ | refine blk_drew ?_ | refine blk_alloc ?_ _)); exact BK209.out⟩, ⟨bb_⟩⟩
              · rw [if_neg c25] at H
                exact absurd H (by simp)
          · rw [if_neg c10] at H
            exact absurd H (by simp)
        · rw [if_neg c9] at H
          exact absurd H (by simp)
end Go.Proofs.Ytifkoddiodgfpaa.PFnFrames
