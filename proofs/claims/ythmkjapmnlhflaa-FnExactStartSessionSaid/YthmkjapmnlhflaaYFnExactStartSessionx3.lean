/- The functions that the law FnExactStartSession reaches: each as a plain Lean function, with the proof that the call does what it says. -/
import Derived.Test.YthmkjapmnlhflaaYFnExactStartSessionx0
import Derived.Test.YthmkjapmnlhflaaYFnExactStartSessionx2
namespace Go.Proofs.Ythmkjapmnlhflaa.PFnExactStartSession
open Go.RowKit Go.Proofs.YthmkjapmnlhflaaW.PrintWords Go.Proofs.YthmkjapmnlhflaaW.PrintLast Go.Proofs.YthmkjapmnlhflaaW.PrintMore
attribute [local go_sem] max2_int min2_int max_two min_two max_three min_three max_four min_four
set_option linter.unusedVariables false
set_option linter.unusedSimpArgs false
def spec_StartSession.f (k : Nat) (a0_0 : Int) (a0_1 : Int) (a0_2 : Int) (a1_0 : Int) (a1_1 : Int) (a1_2 : Int) (a1_3 : Int) (a1_4 : Int) : Option (Int × Int × Int × Int × Int × Int × (List (S136)) × Bool × Bool × Bool) := (spec_l5Asked.f k a0_0 a0_1 a0_2 a1_0 a1_1 a1_2 a1_3 a1_4).bind fun t122 => (if t122 = 0 then (if a1_0 = 0 then (some (0, 1, 0, 0, 0, 0, (([(⟨1, a0_0, a0_2, a0_1, 0, 0, (⟨([] : List (S167)), false, (⟨0, ([] : List Int), 0, 0, 0⟩ : S132), ([] : List (S167))⟩ : S134)⟩ : S136)] : List (S136))), false, false, false)) else ((spec_l5Bad.f 10).bind fun bt126 => (some (bt126.1, bt126.2.1, bt126.2.2.1, bt126.2.2.2.1, bt126.2.2.2.2.1, bt126.2.2.2.2.2.1, bt126.2.2.2.2.2.2.1, bt126.2.2.2.2.2.2.2.1, bt126.2.2.2.2.2.2.2.2.1, bt126.2.2.2.2.2.2.2.2.2)))) else ((spec_l5Bad.f t122).bind fun bt138 => (some (bt138.1, bt138.2.1, bt138.2.2.1, bt138.2.2.2.1, bt138.2.2.2.2.1, bt138.2.2.2.2.2.1, bt138.2.2.2.2.2.2.1, bt138.2.2.2.2.2.2.2.1, bt138.2.2.2.2.2.2.2.2.1, bt138.2.2.2.2.2.2.2.2.2))))
theorem spec_StartSession.mono : ∀ a0 a1 a2 a3 a4 a5 a6 a7 k, LeO (spec_StartSession.f k a0 a1 a2 a3 a4 a5 a6 a7) (spec_StartSession.f (k + 1) a0 a1 a2 a3 a4 a5 a6 a7) := by
  intro a0 a1 a2 a3 a4 a5 a6 a7 k
  unfold spec_StartSession.f
  repeat' first
      | (with_reducible exact spec_l5Asked.mono _ _ _ _ _ _ _ _ _)
      | (with_reducible exact LeO.refl _)
      | (with_reducible exact LeO.none _)
      | (with_reducible refine LeO.ite ?_ ?_)
      | (with_reducible refine LeO.bind ?_ (fun _ => ?_))
      | exact spec_l5Asked.mono _ _ _ _ _ _ _ _ _
      | exact LeO.none _
      | refine LeO.ite ?_ ?_
      | refine LeO.bind ?_ (fun _ => ?_)
set_option maxHeartbeats 8000000 in
set_option maxRecDepth 100000 in
theorem spec_StartSession.calls (k : Nat) (a0_0 : Int) (a0_1 : Int) (a0_2 : Int) (a1_0 : Int) (a1_1 : Int) (a1_2 : Int) (a1_3 : Int) (a1_4 : Int) (r1 : Int) (r2 : Int) (r3 : Int) (r4 : Int) (r5 : Int) (r6 : Int) (r7 : List (S136)) (r8 : Bool) (r9 : Bool) (r10 : Bool) (w : World) (h : spec_StartSession.f k a0_0 a0_1 a0_2 a1_0 a1_1 a1_2 a1_3 a1_4 = some (r1, r2, r3, r4, r5, r6, r7, r8, r9, r10)) :
    Calls Try.prog 28 #[.agg #[.int .i64 a0_0, .int .i64 a0_1, .int .i64 a0_2], .agg #[.int .i64 a1_0, .int .i64 a1_1, .int .i64 a1_2, .int .i64 a1_3, .int .i64 a1_4]] w fun e w' => ∃ v6_ : Value, e = .returned (.agg #[.int .i64 r1, .int .i64 r2, .int .i64 r3, .int .i64 r4, .int .i64 r5, .int .i64 r6, v6_, .bool r8, .bool r9, .bool r10]) ∧ Kd.S k136 136 w' w.heap.size (fun _ => True) v6_ r7 ∧ Below w.heap.size w w' := by
  have hu47 := Try.underlying47
  have hu42 := Try.underlying42
  have hu45 := Try.underlying45
  have hu136 := Try.underlying136
  have HB := Aside0.mk (Below.refl w.heap.size w)
  have H : ((spec_l5Asked.f k a0_0 a0_1 a0_2 a1_0 a1_1 a1_2 a1_3 a1_4).bind fun t122 => (if t122 = 0 then (if a1_0 = 0 then (some (0, 1, 0, 0, 0, 0, (([(⟨1, a0_0, a0_2, a0_1, 0, 0, (⟨([] : List (S167)), false, (⟨0, ([] : List Int), 0, 0, 0⟩ : S132), ([] : List (S167))⟩ : S134)⟩ : S136)] : List (S136))), false, false, false)) else ((spec_l5Bad.f 10).bind fun bt126 => (some (bt126.1, bt126.2.1, bt126.2.2.1, bt126.2.2.2.1, bt126.2.2.2.2.1, bt126.2.2.2.2.2.1, bt126.2.2.2.2.2.2.1, bt126.2.2.2.2.2.2.2.1, bt126.2.2.2.2.2.2.2.2.1, bt126.2.2.2.2.2.2.2.2.2)))) else ((spec_l5Bad.f t122).bind fun bt138 => (some (bt138.1, bt138.2.1, bt138.2.2.1, bt138.2.2.2.1, bt138.2.2.2.2.1, bt138.2.2.2.2.2.1, bt138.2.2.2.2.2.2.1, bt138.2.2.2.2.2.2.2.1, bt138.2.2.2.2.2.2.2.2.1, bt138.2.2.2.2.2.2.2.2.2))))) = some (r1, r2, r3, r4, r5, r6, r7, r8, r9, r10) := h
  clear h
  replace H := Option.bind_eq_some_iff.mp H
  obtain ⟨t122, A30, H⟩ := H
  replace H : (if t122 = 0 then (if a1_0 = 0 then (some (0, 1, 0, 0, 0, 0, (([(⟨1, a0_0, a0_2, a0_1, 0, 0, (⟨([] : List (S167)), false, (⟨0, ([] : List Int), 0, 0, 0⟩ : S132), ([] : List (S167))⟩ : S134)⟩ : S136)] : List (S136))), false, false, false)) else ((spec_l5Bad.f 10).bind fun bt126 => (some (bt126.1, bt126.2.1, bt126.2.2.1, bt126.2.2.2.1, bt126.2.2.2.2.1, bt126.2.2.2.2.2.1, bt126.2.2.2.2.2.2.1, bt126.2.2.2.2.2.2.2.1, bt126.2.2.2.2.2.2.2.2.1, bt126.2.2.2.2.2.2.2.2.2)))) else ((spec_l5Bad.f t122).bind fun bt138 => (some (bt138.1, bt138.2.1, bt138.2.2.1, bt138.2.2.2.1, bt138.2.2.2.2.1, bt138.2.2.2.2.2.1, bt138.2.2.2.2.2.2.1, bt138.2.2.2.2.2.2.2.1, bt138.2.2.2.2.2.2.2.2.1, bt138.2.2.2.2.2.2.2.2.2)))) = some (r1, r2, r3, r4, r5, r6, r7, r8, r9, r10) := H
  have A3 := Aside0.mk A30
  clear A30
  by_cases c4 : t122 = 0
  · rw [if_pos c4] at H
    have c4b0 : (t122 == 0) = true := beq_iff_eq.mpr c4
    have c4b1 : (t122 != 0) = false := bne_eq_false_iff_eq.mpr c4
    clear c4
    by_cases c5 : a1_0 = 0
    · rw [if_pos c5] at H
      have c5b0 : (a1_0 == 0) = true := beq_iff_eq.mpr c5
      have c5b1 : (a1_0 != 0) = false := bne_eq_false_iff_eq.mpr c5
      clear c5
      obtain ⟨y123, hy123⟩ : ∃ y_ : List (S136), y_ = (([(⟨1, a0_0, a0_2, a0_1, 0, 0, (⟨([] : List (S167)), false, (⟨0, ([] : List Int), 0, 0, 0⟩ : S132), ([] : List (S167))⟩ : S134)⟩ : S136)] : List (S136))) := ⟨_, rfl⟩
      replace H : (some (0, 1, 0, 0, 0, 0, y123, false, false, false)) = some (r1, r2, r3, r4, r5, r6, r7, r8, r9, r10) := by first | (rw [hy123]; with_reducible exact H) | (have H2_ := (Option.bind_some _ _).symm.trans H; rw [hy123]; with_reducible exact H2_) | (have H2_ := (Option.bind_some _ _).symm.trans H; with_reducible exact H2_) | with_reducible exact H | (rw [hy123]; exact H) | exact H
      have Ny123 := Aside0.mk hy123
      clear hy123
      simp only [Option.some.injEq, Prod.mk.injEq] at H
      obtain ⟨rfl, rfl, rfl, rfl, rfl, rfl, rfl, rfl, rfl, rfl⟩ := H
      go_enter Try.func28, Try.ntmps28
      go_wp2_with (first | ((with_reducible refine gate_dst (N := 2) rfl ?_); refine box_e_ 2 #[.int .i64 a0_0, .int .i64 a0_1, .int .i64 a0_2] 47 ?_; intro gb119 hg w6 hbox hb; have BK119 := Aside0.mk (hbox); have GW119 := (bs_ hg : Aside0 (w.heap.size ≤ _)); have GE119 := (bs_ hg : Aside0 (w.heap.size ≤ _)); replace HB := Aside0.mk (below_step bb_ hb); clear hb hbox hg) | ((with_reducible refine gate_dst (N := 3) rfl ?_); refine box_e_ 3 #[.int .i64 a1_0, .int .i64 a1_1, .int .i64 a1_2, .int .i64 a1_3, .int .i64 a1_4] 42 ?_; intro gb120 hg w7 hbox hb; have BK120 := Aside0.mk (hbox); have GW120 := (bs_ hg : Aside0 (w.heap.size ≤ _)); have GE120 := (bs_ hg : Aside0 (w.heap.size ≤ _)); replace HB := Aside0.mk (below_step bb_ hb); have NB119_120 := (nl_ hg BK119 : Aside0 (gb119 ≠ gb120)); have NB120_119 := (nr_ hg BK119 : Aside0 (gb120 ≠ gb119)); replace BK119 := Aside0.mk (blk_below (kb_ BK119) hb); clear hb hbox hg) | ((with_reducible refine gate_dst (N := 4) rfl ?_); refine box_e_ 4 #[.int .i64 0, .int .i64 0, .int .i64 0, .int .i64 0, .int .i64 0, .int .i64 0, .slice none 0 0, .bool false, .bool false, .bool false] 45 ?_; intro gb121 hg w8 hbox hb; have BK121 := Aside0.mk (hbox); have GW121 := (bs_ hg : Aside0 (w.heap.size ≤ _)); have GE121 := (bs_ hg : Aside0 (w.heap.size ≤ _)); replace HB := Aside0.mk (below_step bb_ hb); have NB119_121 := (nl_ hg BK119 : Aside0 (gb119 ≠ gb121)); have NB121_119 := (nr_ hg BK119 : Aside0 (gb121 ≠ gb119)); replace BK119 := Aside0.mk (blk_below (kb_ BK119) hb); have NB120_121 := (nl_ hg BK120 : Aside0 (gb120 ≠ gb121)); have NB121_120 := (nr_ hg BK120 : Aside0 (gb121 ≠ gb120)); replace BK120 := Aside0.mk (blk_below (kb_ BK120) hb); clear hb hbox hg; have hnb9 := NB119_120.out; have hnc9 := NB120_119.out; have hnb10 := NB119_121.out; have hnc10 := NB121_119.out; obtain ⟨hcz11_0, hcz11_1, hcz11_2, hfz11_0, hfz11_1, hfz11_2⟩ := cf3_ BK119; have hnb12 := NB120_121.out; have hnc12 := NB121_120.out; obtain ⟨hcz13_0, hcz13_1, hcz13_2, hcz13_3, hcz13_4, hfz13_0, hfz13_1, hfz13_2, hfz13_3, hfz13_4⟩ := cf5_ BK120) | ((with_reducible refine gate_callee (f := 86) rfl ?_); refine goe_ (some 8) Try.func86 #[.agg #[.int .i64 a0_0, .int .i64 a0_1, .int .i64 a0_2], .agg #[.int .i64 a1_0, .int .i64 a1_1, .int .i64 a1_2, .int .i64 a1_3, .int .i64 a1_4]] ?_; (with_reducible refine (spec_l5Asked.calls k a0_0 a0_1 a0_2 a1_0 a1_1 a1_2 a1_3 a1_4 t122 _ A3.out).mono ?_); rintro e w14 ⟨rfl, hb⟩; refine ⟨_, rfl, ?_⟩; replace BK119 := Aside0.mk (blk_below (kb_ BK119) hb); replace BK120 := Aside0.mk (blk_below (kb_ BK120) hb); replace BK121 := Aside0.mk (blk_below (kb_ BK121) hb); replace HB := Aside0.mk (below_step bb_ hb); (try clear hb); (try clear hb2); (try clear hk); (try clear hi); obtain ⟨hcz15_0, hcz15_1, hcz15_2, hcz15_3, hcz15_4, hfz15_0, hfz15_1, hfz15_2, hfz15_3, hfz15_4⟩ := cf5_ BK120; obtain ⟨hcz16_0, hcz16_1, hcz16_2, hfz16_0, hfz16_1, hfz16_2⟩ := cf3_ BK119) | ((with_reducible refine gate_dst (N := 25) rfl ?_); refine Kd.S_lit k136 _ 136 ?hg (N := 25) ?hd (xs := ([(⟨1, a0_0, a0_2, a0_1, 0, 0, (⟨([] : List (S167)), false, (⟨0, ([] : List Int), 0, 0, 0⟩ : S132), ([] : List (S167))⟩ : S134)⟩ : S136)] : List (S136))) (inner := [.int .i64 1, .int .i64 a0_0, .int .i64 a0_2, .int .i64 a0_1, .int .i64 0, .int .i64 0, .slice none 0 0, .bool false, .int .i64 0, .slice none 0 0, .int .i64 0, .int .i64 0, .int .i64 0, .slice none 0 0]) (ok := fun _ => True) (okp := fun _ => True) ?hr ?hp (fun _ hk => hk) trivial (Below.refl _ _) (Nat.le_refl _) (by simp) ?_; (case hd => rfl); (case hg => rfl); (case hr => first | (go_simp; done) | (go_simp; rfl)); (case hp => exact (Reps.front (show Kd.M k136 _ _ _ (⟨1, a0_0, a0_2, a0_1, 0, 0, (⟨([] : List (S167)), false, (⟨0, ([] : List Int), 0, 0, 0⟩ : S132), ([] : List (S167))⟩ : S134)⟩ : S136) [.int .i64 1, .int .i64 a0_0, .int .i64 a0_2, .int .i64 a0_1, .int .i64 0, .int .i64 0, .slice none 0 0, .bool false, .int .i64 0, .slice none 0 0, .int .i64 0, .int .i64 0, .int .i64 0, .slice none 0 0] from (k136_mkM _ _ _ (⟨1, a0_0, a0_2, a0_1, 0, 0, (⟨([] : List (S167)), false, (⟨0, ([] : List Int), 0, 0, 0⟩ : S132), ([] : List (S167))⟩ : S134)⟩ : S136) (Kd.R_nil _ _ _ _ _) (Kd.R_nil _ _ _ _ _) (Kd.R_nil _ _ _ _ _))) rfl (Reps.none _ _) rfl)); intro v124 w17 ho18 hb hg_ hnew_; clear hg_ hnew_; (first | rw [← Ny123.out] at ho18 | (simp only [Int.reduceToNat] at ho18; rw [← Ny123.out] at ho18)); have HO125 := Aside0.mk (Kd.S_lower ho18 (below_size bb_)); replace BK119 := Aside0.mk (blk_below (kb_ BK119) hb); replace BK120 := Aside0.mk (blk_below (kb_ BK120) hb); replace BK121 := Aside0.mk (blk_below (kb_ BK121) hb); replace HB := Aside0.mk (below_step bb_ hb); clear hb ho18; obtain ⟨Ao19, co19, eo19⟩ := Kd.S_slice HO125.out; subst eo19; obtain ⟨hcz20_0, hcz20_1, hcz20_2, hcz20_3, hcz20_4, hcz20_5, hcz20_6, hcz20_7, hcz20_8, hcz20_9, hfz20_0, hfz20_1, hfz20_2, hfz20_3, hfz20_4, hfz20_5, hfz20_6, hfz20_7, hfz20_8, hfz20_9⟩ := cf10_ BK121))
      refine bodyPost_ret (results_cell_row rfl _ _ gb121 45 #[.int .i64 0, .int .i64 1, .int .i64 0, .int .i64 0, .int .i64 0, .int .i64 0, .slice Ao19 y123.length co19, .bool false, .bool false, .bool false] (0, 0) _ rfl (by (with_reducible repeat (first | refine blk_drewN ?_ _ | refine blk_drew ?_ | refine blk_alloc ?_ _)); refine blk_put (cs := #[.int .i64 0, .int .i64 1, .int .i64 0, .int .i64 0, .int .i64 0, .int .i64 0, .slice Ao19 y123.length co19, .bool false, .bool false, .bool false]) ?_ 9 _ rfl; (with_reducible repeat (first | refine blk_drewN ?_ _ | refine blk_drew ?_ | refine blk_alloc ?_ _)); refine blk_put (cs := #[.int .i64 0, .int .i64 1, .int .i64 0, .int .i64 0, .int .i64 0, .int .i64 0, .slice Ao19 y123.length co19, .bool false, .bool false, .bool false]) ?_ 8 _ rfl; (with_reducible repeat (first | refine blk_drewN ?_ _ | refine blk_drew ?_ | refine blk_alloc ?_ _)); refine blk_put (cs := #[.int .i64 0, .int .i64 1, .int .i64 0, .int .i64 0, .int .i64 0, .int .i64 0, .slice Ao19 y123.length co19, .bool false, .bool false, .bool false]) ?_ 7 _ rfl; (with_reducible repeat (first | refine blk_drewN ?_ _ | refine blk_drew ?_ | refine blk_alloc ?_ _)); refine blk_put (cs := #[.int .i64 0, .int .i64 1, .int .i64 0, .int .i64 0, .int .i64 0, .int .i64 0, .slice none 0 0, .bool false, .bool false, .bool false]) ?_ 6 _ rfl; (with_reducible repeat (first | refine blk_drewN ?_ _ | refine blk_drew ?_ | refine blk_alloc ?_ _)); refine blk_put (cs := #[.int .i64 0, .int .i64 1, .int .i64 0, .int .i64 0, .int .i64 0, .int .i64 0, .slice none 0 0, .bool false, .bool false, .bool false]) ?_ 5 _ rfl; (with_reducible repeat (first | refine blk_drewN ?_ _ | refine blk_drew ?_ | refine blk_alloc ?_ _)); refine blk_put (cs := #[.int .i64 0, .int .i64 1, .int .i64 0, .int .i64 0, .int .i64 0, .int .i64 0, .slice none 0 0, .bool false, .bool false, .bool false]) ?_ 4 _ rfl; (with_reducible repeat (first | refine blk_drewN ?_ _ | refine blk_drew ?_ | refine blk_alloc ?_ _)); refine blk_put (cs := #[.int .i64 0, .int .i64 1, .int .i64 0, .int .i64 0, .int .i64 0, .int .i64 0, .slice none 0 0, .bool false, .bool false, .bool false]) ?_ 3 _ rfl; (with_reducible repeat (first | refine blk_drewN ?_ _ | refine blk_drew ?_ | refine blk_alloc ?_ _)); refine blk_put (cs := #[.int .i64 0, .int .i64 1, .int .i64 0, .int .i64 0, .int .i64 0, .int .i64 0, .slice none 0 0, .bool false, .bool false, .bool false]) ?_ 2 _ rfl; (with_reducible repeat (first | refine blk_drewN ?_ _ | refine blk_drew ?_ | refine blk_alloc ?_ _)); refine blk_put (cs := #[.int .i64 0, .int .i64 0, .int .i64 0, .int .i64 0, .int .i64 0, .int .i64 0, .slice none 0 0, .bool false, .bool false, .bool false]) ?_ 1 _ rfl; (with_reducible repeat (first | refine blk_drewN ?_ _ | refine blk_drew ?_ | refine blk_alloc ?_ _)); refine blk_put (cs := #[.int .i64 0, .int .i64 0, .int .i64 0, .int .i64 0, .int .i64 0, .int .i64 0, .slice none 0 0, .bool false, .bool false, .bool false]) ?_ 0 _ rfl; (with_reducible repeat (first | refine blk_drewN ?_ _ | refine blk_drew ?_ | refine blk_alloc ?_ _)); exact BK121.out) Try.underlying45 rfl (by kernel_rfl)) rfl ?_
      exact ⟨_, er_, by (with_reducible repeat (first | apply Kd.S_alloc | apply Kd.S_drewN | apply Kd.S_drew)); exact Kd.S_mono (Kd.S_far (p := ⟨gb121, 9, none⟩) (Kd.S_far (p := ⟨gb121, 8, none⟩) (Kd.S_far (p := ⟨gb121, 7, none⟩) (Kd.S_far (p := ⟨gb121, 6, none⟩) (Kd.S_far (p := ⟨gb121, 5, none⟩) (Kd.S_far (p := ⟨gb121, 4, none⟩) (Kd.S_far (p := ⟨gb121, 3, none⟩) (Kd.S_far (p := ⟨gb121, 2, none⟩) (Kd.S_far (p := ⟨gb121, 1, none⟩) (Kd.S_far (p := ⟨gb121, 0, none⟩) (Kd.S_types HO125.out BK121.out (by decide)) (fun _ hk => hk.2) (.int .i64 0)) (fun _ hk => hk.2) (.int .i64 1)) (fun _ hk => hk.2) (.int .i64 0)) (fun _ hk => hk.2) (.int .i64 0)) (fun _ hk => hk.2) (.int .i64 0)) (fun _ hk => hk.2) (.int .i64 0)) (fun _ hk => hk.2) (.slice Ao19 y123.length co19)) (fun _ hk => hk.2) (.bool false)) (fun _ hk => hk.2) (.bool false)) (fun _ hk => hk.2) (.bool false)) (fun _ hk => trivial), bb_⟩
    · rw [if_neg c5] at H
      have c5b0 : (a1_0 == 0) = false := beq_eq_false_iff_ne.mpr c5
      have c5b1 : (a1_0 != 0) = true := bne_iff_ne.mpr c5
      replace H := Option.bind_eq_some_iff.mp H
      obtain ⟨⟨t126, t127, t128, t129, t130, t131, t132, t135, t136, t137⟩, A210, H⟩ := H
      replace H : (some (t126, t127, t128, t129, t130, t131, t132, t135, t136, t137)) = some (r1, r2, r3, r4, r5, r6, r7, r8, r9, r10) := H
      have A21 := Aside0.mk A210
      clear A210
      simp only [Option.some.injEq, Prod.mk.injEq] at H
      obtain ⟨rfl, rfl, rfl, rfl, rfl, rfl, rfl, rfl, rfl, rfl⟩ := H
      go_enter Try.func28, Try.ntmps28
      go_wp2_with (first | ((with_reducible refine gate_dst (N := 2) rfl ?_); refine box_e_ 2 #[.int .i64 a0_0, .int .i64 a0_1, .int .i64 a0_2] 47 ?_; intro gb119 hg w22 hbox hb; have BK119 := Aside0.mk (hbox); have GW119 := (bs_ hg : Aside0 (w.heap.size ≤ _)); have GE119 := (bs_ hg : Aside0 (w.heap.size ≤ _)); replace HB := Aside0.mk (below_step bb_ hb); clear hb hbox hg) | ((with_reducible refine gate_dst (N := 3) rfl ?_); refine box_e_ 3 #[.int .i64 a1_0, .int .i64 a1_1, .int .i64 a1_2, .int .i64 a1_3, .int .i64 a1_4] 42 ?_; intro gb120 hg w23 hbox hb; have BK120 := Aside0.mk (hbox); have GW120 := (bs_ hg : Aside0 (w.heap.size ≤ _)); have GE120 := (bs_ hg : Aside0 (w.heap.size ≤ _)); replace HB := Aside0.mk (below_step bb_ hb); have NB119_120 := (nl_ hg BK119 : Aside0 (gb119 ≠ gb120)); have NB120_119 := (nr_ hg BK119 : Aside0 (gb120 ≠ gb119)); replace BK119 := Aside0.mk (blk_below (kb_ BK119) hb); clear hb hbox hg) | ((with_reducible refine gate_dst (N := 4) rfl ?_); refine box_e_ 4 #[.int .i64 0, .int .i64 0, .int .i64 0, .int .i64 0, .int .i64 0, .int .i64 0, .slice none 0 0, .bool false, .bool false, .bool false] 45 ?_; intro gb121 hg w24 hbox hb; have BK121 := Aside0.mk (hbox); have GW121 := (bs_ hg : Aside0 (w.heap.size ≤ _)); have GE121 := (bs_ hg : Aside0 (w.heap.size ≤ _)); replace HB := Aside0.mk (below_step bb_ hb); have NB119_121 := (nl_ hg BK119 : Aside0 (gb119 ≠ gb121)); have NB121_119 := (nr_ hg BK119 : Aside0 (gb121 ≠ gb119)); replace BK119 := Aside0.mk (blk_below (kb_ BK119) hb); have NB120_121 := (nl_ hg BK120 : Aside0 (gb120 ≠ gb121)); have NB121_120 := (nr_ hg BK120 : Aside0 (gb121 ≠ gb120)); replace BK120 := Aside0.mk (blk_below (kb_ BK120) hb); clear hb hbox hg; have hnb25 := NB119_120.out; have hnc25 := NB120_119.out; have hnb26 := NB119_121.out; have hnc26 := NB121_119.out; obtain ⟨hcz27_0, hcz27_1, hcz27_2, hfz27_0, hfz27_1, hfz27_2⟩ := cf3_ BK119; have hnb28 := NB120_121.out; have hnc28 := NB121_120.out; obtain ⟨hcz29_0, hcz29_1, hcz29_2, hcz29_3, hcz29_4, hfz29_0, hfz29_1, hfz29_2, hfz29_3, hfz29_4⟩ := cf5_ BK120) | ((with_reducible refine gate_callee (f := 86) rfl ?_); refine goe_ (some 8) Try.func86 #[.agg #[.int .i64 a0_0, .int .i64 a0_1, .int .i64 a0_2], .agg #[.int .i64 a1_0, .int .i64 a1_1, .int .i64 a1_2, .int .i64 a1_3, .int .i64 a1_4]] ?_; (with_reducible refine (spec_l5Asked.calls k a0_0 a0_1 a0_2 a1_0 a1_1 a1_2 a1_3 a1_4 t122 _ A3.out).mono ?_); rintro e w30 ⟨rfl, hb⟩; refine ⟨_, rfl, ?_⟩; replace BK119 := Aside0.mk (blk_below (kb_ BK119) hb); replace BK120 := Aside0.mk (blk_below (kb_ BK120) hb); replace BK121 := Aside0.mk (blk_below (kb_ BK121) hb); replace HB := Aside0.mk (below_step bb_ hb); (try clear hb); (try clear hb2); (try clear hk); (try clear hi); obtain ⟨hcz31_0, hcz31_1, hcz31_2, hcz31_3, hcz31_4, hfz31_0, hfz31_1, hfz31_2, hfz31_3, hfz31_4⟩ := cf5_ BK120) | ((with_reducible refine gate_callee (f := 87) rfl ?_); refine goe_ (some 16) Try.func87 #[.int .i64 10] ?_; (with_reducible refine (spec_l5Bad.calls 10 t126 t127 t128 t129 t130 t131 t132 t135 t136 t137 _ A21.out).mono ?_); rintro e w32 ⟨v133, rfl, ho0, hb⟩; refine ⟨_, rfl, ?_⟩; have HO134 := Aside0.mk (Kd.S_lower ho0 (below_size bb_)); replace BK119 := Aside0.mk (blk_below (kb_ BK119) hb); replace BK120 := Aside0.mk (blk_below (kb_ BK120) hb); replace BK121 := Aside0.mk (blk_below (kb_ BK121) hb); replace HB := Aside0.mk (below_step bb_ hb); (try clear hb); (try clear hb2); (try clear hk); (try clear hi); (try clear ho0); obtain ⟨hcz33_0, hcz33_1, hcz33_2, hcz33_3, hcz33_4, hcz33_5, hcz33_6, hcz33_7, hcz33_8, hcz33_9, hfz33_0, hfz33_1, hfz33_2, hfz33_3, hfz33_4, hfz33_5, hfz33_6, hfz33_7, hfz33_8, hfz33_9⟩ := cf10_ BK121; obtain ⟨Ao34, co34, eo34⟩ := Kd.S_slice HO134.out; subst eo34))
      refine bodyPost_ret (results_cell_row rfl _ _ gb121 45 #[.int .i64 t126, .int .i64 t127, .int .i64 t128, .int .i64 t129, .int .i64 t130, .int .i64 t131, .slice Ao34 t132.length co34, .bool t135, .bool t136, .bool t137] (0, 0) _ rfl (by (with_reducible repeat (first | refine blk_drewN ?_ _ | refine blk_drew ?_ | refine blk_alloc ?_ _)); refine blk_put (cs := #[.int .i64 t126, .int .i64 t127, .int .i64 t128, .int .i64 t129, .int .i64 t130, .int .i64 t131, .slice Ao34 t132.length co34, .bool t135, .bool t136, .bool false]) ?_ 9 _ rfl; (with_reducible repeat (first | refine blk_drewN ?_ _ | refine blk_drew ?_ | refine blk_alloc ?_ _)); refine blk_put (cs := #[.int .i64 t126, .int .i64 t127, .int .i64 t128, .int .i64 t129, .int .i64 t130, .int .i64 t131, .slice Ao34 t132.length co34, .bool t135, .bool false, .bool false]) ?_ 8 _ rfl; (with_reducible repeat (first | refine blk_drewN ?_ _ | refine blk_drew ?_ | refine blk_alloc ?_ _)); refine blk_put (cs := #[.int .i64 t126, .int .i64 t127, .int .i64 t128, .int .i64 t129, .int .i64 t130, .int .i64 t131, .slice Ao34 t132.length co34, .bool false, .bool false, .bool false]) ?_ 7 _ rfl; (with_reducible repeat (first | refine blk_drewN ?_ _ | refine blk_drew ?_ | refine blk_alloc ?_ _)); refine blk_put (cs := #[.int .i64 t126, .int .i64 t127, .int .i64 t128, .int .i64 t129, .int .i64 t130, .int .i64 t131, .slice none 0 0, .bool false, .bool false, .bool false]) ?_ 6 _ rfl; (with_reducible repeat (first | refine blk_drewN ?_ _ | refine blk_drew ?_ | refine blk_alloc ?_ _)); refine blk_put (cs := #[.int .i64 t126, .int .i64 t127, .int .i64 t128, .int .i64 t129, .int .i64 t130, .int .i64 0, .slice none 0 0, .bool false, .bool false, .bool false]) ?_ 5 _ rfl; (with_reducible repeat (first | refine blk_drewN ?_ _ | refine blk_drew ?_ | refine blk_alloc ?_ _)); refine blk_put (cs := #[.int .i64 t126, .int .i64 t127, .int .i64 t128, .int .i64 t129, .int .i64 0, .int .i64 0, .slice none 0 0, .bool false, .bool false, .bool false]) ?_ 4 _ rfl; (with_reducible repeat (first | refine blk_drewN ?_ _ | refine blk_drew ?_ | refine blk_alloc ?_ _)); refine blk_put (cs := #[.int .i64 t126, .int .i64 t127, .int .i64 t128, .int .i64 0, .int .i64 0, .int .i64 0, .slice none 0 0, .bool false, .bool false, .bool false]) ?_ 3 _ rfl; (with_reducible repeat (first | refine blk_drewN ?_ _ | refine blk_drew ?_ | refine blk_alloc ?_ _)); refine blk_put (cs := #[.int .i64 t126, .int .i64 t127, .int .i64 0, .int .i64 0, .int .i64 0, .int .i64 0, .slice none 0 0, .bool false, .bool false, .bool false]) ?_ 2 _ rfl; (with_reducible repeat (first | refine blk_drewN ?_ _ | refine blk_drew ?_ | refine blk_alloc ?_ _)); refine blk_put (cs := #[.int .i64 t126, .int .i64 0, .int .i64 0, .int .i64 0, .int .i64 0, .int .i64 0, .slice none 0 0, .bool false, .bool false, .bool false]) ?_ 1 _ rfl; (with_reducible repeat (first | refine blk_drewN ?_ _ | refine blk_drew ?_ | refine blk_alloc ?_ _)); refine blk_put (cs := #[.int .i64 0, .int .i64 0, .int .i64 0, .int .i64 0, .int .i64 0, .int .i64 0, .slice none 0 0, .bool false, .bool false, .bool false]) ?_ 0 _ rfl; (with_reducible repeat (first | refine blk_drewN ?_ _ | refine blk_drew ?_ | refine blk_alloc ?_ _)); exact BK121.out) Try.underlying45 rfl (by kernel_rfl)) rfl ?_
      exact ⟨_, er_, by (with_reducible repeat (first | apply Kd.S_alloc | apply Kd.S_drewN | apply Kd.S_drew)); exact Kd.S_mono (Kd.S_far (p := ⟨gb121, 9, none⟩) (Kd.S_far (p := ⟨gb121, 8, none⟩) (Kd.S_far (p := ⟨gb121, 7, none⟩) (Kd.S_far (p := ⟨gb121, 6, none⟩) (Kd.S_far (p := ⟨gb121, 5, none⟩) (Kd.S_far (p := ⟨gb121, 4, none⟩) (Kd.S_far (p := ⟨gb121, 3, none⟩) (Kd.S_far (p := ⟨gb121, 2, none⟩) (Kd.S_far (p := ⟨gb121, 1, none⟩) (Kd.S_far (p := ⟨gb121, 0, none⟩) (Kd.S_types HO134.out BK121.out (by decide)) (fun _ hk => hk.2) (.int .i64 t126)) (fun _ hk => hk.2) (.int .i64 t127)) (fun _ hk => hk.2) (.int .i64 t128)) (fun _ hk => hk.2) (.int .i64 t129)) (fun _ hk => hk.2) (.int .i64 t130)) (fun _ hk => hk.2) (.int .i64 t131)) (fun _ hk => hk.2) (.slice Ao34 t132.length co34)) (fun _ hk => hk.2) (.bool t135)) (fun _ hk => hk.2) (.bool t136)) (fun _ hk => hk.2) (.bool t137)) (fun _ hk => trivial), bb_⟩
  · rw [if_neg c4] at H
    have c4b0 : (t122 == 0) = false := beq_eq_false_iff_ne.mpr c4
    have c4b1 : (t122 != 0) = true := bne_iff_ne.mpr c4
    replace H := Option.bind_eq_some_iff.mp H
    obtain ⟨⟨t138, t139, t140, t141, t142, t143, t144, t147, t148, t149⟩, A350, H⟩ := H
    replace H : (some (t138, t139, t140, t141, t142, t143, t144, t147, t148, t149)) = some (r1, r2, r3, r4, r5, r6, r7, r8, r9, r10) := H
    have A35 := Aside0.mk A350
    clear A350
    simp only [Option.some.injEq, Prod.mk.injEq] at H
    obtain ⟨rfl, rfl, rfl, rfl, rfl, rfl, rfl, rfl, rfl, rfl⟩ := H
    go_enter Try.func28, Try.ntmps28
    go_wp2_with (first | ((with_reducible refine gate_dst (N := 2) rfl ?_); refine box_e_ 2 #[.int .i64 a0_0, .int .i64 a0_1, .int .i64 a0_2] 47 ?_; intro gb119 hg w36 hbox hb; have BK119 := Aside0.mk (hbox); have GW119 := (bs_ hg : Aside0 (w.heap.size ≤ _)); have GE119 := (bs_ hg : Aside0 (w.heap.size ≤ _)); replace HB := Aside0.mk (below_step bb_ hb); clear hb hbox hg) | ((with_reducible refine gate_dst (N := 3) rfl ?_); refine box_e_ 3 #[.int .i64 a1_0, .int .i64 a1_1, .int .i64 a1_2, .int .i64 a1_3, .int .i64 a1_4] 42 ?_; intro gb120 hg w37 hbox hb; have BK120 := Aside0.mk (hbox); have GW120 := (bs_ hg : Aside0 (w.heap.size ≤ _)); have GE120 := (bs_ hg : Aside0 (w.heap.size ≤ _)); replace HB := Aside0.mk (below_step bb_ hb); have NB119_120 := (nl_ hg BK119 : Aside0 (gb119 ≠ gb120)); have NB120_119 := (nr_ hg BK119 : Aside0 (gb120 ≠ gb119)); replace BK119 := Aside0.mk (blk_below (kb_ BK119) hb); clear hb hbox hg) | ((with_reducible refine gate_dst (N := 4) rfl ?_); refine box_e_ 4 #[.int .i64 0, .int .i64 0, .int .i64 0, .int .i64 0, .int .i64 0, .int .i64 0, .slice none 0 0, .bool false, .bool false, .bool false] 45 ?_; intro gb121 hg w38 hbox hb; have BK121 := Aside0.mk (hbox); have GW121 := (bs_ hg : Aside0 (w.heap.size ≤ _)); have GE121 := (bs_ hg : Aside0 (w.heap.size ≤ _)); replace HB := Aside0.mk (below_step bb_ hb); have NB119_121 := (nl_ hg BK119 : Aside0 (gb119 ≠ gb121)); have NB121_119 := (nr_ hg BK119 : Aside0 (gb121 ≠ gb119)); replace BK119 := Aside0.mk (blk_below (kb_ BK119) hb); have NB120_121 := (nl_ hg BK120 : Aside0 (gb120 ≠ gb121)); have NB121_120 := (nr_ hg BK120 : Aside0 (gb121 ≠ gb120)); replace BK120 := Aside0.mk (blk_below (kb_ BK120) hb); clear hb hbox hg; have hnb39 := NB119_120.out; have hnc39 := NB120_119.out; have hnb40 := NB119_121.out; have hnc40 := NB121_119.out; obtain ⟨hcz41_0, hcz41_1, hcz41_2, hfz41_0, hfz41_1, hfz41_2⟩ := cf3_ BK119; have hnb42 := NB120_121.out; have hnc42 := NB121_120.out; obtain ⟨hcz43_0, hcz43_1, hcz43_2, hcz43_3, hcz43_4, hfz43_0, hfz43_1, hfz43_2, hfz43_3, hfz43_4⟩ := cf5_ BK120) | ((with_reducible refine gate_callee (f := 86) rfl ?_); refine goe_ (some 8) Try.func86 #[.agg #[.int .i64 a0_0, .int .i64 a0_1, .int .i64 a0_2], .agg #[.int .i64 a1_0, .int .i64 a1_1, .int .i64 a1_2, .int .i64 a1_3, .int .i64 a1_4]] ?_; (with_reducible refine (spec_l5Asked.calls k a0_0 a0_1 a0_2 a1_0 a1_1 a1_2 a1_3 a1_4 t122 _ A3.out).mono ?_); rintro e w44 ⟨rfl, hb⟩; refine ⟨_, rfl, ?_⟩; replace BK119 := Aside0.mk (blk_below (kb_ BK119) hb); replace BK120 := Aside0.mk (blk_below (kb_ BK120) hb); replace BK121 := Aside0.mk (blk_below (kb_ BK121) hb); replace HB := Aside0.mk (below_step bb_ hb); (try clear hb); (try clear hb2); (try clear hk); (try clear hi)) | ((with_reducible refine gate_callee (f := 87) rfl ?_); refine goe_ (some 12) Try.func87 #[.int .i64 t122] ?_; (with_reducible refine (spec_l5Bad.calls t122 t138 t139 t140 t141 t142 t143 t144 t147 t148 t149 _ A35.out).mono ?_); rintro e w45 ⟨v145, rfl, ho0, hb⟩; refine ⟨_, rfl, ?_⟩; have HO146 := Aside0.mk (Kd.S_lower ho0 (below_size bb_)); replace BK119 := Aside0.mk (blk_below (kb_ BK119) hb); replace BK120 := Aside0.mk (blk_below (kb_ BK120) hb); replace BK121 := Aside0.mk (blk_below (kb_ BK121) hb); replace HB := Aside0.mk (below_step bb_ hb); (try clear hb); (try clear hb2); (try clear hk); (try clear hi); (try clear ho0); obtain ⟨hcz46_0, hcz46_1, hcz46_2, hcz46_3, hcz46_4, hcz46_5, hcz46_6, hcz46_7, hcz46_8, hcz46_9, hfz46_0, hfz46_1, hfz46_2, hfz46_3, hfz46_4, hfz46_5, hfz46_6, hfz46_7, hfz46_8, hfz46_9⟩ := cf10_ BK121; obtain ⟨Ao47, co47, eo47⟩ := Kd.S_slice HO146.out; subst eo47))
    refine bodyPost_ret (results_cell_row rfl _ _ gb121 45 #[.int .i64 t138, .int .i64 t139, .int .i64 t140, .int .i64 t141, .int .i64 t142, .int .i64 t143, .slice Ao47 t144.length co47, .bool t147, .bool t148, .bool t149] (0, 0) _ rfl (by (with_reducible repeat (first | refine blk_drewN ?_ _ | refine blk_drew ?_ | refine blk_alloc ?_ _)); refine blk_put (cs := #[.int .i64 t138, .int .i64 t139, .int .i64 t140, .int .i64 t141, .int .i64 t142, .int .i64 t143, .slice Ao47 t144.length co47, .bool t147, .bool t148, .bool false]) ?_ 9 _ rfl; (with_reducible repeat (first | refine blk_drewN ?_ _ | refine blk_drew ?_ | refine blk_alloc ?_ _)); refine blk_put (cs := #[.int .i64 t138, .int .i64 t139, .int .i64 t140, .int .i64 t141, .int .i64 t142, .int .i64 t143, .slice Ao47 t144.length co47, .bool t147, .bool false, .bool false]) ?_ 8 _ rfl; (with_reducible repeat (first | refine blk_drewN ?_ _ | refine blk_drew ?_ | refine blk_alloc ?_ _)); refine blk_put (cs := #[.int .i64 t138, .int .i64 t139, .int .i64 t140, .int .i64 t141, .int .i64 t142, .int .i64 t143, .slice Ao47 t144.length co47, .bool false, .bool false, .bool false]) ?_ 7 _ rfl; (with_reducible repeat (first | refine blk_drewN ?_ _ | refine blk_drew ?_ | refine blk_alloc ?_ _)); refine blk_put (cs := #[.int .i64 t138, .int .i64 t139, .int .i64 t140, .int .i64 t141, .int .i64 t142, .int .i64 t143, .slice none 0 0, .bool false, .bool false, .bool false]) ?_ 6 _ rfl; (with_reducible repeat (first | refine blk_drewN ?_ _ | refine blk_drew ?_ | refine blk_alloc ?_ _)); refine blk_put (cs := #[.int .i64 t138, .int .i64 t139, .int .i64 t140, .int .i64 t141, .int .i64 t142, .int .i64 0, .slice none 0 0, .bool false, .bool false, .bool false]) ?_ 5 _ rfl; (with_reducible repeat (first | refine blk_drewN ?_ _ | refine blk_drew ?_ | refine blk_alloc ?_ _)); refine blk_put (cs := #[.int .i64 t138, .int .i64 t139, .int .i64 t140, .int .i64 t141, .int .i64 0, .int .i64 0, .slice none 0 0, .bool false, .bool false, .bool false]) ?_ 4 _ rfl; (with_reducible repeat (first | refine blk_drewN ?_ _ | refine blk_drew ?_ | refine blk_alloc ?_ _)); refine blk_put (cs := #[.int .i64 t138, .int .i64 t139, .int .i64 t140, .int .i64 0, .int .i64 0, .int .i64 0, .slice none 0 0, .bool false, .bool false, .bool false]) ?_ 3 _ rfl; (with_reducible repeat (first | refine blk_drewN ?_ _ | refine blk_drew ?_ | refine blk_alloc ?_ _)); refine blk_put (cs := #[.int .i64 t138, .int .i64 t139, .int .i64 0, .int .i64 0, .int .i64 0, .int .i64 0, .slice none 0 0, .bool false, .bool false, .bool false]) ?_ 2 _ rfl; (with_reducible repeat (first | refine blk_drewN ?_ _ | refine blk_drew ?_ | refine blk_alloc ?_ _)); refine blk_put (cs := #[.int .i64 t138, .int .i64 0, .int .i64 0, .int .i64 0, .int .i64 0, .int .i64 0, .slice none 0 0, .bool false, .bool false, .bool false]) ?_ 1 _ rfl; (with_reducible repeat (first | refine blk_drewN ?_ _ | refine blk_drew ?_ | refine blk_alloc ?_ _)); refine blk_put (cs := #[.int .i64 0, .int .i64 0, .int .i64 0, .int .i64 0, .int .i64 0, .int .i64 0, .slice none 0 0, .bool false, .bool false, .bool false]) ?_ 0 _ rfl; (with_reducible repeat (first | refine blk_drewN ?_ _ | refine blk_drew ?_ | refine blk_alloc ?_ _)); exact BK121.out) Try.underlying45 rfl (by kernel_rfl)) rfl ?_
    exact ⟨_, er_, by (with_reducible repeat (first | apply Kd.S_alloc | apply Kd.S_drewN | apply Kd.S_drew)); exact Kd.S_mono (Kd.S_far (p := ⟨gb121, 9, none⟩) (Kd.S_far (p := ⟨gb121, 8, none⟩) (Kd.S_far (p := ⟨gb121, 7, none⟩) (Kd.S_far (p := ⟨gb121, 6, none⟩) (Kd.S_far (p := ⟨gb121, 5, none⟩) (Kd.S_far (p := ⟨gb121, 4, none⟩) (Kd.S_far (p := ⟨gb121, 3, none⟩) (Kd.S_far (p := ⟨gb121, 2, none⟩) (Kd.S_far (p := ⟨gb121, 1, none⟩) (Kd.S_far (p := ⟨gb121, 0, none⟩) (Kd.S_types HO146.out BK121.out (by decide)) (fun _ hk => hk.2) (.int .i64 t138)) (fun _ hk => hk.2) (.int .i64 t139)) (fun _ hk => hk.2) (.int .i64 t140)) (fun _ hk => hk.2) (.int .i64 t141)) (fun _ hk => hk.2) (.int .i64 t142)) (fun _ hk => hk.2) (.int .i64 t143)) (fun _ hk => hk.2) (.slice Ao47 t144.length co47)) (fun _ hk => hk.2) (.bool t147)) (fun _ hk => hk.2) (.bool t148)) (fun _ hk => hk.2) (.bool t149)) (fun _ hk => trivial), bb_⟩
def laws_toConfig.f (a0_0 : Int) (a0_1 : Int) (a0_2 : Int) : Option (Int × Int × Int) := some (a0_0, a0_1, a0_2)
set_option maxHeartbeats 8000000 in
set_option maxRecDepth 100000 in
theorem laws_toConfig.calls (a0_0 : Int) (a0_1 : Int) (a0_2 : Int) (r1 : Int) (r2 : Int) (r3 : Int) (w : World) (h : laws_toConfig.f a0_0 a0_1 a0_2 = some (r1, r2, r3)) :
    Calls Try.prog 29 #[.agg #[.int .i64 a0_0, .int .i64 a0_1, .int .i64 a0_2]] w fun e w' => e = .returned (.agg #[.int .i64 r1, .int .i64 r2, .int .i64 r3]) ∧ Below w.heap.size w w' := by
  have hu39 := Try.underlying39
  have hu47 := Try.underlying47
  have HB := Aside0.mk (Below.refl w.heap.size w)
  have H : (some (a0_0, a0_1, a0_2)) = some (r1, r2, r3) := h
  clear h
  simp only [Option.some.injEq, Prod.mk.injEq] at H
  obtain ⟨rfl, rfl, rfl⟩ := H
  go_enter Try.func29, Try.ntmps29
  go_wp2_with (first | ((with_reducible refine gate_dst (N := 1) rfl ?_); refine box_e_ 1 #[.int .i64 a0_0, .int .i64 a0_1, .int .i64 a0_2] 39 ?_; intro gb150 hg w2 hbox hb; have BK150 := Aside0.mk (hbox); have GW150 := (bs_ hg : Aside0 (w.heap.size ≤ _)); have GE150 := (bs_ hg : Aside0 (w.heap.size ≤ _)); replace HB := Aside0.mk (below_step bb_ hb); clear hb hbox hg) | ((with_reducible refine gate_dst (N := 2) rfl ?_); refine box_e_ 2 #[.int .i64 0, .int .i64 0, .int .i64 0] 47 ?_; intro gb151 hg w3 hbox hb; have BK151 := Aside0.mk (hbox); have GW151 := (bs_ hg : Aside0 (w.heap.size ≤ _)); have GE151 := (bs_ hg : Aside0 (w.heap.size ≤ _)); replace HB := Aside0.mk (below_step bb_ hb); have NB150_151 := (nl_ hg BK150 : Aside0 (gb150 ≠ gb151)); have NB151_150 := (nr_ hg BK150 : Aside0 (gb151 ≠ gb150)); replace BK150 := Aside0.mk (blk_below (kb_ BK150) hb); clear hb hbox hg) | ((with_reducible refine gate_dst (N := 3) rfl ?_); refine box_e_ 3 #[.int .i64 0, .int .i64 0, .int .i64 0] 47 ?_; intro gb152 hg w4 hbox hb; have BK152 := Aside0.mk (hbox); have GW152 := (bs_ hg : Aside0 (w.heap.size ≤ _)); have GE152 := (bs_ hg : Aside0 (w.heap.size ≤ _)); replace HB := Aside0.mk (below_step bb_ hb); have NB150_152 := (nl_ hg BK150 : Aside0 (gb150 ≠ gb152)); have NB152_150 := (nr_ hg BK150 : Aside0 (gb152 ≠ gb150)); replace BK150 := Aside0.mk (blk_below (kb_ BK150) hb); have NB151_152 := (nl_ hg BK151 : Aside0 (gb151 ≠ gb152)); have NB152_151 := (nr_ hg BK151 : Aside0 (gb152 ≠ gb151)); replace BK151 := Aside0.mk (blk_below (kb_ BK151) hb); clear hb hbox hg; have hnb5 := NB150_151.out; have hnc5 := NB151_150.out; have hnb6 := NB150_152.out; have hnc6 := NB152_150.out; obtain ⟨hcz7_0, hcz7_1, hcz7_2, hfz7_0, hfz7_1, hfz7_2⟩ := cf3_ BK150; have hnb8 := NB152_151.out; have hnc8 := NB151_152.out; obtain ⟨hcz9_0, hcz9_1, hcz9_2, hfz9_0, hfz9_1, hfz9_2⟩ := cf3_ BK152; obtain ⟨hcz10_0, hcz10_1, hcz10_2, hfz10_0, hfz10_1, hfz10_2⟩ := cf3_ BK151))
  refine bodyPost_ret (results_cell_row rfl _ _ gb151 47 #[.int .i64 a0_0, .int .i64 a0_1, .int .i64 a0_2] (0, 0) _ rfl (by (with_reducible repeat (first | refine blk_drewN ?_ _ | refine blk_drew ?_ | refine blk_alloc ?_ _)); refine blk_put (cs := #[.int .i64 a0_0, .int .i64 a0_1, .int .i64 0]) ?_ 2 _ rfl; (with_reducible repeat (first | refine blk_drewN ?_ _ | refine blk_drew ?_ | refine blk_alloc ?_ _)); refine blk_put (cs := #[.int .i64 a0_0, .int .i64 0, .int .i64 0]) ?_ 1 _ rfl; (with_reducible repeat (first | refine blk_drewN ?_ _ | refine blk_drew ?_ | refine blk_alloc ?_ _)); refine blk_put (cs := #[.int .i64 0, .int .i64 0, .int .i64 0]) ?_ 0 _ rfl; (with_reducible repeat (first | refine blk_drewN ?_ _ | refine blk_drew ?_ | refine blk_alloc ?_ _)); refine blk_far ?_ NB151_152.out _; (with_reducible repeat (first | refine blk_drewN ?_ _ | refine blk_drew ?_ | refine blk_alloc ?_ _)); refine blk_far ?_ NB151_152.out _; (with_reducible repeat (first | refine blk_drewN ?_ _ | refine blk_drew ?_ | refine blk_alloc ?_ _)); refine blk_far ?_ NB151_152.out _; (with_reducible repeat (first | refine blk_drewN ?_ _ | refine blk_drew ?_ | refine blk_alloc ?_ _)); exact BK151.out) Try.underlying47 rfl (by kernel_rfl)) rfl ?_
  exact ⟨er_, bb_⟩
def laws_toSession.f (a0_0 : Int) (a0_1 : Int) (a0_2 : Int) (a0_3 : Int) (a0_4 : Int) : Option (Int × Int × Int × Int × Int) := some (a0_0, a0_1, a0_2, a0_3, a0_4)
set_option maxHeartbeats 8000000 in
set_option maxRecDepth 100000 in
theorem laws_toSession.calls (a0_0 : Int) (a0_1 : Int) (a0_2 : Int) (a0_3 : Int) (a0_4 : Int) (r1 : Int) (r2 : Int) (r3 : Int) (r4 : Int) (r5 : Int) (w : World) (h : laws_toSession.f a0_0 a0_1 a0_2 a0_3 a0_4 = some (r1, r2, r3, r4, r5)) :
    Calls Try.prog 30 #[.agg #[.int .i64 a0_0, .int .i64 a0_1, .int .i64 a0_2, .int .i64 a0_3, .int .i64 a0_4]] w fun e w' => e = .returned (.agg #[.int .i64 r1, .int .i64 r2, .int .i64 r3, .int .i64 r4, .int .i64 r5]) ∧ Below w.heap.size w w' := by
  have hu41 := Try.underlying41
  have hu42 := Try.underlying42
  have HB := Aside0.mk (Below.refl w.heap.size w)
  have H : (some (a0_0, a0_1, a0_2, a0_3, a0_4)) = some (r1, r2, r3, r4, r5) := h
  clear h
  simp only [Option.some.injEq, Prod.mk.injEq] at H
  obtain ⟨rfl, rfl, rfl, rfl, rfl⟩ := H
  go_enter Try.func30, Try.ntmps30
  go_wp2_with (first | ((with_reducible refine gate_dst (N := 1) rfl ?_); refine box_e_ 1 #[.int .i64 a0_0, .int .i64 a0_1, .int .i64 a0_2, .int .i64 a0_3, .int .i64 a0_4] 41 ?_; intro gb153 hg w2 hbox hb; have BK153 := Aside0.mk (hbox); have GW153 := (bs_ hg : Aside0 (w.heap.size ≤ _)); have GE153 := (bs_ hg : Aside0 (w.heap.size ≤ _)); replace HB := Aside0.mk (below_step bb_ hb); clear hb hbox hg) | ((with_reducible refine gate_dst (N := 2) rfl ?_); refine box_e_ 2 #[.int .i64 0, .int .i64 0, .int .i64 0, .int .i64 0, .int .i64 0] 42 ?_; intro gb154 hg w3 hbox hb; have BK154 := Aside0.mk (hbox); have GW154 := (bs_ hg : Aside0 (w.heap.size ≤ _)); have GE154 := (bs_ hg : Aside0 (w.heap.size ≤ _)); replace HB := Aside0.mk (below_step bb_ hb); have NB153_154 := (nl_ hg BK153 : Aside0 (gb153 ≠ gb154)); have NB154_153 := (nr_ hg BK153 : Aside0 (gb154 ≠ gb153)); replace BK153 := Aside0.mk (blk_below (kb_ BK153) hb); clear hb hbox hg) | ((with_reducible refine gate_dst (N := 3) rfl ?_); refine box_e_ 3 #[.int .i64 0, .int .i64 0, .int .i64 0, .int .i64 0, .int .i64 0] 42 ?_; intro gb155 hg w4 hbox hb; have BK155 := Aside0.mk (hbox); have GW155 := (bs_ hg : Aside0 (w.heap.size ≤ _)); have GE155 := (bs_ hg : Aside0 (w.heap.size ≤ _)); replace HB := Aside0.mk (below_step bb_ hb); have NB153_155 := (nl_ hg BK153 : Aside0 (gb153 ≠ gb155)); have NB155_153 := (nr_ hg BK153 : Aside0 (gb155 ≠ gb153)); replace BK153 := Aside0.mk (blk_below (kb_ BK153) hb); have NB154_155 := (nl_ hg BK154 : Aside0 (gb154 ≠ gb155)); have NB155_154 := (nr_ hg BK154 : Aside0 (gb155 ≠ gb154)); replace BK154 := Aside0.mk (blk_below (kb_ BK154) hb); clear hb hbox hg; have hnb5 := NB153_154.out; have hnc5 := NB154_153.out; have hnb6 := NB153_155.out; have hnc6 := NB155_153.out; obtain ⟨hcz7_0, hcz7_1, hcz7_2, hcz7_3, hcz7_4, hfz7_0, hfz7_1, hfz7_2, hfz7_3, hfz7_4⟩ := cf5_ BK153; have hnb8 := NB155_154.out; have hnc8 := NB154_155.out; obtain ⟨hcz9_0, hcz9_1, hcz9_2, hcz9_3, hcz9_4, hfz9_0, hfz9_1, hfz9_2, hfz9_3, hfz9_4⟩ := cf5_ BK155; obtain ⟨hcz10_0, hcz10_1, hcz10_2, hcz10_3, hcz10_4, hfz10_0, hfz10_1, hfz10_2, hfz10_3, hfz10_4⟩ := cf5_ BK154))
  refine bodyPost_ret (results_cell_row rfl _ _ gb154 42 #[.int .i64 a0_0, .int .i64 a0_1, .int .i64 a0_2, .int .i64 a0_3, .int .i64 a0_4] (0, 0) _ rfl (by (with_reducible repeat (first | refine blk_drewN ?_ _ | refine blk_drew ?_ | refine blk_alloc ?_ _)); refine blk_put (cs := #[.int .i64 a0_0, .int .i64 a0_1, .int .i64 a0_2, .int .i64 a0_3, .int .i64 0]) ?_ 4 _ rfl; (with_reducible repeat (first | refine blk_drewN ?_ _ | refine blk_drew ?_ | refine blk_alloc ?_ _)); refine blk_put (cs := #[.int .i64 a0_0, .int .i64 a0_1, .int .i64 a0_2, .int .i64 0, .int .i64 0]) ?_ 3 _ rfl; (with_reducible repeat (first | refine blk_drewN ?_ _ | refine blk_drew ?_ | refine blk_alloc ?_ _)); refine blk_put (cs := #[.int .i64 a0_0, .int .i64 a0_1, .int .i64 0, .int .i64 0, .int .i64 0]) ?_ 2 _ rfl; (with_reducible repeat (first | refine blk_drewN ?_ _ | refine blk_drew ?_ | refine blk_alloc ?_ _)); refine blk_put (cs := #[.int .i64 a0_0, .int .i64 0, .int .i64 0, .int .i64 0, .int .i64 0]) ?_ 1 _ rfl; (with_reducible repeat (first | refine blk_drewN ?_ _ | refine blk_drew ?_ | refine blk_alloc ?_ _)); refine blk_put (cs := #[.int .i64 0, .int .i64 0, .int .i64 0, .int .i64 0, .int .i64 0]) ?_ 0 _ rfl; (with_reducible repeat (first | refine blk_drewN ?_ _ | refine blk_drew ?_ | refine blk_alloc ?_ _)); refine blk_far ?_ NB154_155.out _; (with_reducible repeat (first | refine blk_drewN ?_ _ | refine blk_drew ?_ | refine blk_alloc ?_ _)); refine blk_far ?_ NB154_155.out _; (with_reducible repeat (first | refine blk_drewN ?_ _ | refine blk_drew ?_ | refine blk_alloc ?_ _)); refine blk_far ?_ NB154_155.out _; (with_reducible repeat (first | refine blk_drewN ?_ _ | refine blk_drew ?_ | refine blk_alloc ?_ _)); refine blk_far ?_ NB154_155.out _; (with_reducible repeat (first | refine blk_drewN ?_ _ | refine blk_drew ?_ | refine blk_alloc ?_ _)); refine blk_far ?_ NB154_155.out _; (with_reducible repeat (first | refine blk_drewN ?_ _ | refine blk_drew ?_ | refine blk_alloc ?_ _)); exact BK154.out) Try.underlying42 rfl (by kernel_rfl)) rfl ?_
  exact ⟨er_, bb_⟩
def impl_in.f (a0 : Int) (a1 : Int) (a2 : Int) : Option (Bool) := if a0 ≥ a1 then (some (decide (a0 ≤ a2))) else (some false)
set_option maxHeartbeats 8000000 in
set_option maxRecDepth 100000 in
theorem impl_in.calls (a0 : Int) (a1 : Int) (a2 : Int) (r : Bool) (w : World) (h : impl_in.f a0 a1 a2 = some r) :
    Calls Try.prog 79 #[.int .i64 a0, .int .i64 a1, .int .i64 a2] w fun e w' => e = .returned (.bool r) ∧ Drawn0 w w' := by
  have H : (if a0 ≥ a1 then (some (decide (a0 ≤ a2))) else (some false)) = some r := h
  clear h
  by_cases c4 : a0 ≥ a1
  · rw [if_pos c4] at H
    have c4b0 : decide (a1 ≤ a0) = true := decide_eq_true c4
    clear c4
    obtain rfl := Option.some.inj H
    go_enter Try.func79, Try.ntmps79
    go_wp2
    go_ret
    exact ⟨sd_, by repeat (first | exact Drawn0.refl _ | apply Drawn0.step)⟩
  · rw [if_neg c4] at H
    have c4b0 : decide (a1 ≤ a0) = false := decide_eq_false c4
    clear c4
    obtain rfl := Option.some.inj H
    go_enter Try.func79, Try.ntmps79
    go_wp2
    go_ret
    exact ⟨sd_, by repeat (first | exact Drawn0.refl _ | apply Drawn0.step)⟩
def impl_isSystem.f (a0 : Int) : Option (Bool) := (impl_in.f a0 1 65535).bind fun t156 => (some t156)
set_option maxHeartbeats 8000000 in
set_option maxRecDepth 100000 in
theorem impl_isSystem.calls (a0 : Int) (r : Bool) (w : World) (h : impl_isSystem.f a0 = some r) :
    Calls Try.prog 186 #[.int .i64 a0] w fun e w' => e = .returned (.bool r) ∧ Drawn0 w w' := by
  have H : ((impl_in.f a0 1 65535).bind fun t156 => (some t156)) = some r := h
  clear h
  replace H := Option.bind_eq_some_iff.mp H
  obtain ⟨t156, A20, H⟩ := H
  replace H : (some t156) = some r := H
  have A2 := Aside0.mk A20
  clear A20
  obtain rfl := Option.some.inj H
  go_enter Try.func186, Try.ntmps186
  go_wp2_with (first | ((with_reducible refine gate_callee (f := 79) rfl ?_); refine goe_ (some 4) Try.func79 #[.int .i64 a0, .int .i64 1, .int .i64 65535] ?_; (with_reducible refine (impl_in.calls a0 1 65535 t156 _ A2.out).mono ?_); rintro e w' ⟨rfl, ⟨nd, rfl⟩⟩; refine ⟨_, rfl, ?_⟩))
  go_ret
  exact ⟨sd_, by repeat (first | exact Drawn0.refl _ | apply Drawn0.step)⟩
def impl_isHold.f (a0 : Int) : Option (Bool) := if a0 = 0 then (some true) else ((impl_in.f a0 3 200).bind fun t157 => (some t157))
set_option maxHeartbeats 8000000 in
set_option maxRecDepth 100000 in
theorem impl_isHold.calls (a0 : Int) (r : Bool) (w : World) (h : impl_isHold.f a0 = some r) :
    Calls Try.prog 187 #[.int .i64 a0] w fun e w' => e = .returned (.bool r) ∧ Drawn0 w w' := by
  have H : (if a0 = 0 then (some true) else ((impl_in.f a0 3 200).bind fun t157 => (some t157))) = some r := h
  clear h
  by_cases c2 : a0 = 0
  · rw [if_pos c2] at H
    have c2b0 : (a0 == 0) = true := beq_iff_eq.mpr c2
    have c2b1 : (a0 != 0) = false := bne_eq_false_iff_eq.mpr c2
    clear c2
    obtain rfl := Option.some.inj H
    go_enter Try.func187, Try.ntmps187
    go_wp2
    go_ret
    exact ⟨sd_, by repeat (first | exact Drawn0.refl _ | apply Drawn0.step)⟩
  · rw [if_neg c2] at H
    have c2b0 : (a0 == 0) = false := beq_eq_false_iff_ne.mpr c2
    have c2b1 : (a0 != 0) = true := bne_iff_ne.mpr c2
    replace H := Option.bind_eq_some_iff.mp H
    obtain ⟨t157, A30, H⟩ := H
    replace H : (some t157) = some r := H
    have A3 := Aside0.mk A30
    clear A30
    obtain rfl := Option.some.inj H
    go_enter Try.func187, Try.ntmps187
    go_wp2_with (first | (go_at_call 79; (with_reducible refine (impl_in.calls a0 3 200 t157 _ A3.out).mono ?_); rintro e w' ⟨rfl, ⟨nd, rfl⟩⟩))
    go_ret
    exact ⟨sd_, by repeat (first | exact Drawn0.refl _ | apply Drawn0.step)⟩
def impl_ConfigFault.f (a0_0 : Int) (a0_1 : Int) (a0_2 : Int) : Option (Int) := (impl_isSystem.f a0_0).bind fun t159 => (if t159 = true then ((impl_isSystem.f a0_1).bind fun t160 => (if t160 = true then ((impl_isHold.f a0_2).bind fun t161 => (if t161 = true then (some 0) else (some 3))) else (some 3))) else (some 3))
set_option maxHeartbeats 8000000 in
set_option maxRecDepth 100000 in
theorem impl_ConfigFault.calls (a0_0 : Int) (a0_1 : Int) (a0_2 : Int) (r : Int) (w : World) (h : impl_ConfigFault.f a0_0 a0_1 a0_2 = some r) :
    Calls Try.prog 141 #[.agg #[.int .i64 a0_0, .int .i64 a0_1, .int .i64 a0_2]] w fun e w' => e = .returned (.int .i64 r) ∧ Below w.heap.size w w' := by
  have hu47 := Try.underlying47
  have HB := Aside0.mk (Below.refl w.heap.size w)
  have H : ((impl_isSystem.f a0_0).bind fun t159 => (if t159 = true then ((impl_isSystem.f a0_1).bind fun t160 => (if t160 = true then ((impl_isHold.f a0_2).bind fun t161 => (if t161 = true then (some 0) else (some 3))) else (some 3))) else (some 3))) = some r := h
  clear h
  replace H := Option.bind_eq_some_iff.mp H
  obtain ⟨t159, A20, H⟩ := H
  replace H : (if t159 = true then ((impl_isSystem.f a0_1).bind fun t160 => (if t160 = true then ((impl_isHold.f a0_2).bind fun t161 => (if t161 = true then (some 0) else (some 3))) else (some 3))) else (some 3)) = some r := H
  have A2 := Aside0.mk A20
  clear A20
  by_cases c3 : t159 = true
  · subst c3
    have H1 : ((impl_isSystem.f a0_1).bind fun t160 => (if t160 = true then ((impl_isHold.f a0_2).bind fun t161 => (if t161 = true then (some 0) else (some 3))) else (some 3))) = some r := by rw [if_pos rfl] at H; exact H
    clear H
    have H := H1
    clear H1
    replace H := Option.bind_eq_some_iff.mp H
    obtain ⟨t160, A40, H⟩ := H
    replace H : (if t160 = true then ((impl_isHold.f a0_2).bind fun t161 => (if t161 = true then (some 0) else (some 3))) else (some 3)) = some r := H
    have A4 := Aside0.mk A40
    clear A40
    by_cases c5 : t160 = true
    · subst c5
      have H1 : ((impl_isHold.f a0_2).bind fun t161 => (if t161 = true then (some 0) else (some 3))) = some r := by rw [if_pos rfl] at H; exact H
      clear H
      have H := H1
      clear H1
      replace H := Option.bind_eq_some_iff.mp H
      obtain ⟨t161, A60, H⟩ := H
      replace H : (if t161 = true then (some 0) else (some 3)) = some r := H
      have A6 := Aside0.mk A60
      clear A60
      by_cases c7 : t161 = true
      · subst c7
        have H1 : (some 0) = some r := by rw [if_pos rfl] at H; exact H
        clear H
        have H := H1
        clear H1
        obtain rfl := Option.some.inj H
        go_enter Try.func141, Try.ntmps141
        go_wp2_with (first | ((with_reducible refine gate_dst (N := 1) rfl ?_); refine box_e_ 1 #[.int .i64 a0_0, .int .i64 a0_1, .int .i64 a0_2] 47 ?_; intro gb158 hg w8 hbox hb; have BK158 := Aside0.mk (hbox); have GW158 := (bs_ hg : Aside0 (w.heap.size ≤ _)); have GE158 := (bs_ hg : Aside0 (w.heap.size ≤ _)); replace HB := Aside0.mk (below_step bb_ hb); clear hb hbox hg; obtain ⟨hcz9_0, hcz9_1, hcz9_2, hfz9_0, hfz9_1, hfz9_2⟩ := cf3_ BK158) | ((with_reducible refine gate_callee (f := 186) rfl ?_); refine goe_ (some 5) Try.func186 #[.int .i64 a0_0] ?_; (with_reducible refine (impl_isSystem.calls a0_0 true _ A2.out).mono ?_); rintro e w' ⟨rfl, ⟨nd, rfl⟩⟩; refine ⟨_, rfl, ?_⟩) | (go_at_call 186; (with_reducible refine (impl_isSystem.calls a0_1 true _ A4.out).mono ?_); rintro e w' ⟨rfl, ⟨nd, rfl⟩⟩) | (go_at_call 187; (with_reducible refine (impl_isHold.calls a0_2 true _ A6.out).mono ?_); rintro e w' ⟨rfl, ⟨nd, rfl⟩⟩))
        go_ret
        exact ⟨er_, bb_⟩
      · replace c7 := Bool.eq_false_iff.mpr c7
        subst c7
        have H1 : (some 3) = some r := by rw [if_neg (show ¬ (false = true) by decide)] at H; exact H
        clear H
        have H := H1
        clear H1
        obtain rfl := Option.some.inj H
        go_enter Try.func141, Try.ntmps141
        go_wp2_with (first | ((with_reducible refine gate_dst (N := 1) rfl ?_); refine box_e_ 1 #[.int .i64 a0_0, .int .i64 a0_1, .int .i64 a0_2] 47 ?_; intro gb158 hg w10 hbox hb; have BK158 := Aside0.mk (hbox); have GW158 := (bs_ hg : Aside0 (w.heap.size ≤ _)); have GE158 := (bs_ hg : Aside0 (w.heap.size ≤ _)); replace HB := Aside0.mk (below_step bb_ hb); clear hb hbox hg; obtain ⟨hcz11_0, hcz11_1, hcz11_2, hfz11_0, hfz11_1, hfz11_2⟩ := cf3_ BK158) | ((with_reducible refine gate_callee (f := 186) rfl ?_); refine goe_ (some 5) Try.func186 #[.int .i64 a0_0] ?_; (with_reducible refine (impl_isSystem.calls a0_0 true _ A2.out).mono ?_); rintro e w' ⟨rfl, ⟨nd, rfl⟩⟩; refine ⟨_, rfl, ?_⟩) | (go_at_call 186; (with_reducible refine (impl_isSystem.calls a0_1 true _ A4.out).mono ?_); rintro e w' ⟨rfl, ⟨nd, rfl⟩⟩) | (go_at_call 187; (with_reducible refine (impl_isHold.calls a0_2 false _ A6.out).mono ?_); rintro e w' ⟨rfl, ⟨nd, rfl⟩⟩))
        go_ret
        exact ⟨er_, bb_⟩
    · replace c5 := Bool.eq_false_iff.mpr c5
      subst c5
      have H1 : (some 3) = some r := by rw [if_neg (show ¬ (false = true) by decide)] at H; exact H
      clear H
      have H := H1
      clear H1
      obtain rfl := Option.some.inj H
      go_enter Try.func141, Try.ntmps141
      go_wp2_with (first | ((with_reducible refine gate_dst (N := 1) rfl ?_); refine box_e_ 1 #[.int .i64 a0_0, .int .i64 a0_1, .int .i64 a0_2] 47 ?_; intro gb158 hg w12 hbox hb; have BK158 := Aside0.mk (hbox); have GW158 := (bs_ hg : Aside0 (w.heap.size ≤ _)); have GE158 := (bs_ hg : Aside0 (w.heap.size ≤ _)); replace HB := Aside0.mk (below_step bb_ hb); clear hb hbox hg; obtain ⟨hcz13_0, hcz13_1, hcz13_2, hfz13_0, hfz13_1, hfz13_2⟩ := cf3_ BK158) | ((with_reducible refine gate_callee (f := 186) rfl ?_); refine goe_ (some 5) Try.func186 #[.int .i64 a0_0] ?_; (with_reducible refine (impl_isSystem.calls a0_0 true _ A2.out).mono ?_); rintro e w' ⟨rfl, ⟨nd, rfl⟩⟩; refine ⟨_, rfl, ?_⟩) | (go_at_call 186; (with_reducible refine (impl_isSystem.calls a0_1 false _ A4.out).mono ?_); rintro e w' ⟨rfl, ⟨nd, rfl⟩⟩))
      go_ret
      exact ⟨er_, bb_⟩
  · replace c3 := Bool.eq_false_iff.mpr c3
    subst c3
    have H1 : (some 3) = some r := by rw [if_neg (show ¬ (false = true) by decide)] at H; exact H
    clear H
    have H := H1
    clear H1
    obtain rfl := Option.some.inj H
    go_enter Try.func141, Try.ntmps141
    go_wp2_with (first | ((with_reducible refine gate_dst (N := 1) rfl ?_); refine box_e_ 1 #[.int .i64 a0_0, .int .i64 a0_1, .int .i64 a0_2] 47 ?_; intro gb158 hg w14 hbox hb; have BK158 := Aside0.mk (hbox); have GW158 := (bs_ hg : Aside0 (w.heap.size ≤ _)); have GE158 := (bs_ hg : Aside0 (w.heap.size ≤ _)); replace HB := Aside0.mk (below_step bb_ hb); clear hb hbox hg; obtain ⟨hcz15_0, hcz15_1, hcz15_2, hfz15_0, hfz15_1, hfz15_2⟩ := cf3_ BK158) | ((with_reducible refine gate_callee (f := 186) rfl ?_); refine goe_ (some 5) Try.func186 #[.int .i64 a0_0] ?_; (with_reducible refine (impl_isSystem.calls a0_0 false _ A2.out).mono ?_); rintro e w' ⟨rfl, ⟨nd, rfl⟩⟩; refine ⟨_, rfl, ?_⟩))
    go_ret
    exact ⟨er_, bb_⟩
def impl_isTwo.f (a0 : Int) : Option (Bool) := (impl_in.f a0 0 65535).bind fun t162 => (some t162)
set_option maxHeartbeats 8000000 in
set_option maxRecDepth 100000 in
theorem impl_isTwo.calls (a0 : Int) (r : Bool) (w : World) (h : impl_isTwo.f a0 = some r) :
    Calls Try.prog 188 #[.int .i64 a0] w fun e w' => e = .returned (.bool r) ∧ Drawn0 w w' := by
  have H : ((impl_in.f a0 0 65535).bind fun t162 => (some t162)) = some r := h
  clear h
  replace H := Option.bind_eq_some_iff.mp H
  obtain ⟨t162, A20, H⟩ := H
  replace H : (some t162) = some r := H
  have A2 := Aside0.mk A20
  clear A20
  obtain rfl := Option.some.inj H
  go_enter Try.func188, Try.ntmps188
  go_wp2_with (first | ((with_reducible refine gate_callee (f := 79) rfl ?_); refine goe_ (some 4) Try.func79 #[.int .i64 a0, .int .i64 0, .int .i64 65535] ?_; (with_reducible refine (impl_in.calls a0 0 65535 t162 _ A2.out).mono ?_); rintro e w' ⟨rfl, ⟨nd, rfl⟩⟩; refine ⟨_, rfl, ?_⟩))
  go_ret
  exact ⟨sd_, by repeat (first | exact Drawn0.refl _ | apply Drawn0.step)⟩
end Go.Proofs.Ythmkjapmnlhflaa.PFnExactStartSession
