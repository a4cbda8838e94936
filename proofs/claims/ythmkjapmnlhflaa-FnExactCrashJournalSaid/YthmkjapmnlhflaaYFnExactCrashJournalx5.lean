/- The functions that the law FnExactCrashJournal reaches: each as a plain Lean function, with the proof that the call does what it says. -/
import Derived.Test.YthmkjapmnlhflaaYFnExactCrashJournalx0
import Derived.Test.YthmkjapmnlhflaaYFnExactCrashJournalx3
import Derived.Test.YthmkjapmnlhflaaYFnExactCrashJournalx4
namespace Go.Proofs.Ythmkjapmnlhflaa.PFnExactCrashJournal
open Go.RowKit Go.Proofs.YthmkjapmnlhflaaW.PrintWords Go.Proofs.YthmkjapmnlhflaaW.PrintLast Go.Proofs.YthmkjapmnlhflaaW.PrintMore
attribute [local go_sem] max2_int min2_int max_two min_two max_three min_three max_four min_four
set_option linter.unusedVariables false
set_option linter.unusedSimpArgs false
def spec_l10One.j0 : Nat → List Int → Int → Bool → Option (Int × Int × Int × List Int × Int)
  | 0, _, _, _ => none
  | k + 1, x0, x4, x22 => if x22 = true then (some (0, 0, 0, ([] : List Int), 0)) else ((spec_l1Take.f k x0 3 2).bind fun t187 => (if 5 < (x0.length : Int) then (if 6 < (x0.length : Int) then ((some (([] : List Int) : List Int)).bind fun y190 => (if 8 ≤ x4 then (if x4 ≤ (x0.length : Int) then (if y190.length + ((x0.take (x4 : Int).toNat).drop 8).length < 140737488355328 then ((some (y190 ++ ((x0.take (x4 : Int).toNat).drop 8) : List Int)).bind fun y194 => ((spec_EntryFault.f k t187 (wrap64 (rd x0 5)) (wrap64 (rd x0 6)) y194).bind fun t198 => (if t198 = 0 then ((spec_l10Pack.f k t187 (wrap64 (rd x0 5)) (wrap64 (rd x0 6)) y194).bind fun t199 => (if 0 ≤ x4 then (if (strOfNums t199).toList = (strOfNums (x0.take (x4 : Int).toNat)).toList then (some (t187, wrap64 (rd x0 5), wrap64 (rd x0 6), y194, x4)) else (some (0, 0, 0, ([] : List Int), 0))) else (none))) else (some (0, 0, 0, ([] : List Int), 0))))) else (none)) else (none)) else (none))) else (none)) else (none)))
def spec_l10One.f (k : Nat) (l0 : List Int) : Option (Int × Int × Int × List Int × Int) := if (l0.length : Int) < 8 then (some (0, 0, 0, ([] : List Int), 0)) else (if 0 < (l0.length : Int) then (if (wrap64 (3 + (wrap64 (rd l0 0)))) < 8 then (spec_l10One.j0 k l0 (wrap64 (3 + (wrap64 (rd l0 0)))) true) else (spec_l10One.j0 k l0 (wrap64 (3 + (wrap64 (rd l0 0)))) (decide ((wrap64 (3 + (wrap64 (rd l0 0)))) > (l0.length : Int))))) else (none))
theorem spec_l10One.mono_l : ∀ k, (∀ y0 y1 y2, LeO (spec_l10One.j0 k y0 y1 y2) (spec_l10One.j0 (k + 1) y0 y1 y2))
  | 0 => fun _ _ _ r h => by simp [spec_l10One.j0] at h
  | k + 1 => by
    have ih0 := spec_l10One.mono_l k
    · intro y0 y1 y2
      unfold spec_l10One.j0
      repeat' first
      | (with_reducible exact ih0 _ _ _)
      | (with_reducible exact spec_EntryFault.mono _ _ _ _ _)
      | (with_reducible exact spec_l10Pack.mono _ _ _ _ _)
      | (with_reducible exact spec_l1Take.mono _ _ _ _)
      | (with_reducible exact LeO.refl _)
      | (with_reducible exact LeO.none _)
      | (with_reducible refine LeO.ite ?_ ?_)
      | (with_reducible refine LeO.bind ?_ (fun _ => ?_))
      | exact ih0 _ _ _
      | exact spec_EntryFault.mono _ _ _ _ _
      | exact spec_l10Pack.mono _ _ _ _ _
      | exact spec_l1Take.mono _ _ _ _
      | exact LeO.none _
      | refine LeO.ite ?_ ?_
      | refine LeO.bind ?_ (fun _ => ?_)
theorem spec_l10One.mono : ∀ a0 k, LeO (spec_l10One.f k a0) (spec_l10One.f (k + 1) a0) := by
  intro a0 k
  have ih0 := spec_l10One.mono_l k
  unfold spec_l10One.f
  repeat' first
      | (with_reducible exact ih0 _ _ _)
      | (with_reducible exact spec_EntryFault.mono _ _ _ _ _)
      | (with_reducible exact spec_l10Pack.mono _ _ _ _ _)
      | (with_reducible exact spec_l1Take.mono _ _ _ _)
      | (with_reducible exact LeO.refl _)
      | (with_reducible exact LeO.none _)
      | (with_reducible refine LeO.ite ?_ ?_)
      | (with_reducible refine LeO.bind ?_ (fun _ => ?_))
      | exact ih0 _ _ _
      | exact spec_EntryFault.mono _ _ _ _ _
      | exact spec_l10Pack.mono _ _ _ _ _
      | exact spec_l1Take.mono _ _ _ _
      | exact LeO.none _
      | refine LeO.ite ?_ ?_
      | refine LeO.bind ?_ (fun _ => ?_)
def spec_l10One.T6 : Bool × List (List Nat × List Nat) := (true, [([], []), ([0], [0]), ([], []), ([2], [2]), ([3], [3]), ([4], [4]), ([], []), ([6], [6]), ([7], [7]), ([8], [8]), ([], []), ([], []), ([], []), ([11, 12], [11, 12]), ([10, 13, 1], [10, 13]), ([5, 9, 14], [5, 9, 14]), ([1, 15], [1, 15]), ([], []), ([17, 16, 14, 0, 1, 2, 3, 4, 5, 6, 7, 8, 9, 10, 11, 12, 13, 14, 15, 16, 17], [16, 17])])
def spec_l10One.B6 : List Nat := [0, 1, 0, 4, 12, 28, 0, 64, 192, 448, 0, 0, 0, 6144, 15363, 32767, 65535, 0, 262143]
theorem spec_l10One.tab6 : rtab .any (opsOf Try.f134 6) = spec_l10One.T6 := by kernel_rfl
theorem spec_l10One.bits6 : waitsOk spec_l10One.T6.2 spec_l10One.B6 = true := by kernel_rfl
def spec_l10One.T7 : Bool × List (List Nat × List Nat) := (true, [([], []), ([0], [0]), ([1], [1]), ([2, 1], [2]), ([3], [3]), ([4, 3, 3], [3, 4]), ([5, 3], [3, 5]), ([3], [3]), ([3], [3]), ([7, 8, 3], [3, 7, 8]), ([9, 3], [3, 9]), ([6, 10, 3], [3, 6, 10]), ([3, 11], [3, 11])])
def spec_l10One.B7 : List Nat := [0, 1, 3, 7, 15, 31, 63, 15, 15, 399, 911, 2047, 4095]
theorem spec_l10One.tab7 : rtab .any (opsOf Try.f134 7) = spec_l10One.T7 := by kernel_rfl
theorem spec_l10One.bits7 : waitsOk spec_l10One.T7.2 spec_l10One.B7 = true := by kernel_rfl
set_option maxHeartbeats 8000000 in
set_option maxRecDepth 100000 in
theorem spec_l10One.calls (k : Nat) (A0 : Option Addr) (c0 : Nat) (l0 : List Int) (r1 : Int) (r2 : Int) (r3 : Int) (r4 : List Int) (r5 : Int) (w : World) (hr0 : Kd.C (Kd.int .u8) w A0 l0.length l0) (hc0 : l0.length ≤ c0) (h : spec_l10One.f k l0 = some (r1, r2, r3, r4, r5)) :
  Calls Try.prog 134 #[.slice A0 l0.length c0] w fun e w' => ∃ v3_ : Value, e = .returned (.tuple #[.agg #[.int .i64 r1, .int .i64 r2, .int .i64 r3, v3_], .int .i64 r5]) ∧ Kd.R (Kd.int .u8) 5 w' w.heap.size (fun _ => True) v3_ r4 ∧ Below w.heap.size w w' := by
 have hu61 := Try.underlying61
 have hu59 := Try.underlying59
 have HR0 := Aside0.mk hr0
 have HC0 := Aside0.mk hc0
 clear hr0 hc0
 have HB := Aside0.mk (Below.refl w.heap.size w)
 have H : (if (l0.length : Int) < 8 then (some (0, 0, 0, ([] : List Int), 0)) else (if 0 < (l0.length : Int) then (if (wrap64 (3 + (wrap64 (rd l0 0)))) < 8 then (spec_l10One.j0 k l0 (wrap64 (3 + (wrap64 (rd l0 0)))) true) else (spec_l10One.j0 k l0 (wrap64 (3 + (wrap64 (rd l0 0)))) (decide ((wrap64 (3 + (wrap64 (rd l0 0)))) > (l0.length : Int))))) else (none))) = some (r1, r2, r3, r4, r5) := h
 clear h
 by_cases c2 : (l0.length : Int) < 8
 ·rw [if_pos c2] at H
  have c2b0 : decide ((l0.length : Int) < 8) = true := decide_eq_true c2
  have c2b1 : decide (l0.length < 8) = true := decide_eq_true (by omega)
  clear c2
  simp only [Option.some.injEq, Prod.mk.injEq] at H
  obtain ⟨rfl, rfl, rfl, rfl, rfl⟩ := H
  go_enter Try.func134, Try.ntmps134
  go_wp2_with (first | ((with_reducible refine gate_dst (N := 2) rfl ?_); (try (refine gate_guard (by rfl) ?_; dsimp only)); refine box_e_ 2 #[.int .i64 0, .int .i64 0, .int .i64 0, .slice none 0 0] 61 ?_; intro gb185 hg w3 hbox hb; have BK185 := Aside0.mk (hbox); have GW185 := (bs_ hg : Aside0 (w.heap.size ≤ _)); have GE185 := (bs_ hg : Aside0 (w.heap.size ≤ _)); replace HB := Aside0.mk (below_step bb_ hb); clear hb hbox hg; obtain ⟨hcz4_0, hcz4_1, hcz4_2, hcz4_3, hfz4_0, hfz4_1, hfz4_2, hfz4_3⟩ := cf4_ BK185))
  refine bodyPost_ret (results_ct rfl _ _ gb185 61 #[.int .i64 0, .int .i64 0, .int .i64 0, .slice none 0 0] (0, 0) _ rfl (by (with_reducible repeat (first | refine blk_drewN ?_ _ | refine blk_drew ?_ | refine blk_alloc ?_ _)); refine blk_put (cs := #[.int .i64 0, .int .i64 0, .int .i64 0, .slice none 0 0]) ?_ 3 _ rfl; (with_reducible repeat (first | refine blk_drewN ?_ _ | refine blk_drew ?_ | refine blk_alloc ?_ _)); refine blk_put (cs := #[.int .i64 0, .int .i64 0, .int .i64 0, .slice none 0 0]) ?_ 2 _ rfl; (with_reducible repeat (first | refine blk_drewN ?_ _ | refine blk_drew ?_ | refine blk_alloc ?_ _)); refine blk_put (cs := #[.int .i64 0, .int .i64 0, .int .i64 0, .slice none 0 0]) ?_ 1 _ rfl; (with_reducible repeat (first | refine blk_drewN ?_ _ | refine blk_drew ?_ | refine blk_alloc ?_ _)); refine blk_put (cs := #[.int .i64 0, .int .i64 0, .int .i64 0, .slice none 0 0]) ?_ 0 _ rfl; (with_reducible repeat (first | refine blk_drewN ?_ _ | refine blk_drew ?_ | refine blk_alloc ?_ _)); exact BK185.out) Try.underlying61 rfl (by kernel_rfl)) rfl ?_
  exact ⟨_, er_, by first | exact Kd.R_nil _ _ _ _ _ | exact Kd.N_nil _ _ _ _ _ | exact Kd.V_nil _ _ _ _ _ | exact Kd.Q_nil _ _ _ _ _ | exact Kd.S_nil _ _ _ _ _, bb_⟩
 ·rw [if_neg c2] at H
  have c2b0 : decide ((l0.length : Int) < 8) = false := decide_eq_false c2
  have c2b1 : decide (l0.length < 8) = false := decide_eq_false (by omega)
  clear c2
  by_cases c5 : 0 < (l0.length : Int)
  ·rw [if_pos c5] at H
   have c5b0 : decide (0 < (l0.length : Int)) = true := decide_eq_true c5
   have c5b1 : decide (0 < l0.length) = true := decide_eq_true (by omega)
   clear c5
   have HC6 := Aside0.mk H
   clear H
   go_enter Try.func134, Try.ntmps134
   go_upto_region 4 with (first | ((with_reducible refine gate_dst (N := 2) rfl ?_); (try (refine gate_guard (by rfl) ?_; dsimp only)); refine box_e_ 2 #[.int .i64 0, .int .i64 0, .int .i64 0, .slice none 0 0] 61 ?_; intro gb185 hg w7 hbox hb; have BK185 := Aside0.mk (hbox); have GW185 := (bs_ hg : Aside0 (w.heap.size ≤ _)); have GE185 := (bs_ hg : Aside0 (w.heap.size ≤ _)); replace HB := Aside0.mk (below_step bb_ hb); clear hb hbox hg; have p186 : 0 ≤ (0 : Int) := (by omega); have q186 : 0 < (l0.length : Int) := of_decide_eq_true as_; obtain ⟨ad186, e186, hx186_0⟩ := Kd.at_int HR0.out 0 p186 q186; cases e186; have qi186 : (0 < l0.length) = True := eq_true (by omega); (try rw [show ((0 : Int)).toNat = 0 from rfl] at hx186_0); (try rw [Addr.add_zero'] at hx186_0); replace hx186_0 := (HB.out.cell (World.block_lt_of_cell? w _ hx186_0)).trans hx186_0; replace p186 := eq_true p186; replace q186 := eq_true q186))
   (try simp only [Act.put, List.setIfInBounds_toArray, List.set_cons_zero, List.set_cons_succ])
   go_cut [22] (fun v22 wc => ∃ (kq : Nat) (x22_5 : Bool), v22 = .bool x22_5 ∧ Aside0 (spec_l10One.j0 kq l0 (wrap64 (3 + (wrap64 (rd l0 0)))) x22_5 = some (r1, r2, r3, r4, r5)) ∧ Aside0 (kq ≤ k) ∧ Aside0 (wc.heap[gb185]? = some (.cells #[.int .i64 0, .int .i64 0, .int .i64 0, (.slice none 0 0)] 61 (0, 0))) ∧ Aside0 (Below w.heap.size w wc))
   case first =>
    have H := HC6.out
    clear HC6
    by_cases c8 : (wrap64 (3 + (wrap64 (rd l0 0)))) < 8
    ·rw [if_pos c8] at H
     have c8b0 : decide ((wrap64 (3 + (wrap64 (rd l0 0)))) < 8) = true := decide_eq_true c8
     clear c8
     (first | rw [c8b0] | (simp only [i64_w, i32_w]; rw [c8b0]) | skip)
     have H' := Aside0.mk H
     clear H
     go_wp2
     go_meet
     case rel => exact ⟨_, (true), sd_, H', ⟨ol_⟩, ⟨by (with_reducible repeat (first | refine blk_drewN ?_ _ | refine blk_drew ?_ | refine blk_alloc ?_ _)); exact BK185.out⟩, ⟨bb_⟩⟩
    ·rw [if_neg c8] at H
     have c8b0 : decide ((wrap64 (3 + (wrap64 (rd l0 0)))) < 8) = false := decide_eq_false c8
     clear c8
     (first | rw [c8b0] | (simp only [i64_w, i32_w]; rw [c8b0]) | skip)
     have H' := Aside0.mk H
     clear H
     go_wp2
     go_meet
     case rel => exact ⟨_, (decide ((wrap64 (3 + (wrap64 (rd l0 0)))) > (l0.length : Int))), sd_, H', ⟨ol_⟩, ⟨by (with_reducible repeat (first | refine blk_drewN ?_ _ | refine blk_drew ?_ | refine blk_alloc ?_ _)); exact BK185.out⟩, ⟨bb_⟩⟩
   case rest =>
    clear HC6
    try clear c1
    try clear p1
    try clear q1
    try clear hx1
    try clear qi1
    try clear c2
    try clear c2b0
    try clear c2b1
    try clear p2
    try clear c5
    try clear c5b0
    try clear c5b1
    try clear p6
    try clear c8
    try clear c8b0
    try clear hcz4_0
    try clear hcz4_1
    try clear hcz4_2
    try clear hcz4_3
    try clear hfz4_0
    try clear hfz4_1
    try clear hfz4_2
    try clear hfz4_3
    try clear hx186_0
    try clear p186
    try clear q186
    obtain ⟨kq, x22_5, rfl, HA, HJ5, BK185, HB⟩ := hcut
    cases kq with
    | zero => exact absurd HA.out (by simp [spec_l10One.j0])
    | succ kj5 =>
     have H := HA.out
     clear HA
     simp only [spec_l10One.j0] at H
     by_cases c9 : x22_5 = true
     ·subst c9
      have H1 : (some (0, 0, 0, ([] : List Int), 0)) = some (r1, r2, r3, r4, r5) := by rw [if_pos rfl] at H; exact H
      clear H
      have H := H1
      clear H1
      simp only [Option.some.injEq, Prod.mk.injEq] at H
      obtain ⟨rfl, rfl, rfl, rfl, rfl⟩ := H
      obtain ⟨hcz10_0, hcz10_1, hcz10_2, hcz10_3, hfz10_0, hfz10_1, hfz10_2, hfz10_3⟩ := cf4_ BK185
      go_wp2
      refine bodyPost_ret (results_ct rfl _ _ gb185 61 #[.int .i64 0, .int .i64 0, .int .i64 0, .slice none 0 0] (0, 0) _ rfl (by (with_reducible repeat (first | refine blk_drewN ?_ _ | refine blk_drew ?_ | refine blk_alloc ?_ _)); refine blk_put (cs := #[.int .i64 0, .int .i64 0, .int .i64 0, .slice none 0 0]) ?_ 3 _ rfl; (with_reducible repeat (first | refine blk_drewN ?_ _ | refine blk_drew ?_ | refine blk_alloc ?_ _)); refine blk_put (cs := #[.int .i64 0, .int .i64 0, .int .i64 0, .slice none 0 0]) ?_ 2 _ rfl; (with_reducible repeat (first | refine blk_drewN ?_ _ | refine blk_drew ?_ | refine blk_alloc ?_ _)); refine blk_put (cs := #[.int .i64 0, .int .i64 0, .int .i64 0, .slice none 0 0]) ?_ 1 _ rfl; (with_reducible repeat (first | refine blk_drewN ?_ _ | refine blk_drew ?_ | refine blk_alloc ?_ _)); refine blk_put (cs := #[.int .i64 0, .int .i64 0, .int .i64 0, .slice none 0 0]) ?_ 0 _ rfl; (with_reducible repeat (first | refine blk_drewN ?_ _ | refine blk_drew ?_ | refine blk_alloc ?_ _)); exact BK185.out) Try.underlying61 rfl (by kernel_rfl)) rfl ?_
      exact ⟨_, er_, by first | exact Kd.R_nil _ _ _ _ _ | exact Kd.N_nil _ _ _ _ _ | exact Kd.V_nil _ _ _ _ _ | exact Kd.Q_nil _ _ _ _ _ | exact Kd.S_nil _ _ _ _ _, bb_⟩
     ·replace c9 := Bool.eq_false_iff.mpr c9
      subst c9
      have H1 : ((spec_l1Take.f kj5 l0 3 2).bind fun t187 => (if 5 < (l0.length : Int) then (if 6 < (l0.length : Int) then ((some (([] : List Int) : List Int)).bind fun y190 => (if 8 ≤ (wrap64 (3 + (wrap64 (rd l0 0)))) then (if (wrap64 (3 + (wrap64 (rd l0 0)))) ≤ (l0.length : Int) then (if y190.length + ((l0.take ((wrap64 (3 + (wrap64 (rd l0 0)))) : Int).toNat).drop 8).length < 140737488355328 then ((some (y190 ++ ((l0.take ((wrap64 (3 + (wrap64 (rd l0 0)))) : Int).toNat).drop 8) : List Int)).bind fun y194 => ((spec_EntryFault.f kj5 t187 (wrap64 (rd l0 5)) (wrap64 (rd l0 6)) y194).bind fun t198 => (if t198 = 0 then ((spec_l10Pack.f kj5 t187 (wrap64 (rd l0 5)) (wrap64 (rd l0 6)) y194).bind fun t199 => (if 0 ≤ (wrap64 (3 + (wrap64 (rd l0 0)))) then (if (strOfNums t199).toList = (strOfNums (l0.take ((wrap64 (3 + (wrap64 (rd l0 0)))) : Int).toNat)).toList then (some (t187, wrap64 (rd l0 5), wrap64 (rd l0 6), y194, (wrap64 (3 + (wrap64 (rd l0 0)))))) else (some (0, 0, 0, ([] : List Int), 0))) else (none))) else (some (0, 0, 0, ([] : List Int), 0))))) else (none)) else (none)) else (none))) else (none)) else (none))) = some (r1, r2, r3, r4, r5) := by rw [if_neg (show ¬ (false = true) by decide)] at H; exact H
      clear H
      have H := H1
      clear H1
      replace H := Option.bind_eq_some_iff.mp H
      obtain ⟨t187, A110, H⟩ := H
      replace H : (if 5 < (l0.length : Int) then (if 6 < (l0.length : Int) then ((some (([] : List Int) : List Int)).bind fun y190 => (if 8 ≤ (wrap64 (3 + (wrap64 (rd l0 0)))) then (if (wrap64 (3 + (wrap64 (rd l0 0)))) ≤ (l0.length : Int) then (if y190.length + ((l0.take ((wrap64 (3 + (wrap64 (rd l0 0)))) : Int).toNat).drop 8).length < 140737488355328 then ((some (y190 ++ ((l0.take ((wrap64 (3 + (wrap64 (rd l0 0)))) : Int).toNat).drop 8) : List Int)).bind fun y194 => ((spec_EntryFault.f kj5 t187 (wrap64 (rd l0 5)) (wrap64 (rd l0 6)) y194).bind fun t198 => (if t198 = 0 then ((spec_l10Pack.f kj5 t187 (wrap64 (rd l0 5)) (wrap64 (rd l0 6)) y194).bind fun t199 => (if 0 ≤ (wrap64 (3 + (wrap64 (rd l0 0)))) then (if (strOfNums t199).toList = (strOfNums (l0.take ((wrap64 (3 + (wrap64 (rd l0 0)))) : Int).toNat)).toList then (some (t187, wrap64 (rd l0 5), wrap64 (rd l0 6), y194, (wrap64 (3 + (wrap64 (rd l0 0)))))) else (some (0, 0, 0, ([] : List Int), 0))) else (none))) else (some (0, 0, 0, ([] : List Int), 0))))) else (none)) else (none)) else (none))) else (none)) else (none)) = some (r1, r2, r3, r4, r5) := H
      have A11 := Aside0.mk A110
      clear A110
      by_cases c12 : 5 < (l0.length : Int)
      ·rw [if_pos c12] at H
       have c12b0 : decide (5 < (l0.length : Int)) = true := decide_eq_true c12
       have c12b1 : decide (5 < l0.length) = true := decide_eq_true (by omega)
       clear c12
       by_cases c13 : 6 < (l0.length : Int)
       ·rw [if_pos c13] at H
        have c13b0 : decide (6 < (l0.length : Int)) = true := decide_eq_true c13
        have c13b1 : decide (6 < l0.length) = true := decide_eq_true (by omega)
        clear c13
        obtain ⟨y190, hy190⟩ : ∃ y_ : List Int, y_ = (([] : List Int)) := ⟨_, rfl⟩
        replace H : (if 8 ≤ (wrap64 (3 + (wrap64 (rd l0 0)))) then (if (wrap64 (3 + (wrap64 (rd l0 0)))) ≤ (l0.length : Int) then (if y190.length + ((l0.take ((wrap64 (3 + (wrap64 (rd l0 0)))) : Int).toNat).drop 8).length < 140737488355328 then ((some (y190 ++ ((l0.take ((wrap64 (3 + (wrap64 (rd l0 0)))) : Int).toNat).drop 8) : List Int)).bind fun y194 => ((spec_EntryFault.f kj5 t187 (wrap64 (rd l0 5)) (wrap64 (rd l0 6)) y194).bind fun t198 => (if t198 = 0 then ((spec_l10Pack.f kj5 t187 (wrap64 (rd l0 5)) (wrap64 (rd l0 6)) y194).bind fun t199 => (if 0 ≤ (wrap64 (3 + (wrap64 (rd l0 0)))) then (if (strOfNums t199).toList = (strOfNums (l0.take ((wrap64 (3 + (wrap64 (rd l0 0)))) : Int).toNat)).toList then (some (t187, wrap64 (rd l0 5), wrap64 (rd l0 6), y194, (wrap64 (3 + (wrap64 (rd l0 0)))))) else (some (0, 0, 0, ([] : List Int), 0))) else (none))) else (some (0, 0, 0, ([] : List Int), 0))))) else (none)) else (none)) else (none)) = some (r1, r2, r3, r4, r5) := by first | (rw [hy190]; with_reducible exact H) | (have H2_ := (Option.bind_some _ _).symm.trans H; rw [hy190]; with_reducible exact H2_) | (have H2_ := (Option.bind_some _ _).symm.trans H; with_reducible exact H2_) | with_reducible exact H | (rw [hy190]; exact H) | exact H
        have Ny190 := Aside0.mk hy190
        clear hy190
        by_cases c14 : 8 ≤ (wrap64 (3 + (wrap64 (rd l0 0))))
        ·rw [if_pos c14] at H
         have c14b0 := eq_true c14
         have c14b1 : decide (8 ≤ (wrap64 (3 + (wrap64 (rd l0 0))))) = true := decide_eq_true c14
         by_cases c15 : (wrap64 (3 + (wrap64 (rd l0 0)))) ≤ (l0.length : Int)
         ·rw [if_pos c15] at H
          have c15b0 := eq_true c15
          have c15b1 : decide ((wrap64 (3 + (wrap64 (rd l0 0)))) ≤ (l0.length : Int)) = true := decide_eq_true c15
          by_cases c16 : y190.length + ((l0.take ((wrap64 (3 + (wrap64 (rd l0 0)))) : Int).toNat).drop 8).length < 140737488355328
          ·rw [if_pos c16] at H
           have LMc16 := Aside0.mk c16
           clear c16
           obtain ⟨y194, hy194⟩ : ∃ y_ : List Int, y_ = (y190 ++ ((l0.take ((wrap64 (3 + (wrap64 (rd l0 0)))) : Int).toNat).drop 8)) := ⟨_, rfl⟩
           replace H : ((spec_EntryFault.f kj5 t187 (wrap64 (rd l0 5)) (wrap64 (rd l0 6)) y194).bind fun t198 => (if t198 = 0 then ((spec_l10Pack.f kj5 t187 (wrap64 (rd l0 5)) (wrap64 (rd l0 6)) y194).bind fun t199 => (if 0 ≤ (wrap64 (3 + (wrap64 (rd l0 0)))) then (if (strOfNums t199).toList = (strOfNums (l0.take ((wrap64 (3 + (wrap64 (rd l0 0)))) : Int).toNat)).toList then (some (t187, wrap64 (rd l0 5), wrap64 (rd l0 6), y194, (wrap64 (3 + (wrap64 (rd l0 0)))))) else (some (0, 0, 0, ([] : List Int), 0))) else (none))) else (some (0, 0, 0, ([] : List Int), 0)))) = some (r1, r2, r3, r4, r5) := by first | (rw [hy194]; with_reducible exact H) | (have H2_ := (Option.bind_some _ _).symm.trans H; rw [hy194]; with_reducible exact H2_) | (have H2_ := (Option.bind_some _ _).symm.trans H; with_reducible exact H2_) | with_reducible exact H | (rw [hy194]; exact H) | exact H
           have Ny194 := Aside0.mk hy194
           clear hy194
           replace H := Option.bind_eq_some_iff.mp H
           obtain ⟨t198, A170, H⟩ := H
           replace H : (if t198 = 0 then ((spec_l10Pack.f kj5 t187 (wrap64 (rd l0 5)) (wrap64 (rd l0 6)) y194).bind fun t199 => (if 0 ≤ (wrap64 (3 + (wrap64 (rd l0 0)))) then (if (strOfNums t199).toList = (strOfNums (l0.take ((wrap64 (3 + (wrap64 (rd l0 0)))) : Int).toNat)).toList then (some (t187, wrap64 (rd l0 5), wrap64 (rd l0 6), y194, (wrap64 (3 + (wrap64 (rd l0 0)))))) else (some (0, 0, 0, ([] : List Int), 0))) else (none))) else (some (0, 0, 0, ([] : List Int), 0))) = some (r1, r2, r3, r4, r5) := H
           have A17 := Aside0.mk A170
           clear A170
           by_cases c18 : t198 = 0
           ·rw [if_pos c18] at H
            have c18b0 : (t198 == 0) = true := beq_iff_eq.mpr c18
            have c18b1 : (t198 != 0) = false := bne_eq_false_iff_eq.mpr c18
            clear c18
            replace H := Option.bind_eq_some_iff.mp H
            obtain ⟨t199, A190, H⟩ := H
            replace H : (if 0 ≤ (wrap64 (3 + (wrap64 (rd l0 0)))) then (if (strOfNums t199).toList = (strOfNums (l0.take ((wrap64 (3 + (wrap64 (rd l0 0)))) : Int).toNat)).toList then (some (t187, wrap64 (rd l0 5), wrap64 (rd l0 6), y194, (wrap64 (3 + (wrap64 (rd l0 0)))))) else (some (0, 0, 0, ([] : List Int), 0))) else (none)) = some (r1, r2, r3, r4, r5) := H
            have A19 := Aside0.mk A190
            clear A190
            obtain ⟨ji20, hji20⟩ : ∃ j_ : Int, (wrap64 (3 + (wrap64 (rd l0 0)))) = j_ := ⟨_, rfl⟩
            replace H : (if 0 ≤ (ji20) then (if (strOfNums t199).toList = (strOfNums (l0.take ((ji20) : Int).toNat)).toList then (some (t187, wrap64 (rd l0 5), wrap64 (rd l0 6), y194, (ji20))) else (some (0, 0, 0, ([] : List Int), 0))) else (none)) = some (r1, r2, r3, r4, r5) := by first | (rw [hji20] at H; exact H) | (simp only [hji20] at H ⊢; exact H)
            (try rw [hji20] at c14b0)
            (try rw [hji20] at LMc16)
            (try rw [hji20] at c14b1)
            (try rw [hji20] at c14)
            (try rw [hji20] at c15b0)
            (try rw [hji20] at c15b1)
            (try rw [hji20] at c15)
            (try rw [hji20] at A11)
            (try rw [hji20] at Ny194)
            (try rw [hji20] at Ny194)
            (try rw [hji20] at Ny194)
            (try rw [hji20] at Ny194)
            (try rw [hji20] at A17)
            (try rw [hji20] at A19)
            have hji20w : (IntKind.i64.wrap (3 + (wrap64 (rd l0 0)))) = ji20 := (i64_w _).trans hji20
            by_cases c21 : 0 ≤ (ji20)
            ·rw [if_pos c21] at H
             have c21b0 := eq_true c21
             have c21b1 : decide (0 ≤ (ji20)) = true := decide_eq_true c21
             clear c21
             have c22b0 := eq_true (of_decide_eq_true as_ : (ji20) ≤ (l0.length : Int))
             by_cases c23 : (strOfNums t199).toList = (strOfNums (l0.take ((ji20) : Int).toNat)).toList
             focus
              rw [if_pos c23] at H
              have c23b0 : ((strOfNums t199).toList == (strOfNums (l0.take ((ji20) : Int).toNat)).toList) = true := beq_iff_eq.mpr c23
              have c23b1 : ((strOfNums t199).toList != (strOfNums (l0.take ((ji20) : Int).toNat)).toList) = false := bne_eq_false_iff_eq.mpr c23
              clear c23
              simp only [Option.some.injEq, Prod.mk.injEq] at H
              obtain ⟨rfl, rfl, rfl, rfl, rfl⟩ := H
              try go_wp2
              have n0_ := Aside0.mk (blk_drew BK185.out)
              have n1_ := Aside0.mk (below_drew1 HB.out)
              clear BK185
              clear HB
              have BK185 := n0_
              have HB := n1_
              clear n0_ n1_
              have p188 : 0 ≤ (5 : Int) := (by omega)
              have q188 : 5 < (l0.length : Int) := of_decide_eq_true as_
              obtain ⟨ad188, e188, hx188_0⟩ := Kd.at_int HR0.out 5 p188 q188
              have hw188_0 := hx188_0
              (try rw [show ((5 : Int)).toNat = 5 from rfl] at hw188_0)
              (try rw [show 5 * 1 = 5 from rfl] at hw188_0)
              (try simp only [Nat.reduceMul, Nat.reduceEqDiff, Go.Addr.add, ↓reduceIte] at hw188_0)
              obtain rfl : ad186 = ad188 := (by injection e188)
              (try simp only [show (5 : Int).toNat = 5 from rfl, Nat.reduceMul, Nat.reduceEqDiff, Go.Addr.add, ↓reduceIte] at hx188_0)
              have qi188 : (5 < l0.length) = True := eq_true (by omega)
              (try rw [show ((5 : Int)).toNat = 5 from rfl] at hx188_0)
              replace hx188_0 := (HB.out.cell (World.block_lt_of_cell? w _ hx188_0)).trans hx188_0
              replace p188 := eq_true p188
              replace q188 := eq_true q188
              have p189 : 0 ≤ (6 : Int) := (by omega)
              have q189 : 6 < (l0.length : Int) := of_decide_eq_true as_
              obtain ⟨ad189, e189, hx189_0⟩ := Kd.at_int HR0.out 6 p189 q189
              have hw189_0 := hx189_0
              (try rw [show ((6 : Int)).toNat = 6 from rfl] at hw189_0)
              (try rw [show 6 * 1 = 6 from rfl] at hw189_0)
              (try simp only [Nat.reduceMul, Nat.reduceEqDiff, Go.Addr.add, ↓reduceIte] at hw189_0)
              obtain rfl : ad186 = ad189 := (by injection e189)
              (try simp only [show (6 : Int).toNat = 6 from rfl, Nat.reduceMul, Nat.reduceEqDiff, Go.Addr.add, ↓reduceIte] at hx189_0)
              have qi189 : (6 < l0.length) = True := eq_true (by omega)
              (try rw [show ((6 : Int)).toNat = 6 from rfl] at hx189_0)
              replace hx189_0 := (HB.out.cell (World.block_lt_of_cell? w _ hx189_0)).trans hx189_0
              replace p189 := eq_true p189
              replace q189 := eq_true q189
              obtain ⟨i025, hi025, _, hsz25, _⟩ := info_parts info5
              obtain ⟨A25, hcut25, hA25, hC25⟩ := print_mid_of (P := Try.prog) (Value.int .u8) 0 22 5 .i64 .i64 Try.underlying22 hi025 hsz25 (some ad186) c0 l0 8 (ji20) (by omega) (by first | omega | exact of_decide_eq_true as_) (of_decide_eq_true as_) HC0.out
              have HR193 := Aside0.mk (Kd.C_of_reads (h1 := fun _ => rfl) (hA25 _ (Kd.reads_of_C HR0.out)))
              have HC193 := Aside0.mk hC25
              clear hA25 hC25 hi025 hsz25
             rotate_left
             focus
              rw [if_neg c23] at H
              have c23b0 : ((strOfNums t199).toList == (strOfNums (l0.take ((ji20) : Int).toNat)).toList) = false := beq_eq_false_iff_ne.mpr c23
              have c23b1 : ((strOfNums t199).toList != (strOfNums (l0.take ((ji20) : Int).toNat)).toList) = true := bne_iff_ne.mpr c23
              simp only [Option.some.injEq, Prod.mk.injEq] at H
              obtain ⟨rfl, rfl, rfl, rfl, rfl⟩ := H
              try go_wp2
              have n0_ := Aside0.mk (blk_drew BK185.out)
              have n1_ := Aside0.mk (below_drew1 HB.out)
              clear BK185
              clear HB
              have BK185 := n0_
              have HB := n1_
              clear n0_ n1_
              have p188 : 0 ≤ (5 : Int) := (by omega)
              have q188 : 5 < (l0.length : Int) := of_decide_eq_true as_
              obtain ⟨ad188, e188, hx188_0⟩ := Kd.at_int HR0.out 5 p188 q188
              have hw188_0 := hx188_0
              (try rw [show ((5 : Int)).toNat = 5 from rfl] at hw188_0)
              (try rw [show 5 * 1 = 5 from rfl] at hw188_0)
              (try simp only [Nat.reduceMul, Nat.reduceEqDiff, Go.Addr.add, ↓reduceIte] at hw188_0)
              obtain rfl : ad186 = ad188 := (by injection e188)
              (try simp only [show (5 : Int).toNat = 5 from rfl, Nat.reduceMul, Nat.reduceEqDiff, Go.Addr.add, ↓reduceIte] at hx188_0)
              have qi188 : (5 < l0.length) = True := eq_true (by omega)
              (try rw [show ((5 : Int)).toNat = 5 from rfl] at hx188_0)
              replace hx188_0 := (HB.out.cell (World.block_lt_of_cell? w _ hx188_0)).trans hx188_0
              replace p188 := eq_true p188
              replace q188 := eq_true q188
              have p189 : 0 ≤ (6 : Int) := (by omega)
              have q189 : 6 < (l0.length : Int) := of_decide_eq_true as_
              obtain ⟨ad189, e189, hx189_0⟩ := Kd.at_int HR0.out 6 p189 q189
              have hw189_0 := hx189_0
              (try rw [show ((6 : Int)).toNat = 6 from rfl] at hw189_0)
              (try rw [show 6 * 1 = 6 from rfl] at hw189_0)
              (try simp only [Nat.reduceMul, Nat.reduceEqDiff, Go.Addr.add, ↓reduceIte] at hw189_0)
              obtain rfl : ad186 = ad189 := (by injection e189)
              (try simp only [show (6 : Int).toNat = 6 from rfl, Nat.reduceMul, Nat.reduceEqDiff, Go.Addr.add, ↓reduceIte] at hx189_0)
              have qi189 : (6 < l0.length) = True := eq_true (by omega)
              (try rw [show ((6 : Int)).toNat = 6 from rfl] at hx189_0)
              replace hx189_0 := (HB.out.cell (World.block_lt_of_cell? w _ hx189_0)).trans hx189_0
              replace p189 := eq_true p189
              replace q189 := eq_true q189
              obtain ⟨i049, hi049, _, hsz49, _⟩ := info_parts info5
              obtain ⟨A49, hcut49, hA49, hC49⟩ := print_mid_of (P := Try.prog) (Value.int .u8) 0 22 5 .i64 .i64 Try.underlying22 hi049 hsz49 (some ad186) c0 l0 8 (ji20) (by omega) (by first | omega | exact of_decide_eq_true as_) (of_decide_eq_true as_) HC0.out
              have HR193 := Aside0.mk (Kd.C_of_reads (h1 := fun _ => rfl) (hA49 _ (Kd.reads_of_C HR0.out)))
              have HC193 := Aside0.mk hC49
              clear hA49 hC49 hi049 hsz49
             rotate_left
             all_goals
              refine start_ (n := 19) (S := fun w' => w'.cell? ⟨ad186.block, ad186.off + 5, none⟩ = some (.int .u8 (rd l0 5)) ∧ w'.cell? ⟨ad186.block, ad186.off + 6, none⟩ = some (.int .u8 (rd l0 6))) (ds := []) #[false, false, false, false, false, false, false, false, false, false, false, false, false, false, false, false, false, false, false] (by kernel_rfl) rfl rfl ⟨((HB.out.cell (World.block_lt_of_cell? w _ hw188_0)).trans hw188_0), ((HB.out.cell (World.block_lt_of_cell? w _ hw189_0)).trans hw189_0)⟩ (fun hHeld => ?_); refine with_tabW spec_l10One.tab6 spec_l10One.bits6 (fun HT_ HW_ => ?_)
              generalize wc.drew = w24 at BK185 HB HR193 hx188_0 hx189_0 hHeld ⊢
              refine pure_ (i := 0) (N := some 24) (v := ?_) (a' := ?_) #[true, false, false, false, false, false, false, false, false, false, false, false, false, false, false, false, false, false, false] rfl rfl (any_of HT_.out (by kernel_rfl)) (fun _ _ _ h => h) (Or.inl ⟨by rfl, ?_⟩) ?_ ?_
              rotate_left
              ·intro w'
               go_simp
               with_reducible rfl
              rotate_left
              ·simp only [Act.put, List.setIfInBounds_toArray, List.set_cons_zero, List.set_cons_succ, i64_w, i32_w]
               rfl
              refine pure_ (i := 2) (N := some 26) (v := ?_) (a' := ?_) #[true, false, true, false, false, false, false, false, false, false, false, false, false, false, false, false, false, false, false] rfl rfl (any_of HT_.out (by kernel_rfl)) (fun _ _ _ h => h) (Or.inl ⟨by rfl, ?_⟩) ?_ ?_
              rotate_left
              ·intro w'
               go_simp
               with_reducible rfl
              rotate_left
              ·simp only [Act.put, List.setIfInBounds_toArray, List.set_cons_zero, List.set_cons_succ, i64_w, i32_w]
               rfl
              refine pure_ (i := 3) (N := some 27) (v := ?_) (a' := ?_) #[true, false, true, true, false, false, false, false, false, false, false, false, false, false, false, false, false, false, false] rfl rfl (any_of HT_.out (by kernel_rfl)) (fun _ _ _ h => h) (Or.inl ⟨by rfl, ?_⟩) ?_ ?_
              rotate_left
              ·intro w'
               go_simp
               with_reducible rfl
              rotate_left
              ·simp only [Act.put, List.setIfInBounds_toArray, List.set_cons_zero, List.set_cons_succ, i64_w, i32_w]
               rfl
              refine pure_ (i := 6) (N := some 30) (v := ?_) (a' := ?_) #[true, false, true, true, false, false, true, false, false, false, false, false, false, false, false, false, false, false, false] rfl rfl (any_of HT_.out (by kernel_rfl)) (fun _ _ _ h => h) (Or.inl ⟨by rfl, ?_⟩) ?_ ?_
              rotate_left
              ·intro w'
               go_simp
               with_reducible rfl
              rotate_left
              ·simp only [Act.put, List.setIfInBounds_toArray, List.set_cons_zero, List.set_cons_succ, i64_w, i32_w]
               rfl
              refine pure_ (i := 7) (N := some 31) (v := ?_) (a' := ?_) #[true, false, true, true, false, false, true, true, false, false, false, false, false, false, false, false, false, false, false] rfl rfl (any_of HT_.out (by kernel_rfl)) (fun _ _ _ h => h) (Or.inl ⟨by rfl, ?_⟩) ?_ ?_
              rotate_left
              ·intro w'
               go_simp
               with_reducible rfl
              rotate_left
              ·simp only [Act.put, List.setIfInBounds_toArray, List.set_cons_zero, List.set_cons_succ, i64_w, i32_w]
               rfl
              refine pure_ (i := 11) (N := some 35) (v := ?_) (a' := ?_) #[true, false, true, true, false, false, true, true, false, false, false, true, false, false, false, false, false, false, false] rfl rfl (any_of HT_.out (by kernel_rfl)) (fun _ _ _ h => h) (Or.inl ⟨by rfl, ?_⟩) ?_ ?_
              rotate_left
              ·intro w'
               go_simp
               with_reducible rfl
              rotate_left
              ·simp only [Act.put, List.setIfInBounds_toArray, List.set_cons_zero, List.set_cons_succ, i64_w, i32_w]
               rfl
              refine pure_ (i := 12) (N := some 36) (v := ?_) (a' := ?_) #[true, false, true, true, false, false, true, true, false, false, false, true, true, false, false, false, false, false, false] rfl rfl (any_of HT_.out (by kernel_rfl)) (fun _ _ _ h => h) (Or.inl ⟨by rfl, ?_⟩) ?_ ?_
              rotate_left
              ·intro w'
               go_simp
               with_reducible rfl
              rotate_left
              ·simp only [Act.put, List.setIfInBounds_toArray, List.set_cons_zero, List.set_cons_succ, i64_w, i32_w]
               rfl
              refine pure_ (i := 13) (N := some 37) (v := ?_) (a' := ?_) #[true, false, true, true, false, false, true, true, false, false, false, true, true, true, false, false, false, false, false] rfl rfl (any_of HT_.out (by kernel_rfl)) (fun _ _ _ h => h) (Or.inl ⟨by rfl, ?_⟩) ?_ ?_
              rotate_left
              ·intro w'
               go_simp
               with_reducible rfl
              rotate_left
              ·simp only [Act.put, List.setIfInBounds_toArray, List.set_cons_zero, List.set_cons_succ, i64_w, i32_w]
               rfl
              refine take_ (i := 4) (N := some 28) (v := ?_) (a' := ?_) #[true, false, true, true, true, false, true, true, false, false, false, true, true, true, false, false, false, false, false] rfl rfl (take_ofW HT_.out HW_.out (by kernel_rfl)) (fun _ _ _ h => h) (Or.inl ⟨by rfl, ?_⟩) hHeld ?_ ?_
              rotate_left
              ·rintro w' ⟨s0, s1⟩
               go_simp
               with_reducible rfl
              rotate_left
              ·simp only [Act.put, List.setIfInBounds_toArray, List.set_cons_zero, List.set_cons_succ, i64_w, i32_w]
               rfl
              refine pure_ (i := 5) (N := some 29) (v := ?_) (a' := ?_) #[true, false, true, true, true, true, true, true, false, false, false, true, true, true, false, false, false, false, false] rfl rfl (any_of HT_.out (by kernel_rfl)) (fun _ _ _ h => h) (Or.inl ⟨by rfl, ?_⟩) ?_ ?_
              rotate_left
              ·intro w'
               go_simp
               with_reducible rfl
              rotate_left
              ·simp only [Act.put, List.setIfInBounds_toArray, List.set_cons_zero, List.set_cons_succ, i64_w, i32_w]
               rfl
              refine take_ (i := 8) (N := some 32) (v := ?_) (a' := ?_) #[true, false, true, true, true, true, true, true, true, false, false, true, true, true, false, false, false, false, false] rfl rfl (take_ofW HT_.out HW_.out (by kernel_rfl)) (fun _ _ _ h => h) (Or.inl ⟨by rfl, ?_⟩) hHeld ?_ ?_
              rotate_left
              ·rintro w' ⟨s0, s1⟩
               go_simp
               with_reducible rfl
              rotate_left
              ·simp only [Act.put, List.setIfInBounds_toArray, List.set_cons_zero, List.set_cons_succ, i64_w, i32_w]
               rfl
              refine pure_ (i := 9) (N := some 33) (v := ?_) (a' := ?_) #[true, false, true, true, true, true, true, true, true, true, false, true, true, true, false, false, false, false, false] rfl rfl (any_of HT_.out (by kernel_rfl)) (fun _ _ _ h => h) (Or.inl ⟨by rfl, ?_⟩) ?_ ?_
              rotate_left
              ·intro w'
               go_simp
               with_reducible rfl
              rotate_left
              ·simp only [Act.put, List.setIfInBounds_toArray, List.set_cons_zero, List.set_cons_succ, i64_w, i32_w]
               rfl
              refine join_ (σ := Value × Value × Nat) 1 #[true, true, true, true, true, true, true, true, true, true, true, true, true, true, true, true, true, true, false] (fun s_ => [(25, .int .i64 t187), (34, s_.1), (38, s_.2.1), (5, .pointer (some ⟨s_.2.2, 0, none⟩)), (39, .agg #[.int .i64 (wrap64 (rd l0 5)), .int .i64 (wrap64 (rd l0 6)), s_.2.1]), (40, .agg #[.int .i64 t187, .int .i64 (wrap64 (rd l0 5)), .int .i64 (wrap64 (rd l0 6)), s_.2.1])]) (fun s_ w' => (w'.cell? ⟨ad186.block, ad186.off + 5, none⟩ = some (.int .u8 (rd l0 5)) ∧ w'.cell? ⟨ad186.block, ad186.off + 6, none⟩ = some (.int .u8 (rd l0 6))) ∧ (Kd.R (Kd.int .u8) 5 w' w.heap.size (fun _ => True) s_.2.1 y194) ∧ (w'.heap[gb185]? = some (.cells #[.int .i64 0, .int .i64 0, .int .i64 0, .slice none 0 0] 61 (0, 0))) ∧ (w'.heap[s_.2.2]? = some (.cells #[.int .i64 0, .int .i64 0, .int .i64 0, .slice none 0 0] 61 (0, 0))) ∧ (w.heap.size ≤ s_.2.2) ∧ (w.heap.size ≤ s_.2.2) ∧ (gb185 ≠ s_.2.2) ∧ (s_.2.2 ≠ gb185) ∧ (Below w.heap.size w w')) ?_ ?_
              rotate_left
              ·intro hJ1_10_14_17
               refine join_ (σ := Value × Value) 2 #[true, true, true, true, true, true, true, true, true, true, true, true, true, true, true, true, true, false, false] (fun s_ => [(25, .int .i64 t187), (34, s_.1), (38, s_.2), (39, .agg #[.int .i64 (wrap64 (rd l0 5)), .int .i64 (wrap64 (rd l0 6)), s_.2]), (40, .agg #[.int .i64 t187, .int .i64 (wrap64 (rd l0 5)), .int .i64 (wrap64 (rd l0 6)), s_.2])]) (fun s_ w' => (w'.cell? ⟨ad186.block, ad186.off + 5, none⟩ = some (.int .u8 (rd l0 5)) ∧ w'.cell? ⟨ad186.block, ad186.off + 6, none⟩ = some (.int .u8 (rd l0 6))) ∧ (Kd.R (Kd.int .u8) 5 w' w.heap.size (fun _ => True) s_.2 y194) ∧ (w'.heap[gb185]? = some (.cells #[.int .i64 0, .int .i64 0, .int .i64 0, .slice none 0 0] 61 (0, 0))) ∧ (Below w.heap.size w w')) ?_ ?_
               rotate_left
               ·intro hJ1_10_14
                refine join_ (σ := Value × Nat) 4 #[true, true, true, true, true, true, true, true, true, true, true, true, true, true, false, false, false, true, false] (fun s_ => [(25, .int .i64 t187), (34, s_.1), (5, .pointer (some ⟨s_.2, 0, none⟩))]) (fun s_ w' => (w'.cell? ⟨ad186.block, ad186.off + 5, none⟩ = some (.int .u8 (rd l0 5)) ∧ w'.cell? ⟨ad186.block, ad186.off + 6, none⟩ = some (.int .u8 (rd l0 6))) ∧ (Kd.R (Kd.int .u8) 5 w' w.heap.size (fun _ => True) s_.1 y190) ∧ (w'.heap[gb185]? = some (.cells #[.int .i64 0, .int .i64 0, .int .i64 0, .slice none 0 0] 61 (0, 0))) ∧ (w'.heap[s_.2]? = some (.cells #[.int .i64 0, .int .i64 0, .int .i64 0, .slice none 0 0] 61 (0, 0))) ∧ (w.heap.size ≤ s_.2) ∧ (w.heap.size ≤ s_.2) ∧ (gb185 ≠ s_.2) ∧ (s_.2 ≠ gb185) ∧ (Below w.heap.size w w')) ?_ ?_
                rotate_left
                ·intro hJ1_10_17
                 refine join_ (σ := Value) 5 #[true, true, true, true, true, true, true, true, true, true, true, true, true, true, false, false, false, false, false] (fun s_ => [(25, .int .i64 t187), (34, s_)]) (fun s_ w' => (w'.cell? ⟨ad186.block, ad186.off + 5, none⟩ = some (.int .u8 (rd l0 5)) ∧ w'.cell? ⟨ad186.block, ad186.off + 6, none⟩ = some (.int .u8 (rd l0 6))) ∧ (Kd.R (Kd.int .u8) 5 w' w.heap.size (fun _ => True) s_ y190) ∧ (w'.heap[gb185]? = some (.cells #[.int .i64 0, .int .i64 0, .int .i64 0, .slice none 0 0] 61 (0, 0))) ∧ (Below w.heap.size w w')) ?_ ?_
                 rotate_left
                 ·intro hJ1_10
                  refine join_ (σ := Nat) 5 #[true, true, true, true, true, true, true, true, true, true, false, true, true, true, false, false, false, true, false] (fun s_ => [(25, .int .i64 t187), (5, .pointer (some ⟨s_, 0, none⟩))]) (fun s_ w' => (w'.cell? ⟨ad186.block, ad186.off + 5, none⟩ = some (.int .u8 (rd l0 5)) ∧ w'.cell? ⟨ad186.block, ad186.off + 6, none⟩ = some (.int .u8 (rd l0 6))) ∧ (w'.heap[gb185]? = some (.cells #[.int .i64 0, .int .i64 0, .int .i64 0, .slice none 0 0] 61 (0, 0))) ∧ (w'.heap[s_]? = some (.cells #[.int .i64 0, .int .i64 0, .int .i64 0, .slice none 0 0] 61 (0, 0))) ∧ (w.heap.size ≤ s_) ∧ (w.heap.size ≤ s_) ∧ (gb185 ≠ s_) ∧ (s_ ≠ gb185) ∧ (Below w.heap.size w w')) ?_ ?_
                  rotate_left
                  ·intro hJ1_17
                   refine join_ (σ := Value × Nat) 5 #[true, false, true, true, true, true, true, true, true, true, true, true, true, true, false, false, false, true, false] (fun s_ => [(34, s_.1), (5, .pointer (some ⟨s_.2, 0, none⟩))]) (fun s_ w' => (w'.cell? ⟨ad186.block, ad186.off + 5, none⟩ = some (.int .u8 (rd l0 5)) ∧ w'.cell? ⟨ad186.block, ad186.off + 6, none⟩ = some (.int .u8 (rd l0 6))) ∧ (Kd.R (Kd.int .u8) 5 w' w.heap.size (fun _ => True) s_.1 y190) ∧ (w'.heap[gb185]? = some (.cells #[.int .i64 0, .int .i64 0, .int .i64 0, .slice none 0 0] 61 (0, 0))) ∧ (w'.heap[s_.2]? = some (.cells #[.int .i64 0, .int .i64 0, .int .i64 0, .slice none 0 0] 61 (0, 0))) ∧ (w.heap.size ≤ s_.2) ∧ (w.heap.size ≤ s_.2) ∧ (gb185 ≠ s_.2) ∧ (s_.2 ≠ gb185) ∧ (Below w.heap.size w w')) ?_ ?_
                   rotate_left
                   ·intro hJ10_17
                    refine join_ (σ := Unit) 6 #[true, true, true, true, true, true, true, true, true, true, false, true, true, true, false, false, false, false, false] (fun s_ => [(25, .int .i64 t187)]) (fun s_ w' => (w'.cell? ⟨ad186.block, ad186.off + 5, none⟩ = some (.int .u8 (rd l0 5)) ∧ w'.cell? ⟨ad186.block, ad186.off + 6, none⟩ = some (.int .u8 (rd l0 6))) ∧ (w'.heap[gb185]? = some (.cells #[.int .i64 0, .int .i64 0, .int .i64 0, .slice none 0 0] 61 (0, 0))) ∧ (Below w.heap.size w w')) ?_ ?_
                    rotate_left
                    ·intro hJ1
                     refine join_ (σ := Value) 6 #[true, false, true, true, true, true, true, true, true, true, true, true, true, true, false, false, false, false, false] (fun s_ => [(34, s_)]) (fun s_ w' => (w'.cell? ⟨ad186.block, ad186.off + 5, none⟩ = some (.int .u8 (rd l0 5)) ∧ w'.cell? ⟨ad186.block, ad186.off + 6, none⟩ = some (.int .u8 (rd l0 6))) ∧ (Kd.R (Kd.int .u8) 5 w' w.heap.size (fun _ => True) s_ y190) ∧ (w'.heap[gb185]? = some (.cells #[.int .i64 0, .int .i64 0, .int .i64 0, .slice none 0 0] 61 (0, 0))) ∧ (Below w.heap.size w w')) ?_ ?_
                     rotate_left
                     ·intro hJ10
                      refine join_ (σ := Nat) 6 #[true, false, true, true, true, true, true, true, true, true, false, true, true, true, false, false, false, true, false] (fun s_ => [(5, .pointer (some ⟨s_, 0, none⟩))]) (fun s_ w' => (w'.cell? ⟨ad186.block, ad186.off + 5, none⟩ = some (.int .u8 (rd l0 5)) ∧ w'.cell? ⟨ad186.block, ad186.off + 6, none⟩ = some (.int .u8 (rd l0 6))) ∧ (w'.heap[gb185]? = some (.cells #[.int .i64 0, .int .i64 0, .int .i64 0, .slice none 0 0] 61 (0, 0))) ∧ (w'.heap[s_]? = some (.cells #[.int .i64 0, .int .i64 0, .int .i64 0, .slice none 0 0] 61 (0, 0))) ∧ (w.heap.size ≤ s_) ∧ (w.heap.size ≤ s_) ∧ (gb185 ≠ s_) ∧ (s_ ≠ gb185) ∧ (Below w.heap.size w w')) ?_ ?_
                      rotate_left
                      ·intro hJ17
                       refine three_ (i := 1) (j := 10) (k := 17) (Ni := some 25) (Nj := some 34) (Nk := some 5) #[true, true, true, true, true, true, true, true, true, true, false, true, true, true, false, false, false, false, false] #[true, false, true, true, true, true, true, true, true, true, true, true, true, true, false, false, false, false, false] #[true, false, true, true, true, true, true, true, true, true, false, true, true, true, false, false, false, true, false] rfl rfl rfl rfl rfl rfl (three_of HT_.out (by kernel_rfl)) (by decide) (by decide) (by decide) (fun K hK => ?_) (fun K hK => ?_) (fun K hK => ?_)
                       ·skip
                        refine goes_ Try.func182 (by kernel_rfl) rfl #[.slice (some ad186) l0.length c0, .int .i64 3, .int .i64 2] (by rfl) rfl rfl (by (try simp only [List.map_toArray, List.map_cons, List.map_nil]); first | done | rfl | (simp only [List.length_drop, List.length_take]; rfl)) ?_
                        with_reducible refine (spec_l1Take.calls kj5 _ _ l0 3 2 t187 _ ?side1 ?side2 A11.out).mono ?_
                        (case side1 => exact kc_ (Kd.C_below HR0.out HB.out))
                        (case side2 => exact HC0.out)
                        rintro e w' ⟨rfl, ⟨nd, rfl⟩⟩
                        refine ⟨_, rfl, ?_⟩
                        refine hK.out _ _ ⟨((HB.out.cell (World.block_lt_of_cell? w _ hw188_0)).trans hw188_0), ((HB.out.cell (World.block_lt_of_cell? w _ hw189_0)).trans hw189_0)⟩ (fun hHeld => ?_)
                        clear hK K
                        refine norm_ (a' := ?_) ?_ ?_
                        rotate_left
                        ·show Act.put _ (some 25) _ = _
                         simp only [Act.put, List.setIfInBounds_toArray, List.set_cons_zero, List.set_cons_succ, i64_w, i32_w]
                         rfl
                        exact norm_ (by first | (simp only [putAll, Act.put, List.setIfInBounds_toArray, List.set_cons_zero, List.set_cons_succ]; done) | (simp only [putAll, Act.put, List.setIfInBounds_toArray, List.set_cons_zero, List.set_cons_succ]; rfl)) (hJ1 () _ ⟨hHeld, (by (with_reducible repeat (first | refine blk_drewN ?_ _ | refine blk_drew ?_ | refine blk_alloc ?_ _)); exact BK185.out), bb_⟩)
                       ·skip
                        refine Kd.R_lit_step (Kd.int .u8) _ 5 ?hg (N := 34) ?hd (xs := ([] : List Int)) (inner := []) (ok := fun _ => True) (okp := fun _ => True) ?hr ?hp (fun _ hk => hk) trivial (Below.refl _ _) (Nat.le_refl _) (by simp) ?_; (case hd => rfl); (case hg => rfl); (case hr => first | (go_simp; done) | (go_simp; rfl)); (case hp => exact (Reps.none _ _))
                        intro v191 w26 ho27 hb hg_ hnew_
                        clear hg_ hnew_
                        (first | rw [← Ny190.out] at ho27 | (simp only [Int.reduceToNat] at ho27; rw [← Ny190.out] at ho27))
                        have n0_ := Aside0.mk (Kd.R_lower ho27 (below_size bb_))
                        have n1_ := Aside0.mk (blk_below (kb_ BK185) hb)
                        have n2_ := Aside0.mk (below_step bb_ hb)
                        clear BK185
                        clear HB
                        have HO192 := n0_
                        have BK185 := n1_
                        have HB := n2_
                        clear n0_ n1_ n2_
                        clear hb ho27
                        refine hK.out _ _ ⟨((HB.out.cell (World.block_lt_of_cell? w _ hw188_0)).trans hw188_0), ((HB.out.cell (World.block_lt_of_cell? w _ hw189_0)).trans hw189_0)⟩ (fun hHeld => ?_)
                        clear hK K
                        refine norm_ (a' := ?_) ?_ ?_
                        rotate_left
                        ·show Act.put _ (some 34) _ = _
                         simp only [Act.put, List.setIfInBounds_toArray, List.set_cons_zero, List.set_cons_succ, i64_w, i32_w]
                         rfl
                        exact norm_ (by first | (simp only [putAll, Act.put, List.setIfInBounds_toArray, List.set_cons_zero, List.set_cons_succ]; done) | (simp only [putAll, Act.put, List.setIfInBounds_toArray, List.set_cons_zero, List.set_cons_succ]; rfl)) (hJ10 (v191) _ ⟨hHeld, (kr_ HO192), (by (with_reducible repeat (first | refine blk_drewN ?_ _ | refine blk_drew ?_ | refine blk_alloc ?_ _)); exact BK185.out), bb_⟩)
                       ·skip
                        refine box_step ?hg (N := 5) ?hd (cs := #[.int .i64 0, .int .i64 0, .int .i64 0, .slice none 0 0]) (t := 61) ?hr ?_; (case hd => rfl); (case hg => rfl); (case hr => first | (go_simp; done) | (go_simp; rfl))
                        intro gb197 hg w26 hbox hb
                        have n0_ := Aside0.mk (blk_below (kb_ BK185) hb)
                        have n1_ := Aside0.mk (below_step bb_ hb)
                        have n2_ := Aside0.mk (hbox)
                        have n3_ := (bs_ hg : Aside0 (w.heap.size ≤ _))
                        have n4_ := (bs_ hg : Aside0 (w.heap.size ≤ _))
                        have n5_ := (nl_ hg BK185 : Aside0 (gb185 ≠ gb197))
                        have n6_ := (nr_ hg BK185 : Aside0 (gb197 ≠ gb185))
                        clear BK185
                        clear HB
                        have BK185 := n0_
                        have HB := n1_
                        have BK197 := n2_
                        have GW197 := n3_
                        have GE197 := n4_
                        have NB185_197 := n5_
                        have NB197_185 := n6_
                        clear n0_ n1_ n2_ n3_ n4_ n5_ n6_
                        clear hb hbox hg
                        refine hK.out _ _ ⟨((HB.out.cell (World.block_lt_of_cell? w _ hw188_0)).trans hw188_0), ((HB.out.cell (World.block_lt_of_cell? w _ hw189_0)).trans hw189_0)⟩ (fun hHeld => ?_)
                        clear hK K
                        refine norm_ (a' := ?_) ?_ ?_
                        rotate_left
                        ·show Act.put _ (some 5) _ = _
                         simp only [Act.put, List.setIfInBounds_toArray, List.set_cons_zero, List.set_cons_succ, i64_w, i32_w]
                         rfl
                        exact norm_ (by first | (simp only [putAll, Act.put, List.setIfInBounds_toArray, List.set_cons_zero, List.set_cons_succ]; done) | (simp only [putAll, Act.put, List.setIfInBounds_toArray, List.set_cons_zero, List.set_cons_succ]; rfl)) (hJ17 (gb197) _ ⟨hHeld, (by (with_reducible repeat (first | refine blk_drewN ?_ _ | refine blk_drew ?_ | refine blk_alloc ?_ _)); exact BK185.out), (by (with_reducible repeat (first | refine blk_drewN ?_ _ | refine blk_drew ?_ | refine blk_alloc ?_ _)); exact BK197.out), GW197.out, GE197.out, NB185_197.out, NB197_185.out, bb_⟩)
                      ·skip
                       rintro gb197 w27 ⟨hS_, h0_, h1_, h2_, h3_, h4_, h5_, h6_⟩
                       have n0_ : Aside0 (w27.heap[gb185]? = some (.cells #[.int .i64 0, .int .i64 0, .int .i64 0, .slice none 0 0] 61 (0, 0))) := ⟨h0_⟩
                       have n1_ : Aside0 (w27.heap[gb197]? = some (.cells #[.int .i64 0, .int .i64 0, .int .i64 0, .slice none 0 0] 61 (0, 0))) := ⟨h1_⟩
                       have n2_ : Aside0 (w.heap.size ≤ gb197) := ⟨h2_⟩
                       have n3_ : Aside0 (w.heap.size ≤ gb197) := ⟨h3_⟩
                       have n4_ : Aside0 (gb185 ≠ gb197) := ⟨h4_⟩
                       have n5_ : Aside0 (gb197 ≠ gb185) := ⟨h5_⟩
                       have n6_ : Aside0 (Below w.heap.size w w27) := ⟨h6_⟩
                       clear BK185
                       clear HB
                       clear h0_ h1_ h2_ h3_ h4_ h5_ h6_
                       have BK185 := n0_
                       have BK197 := n1_
                       have GW197 := n2_
                       have GE197 := n3_
                       have NB185_197 := n4_
                       have NB197_185 := n5_
                       have HB := n6_
                       clear n0_ n1_ n2_ n3_ n4_ n5_ n6_
                       have hHeld : w27.cell? ⟨ad186.block, ad186.off + 5, none⟩ = some (.int .u8 (rd l0 5)) ∧ w27.cell? ⟨ad186.block, ad186.off + 6, none⟩ = some (.int .u8 (rd l0 6)) := hS_
                       refine norm_ (a' := ?_) ?_ ?_
                       rotate_left
                       ·simp only [putAll, Act.put, List.setIfInBounds_toArray, List.set_cons_zero, List.set_cons_succ]
                        rfl
                       refine two_ (i := 1) (j := 10) (Ni := some 25) (Nj := some 34) #[true, true, true, true, true, true, true, true, true, true, false, true, true, true, false, false, false, true, false] #[true, false, true, true, true, true, true, true, true, true, true, true, true, true, false, false, false, true, false] rfl rfl rfl rfl (two_of HT_.out (by kernel_rfl)) (by decide) (by decide) (fun K hK => ?_) (fun K hK => ?_)
                       ·skip
                        refine goes_ Try.func182 (by kernel_rfl) rfl #[.slice (some ad186) l0.length c0, .int .i64 3, .int .i64 2] (by rfl) rfl rfl (by (try simp only [List.map_toArray, List.map_cons, List.map_nil]); first | done | rfl | (simp only [List.length_drop, List.length_take]; rfl)) ?_
                        with_reducible refine (spec_l1Take.calls kj5 _ _ l0 3 2 t187 _ ?side1 ?side2 A11.out).mono ?_
                        (case side1 => exact kc_ (Kd.C_below HR0.out HB.out))
                        (case side2 => exact HC0.out)
                        rintro e w' ⟨rfl, ⟨nd, rfl⟩⟩
                        refine ⟨_, rfl, ?_⟩
                        refine hK.out _ _ ⟨((HB.out.cell (World.block_lt_of_cell? w _ hw188_0)).trans hw188_0), ((HB.out.cell (World.block_lt_of_cell? w _ hw189_0)).trans hw189_0)⟩ (fun hHeld => ?_)
                        clear hK K
                        refine norm_ (a' := ?_) ?_ ?_
                        rotate_left
                        ·show Act.put _ (some 25) _ = _
                         simp only [Act.put, List.setIfInBounds_toArray, List.set_cons_zero, List.set_cons_succ, i64_w, i32_w]
                         rfl
                        exact norm_ (by first | (simp only [putAll, Act.put, List.setIfInBounds_toArray, List.set_cons_zero, List.set_cons_succ]; done) | (simp only [putAll, Act.put, List.setIfInBounds_toArray, List.set_cons_zero, List.set_cons_succ]; rfl)) (hJ1_17 (gb197) _ ⟨hHeld, (by (with_reducible repeat (first | refine blk_drewN ?_ _ | refine blk_drew ?_ | refine blk_alloc ?_ _)); exact BK185.out), (by (with_reducible repeat (first | refine blk_drewN ?_ _ | refine blk_drew ?_ | refine blk_alloc ?_ _)); exact BK197.out), GW197.out, GE197.out, NB185_197.out, NB197_185.out, bb_⟩)
                       ·skip
                        refine Kd.R_lit_step (Kd.int .u8) _ 5 ?hg (N := 34) ?hd (xs := ([] : List Int)) (inner := []) (ok := fun _ => True) (okp := fun _ => True) ?hr ?hp (fun _ hk => hk) trivial (Below.refl _ _) (Nat.le_refl _) (by simp) ?_; (case hd => rfl); (case hg => rfl); (case hr => first | (go_simp; done) | (go_simp; rfl)); (case hp => exact (Reps.none _ _))
                        intro v191 w28 ho29 hb hg_ hnew_
                        clear hg_ hnew_
                        (first | rw [← Ny190.out] at ho29 | (simp only [Int.reduceToNat] at ho29; rw [← Ny190.out] at ho29))
                        have n0_ := Aside0.mk (Kd.R_lower ho29 (below_size bb_))
                        have n1_ := Aside0.mk (blk_below (kb_ BK185) hb)
                        have n2_ := Aside0.mk (blk_below (kb_ BK197) hb)
                        have n3_ := Aside0.mk (below_step bb_ hb)
                        clear BK185
                        clear BK197
                        clear HB
                        have HO192 := n0_
                        have BK185 := n1_
                        have BK197 := n2_
                        have HB := n3_
                        clear n0_ n1_ n2_ n3_
                        clear hb ho29
                        refine hK.out _ _ ⟨((HB.out.cell (World.block_lt_of_cell? w _ hw188_0)).trans hw188_0), ((HB.out.cell (World.block_lt_of_cell? w _ hw189_0)).trans hw189_0)⟩ (fun hHeld => ?_)
                        clear hK K
                        refine norm_ (a' := ?_) ?_ ?_
                        rotate_left
                        ·show Act.put _ (some 34) _ = _
                         simp only [Act.put, List.setIfInBounds_toArray, List.set_cons_zero, List.set_cons_succ, i64_w, i32_w]
                         rfl
                        exact norm_ (by first | (simp only [putAll, Act.put, List.setIfInBounds_toArray, List.set_cons_zero, List.set_cons_succ]; done) | (simp only [putAll, Act.put, List.setIfInBounds_toArray, List.set_cons_zero, List.set_cons_succ]; rfl)) (hJ10_17 (v191, gb197) _ ⟨hHeld, (kr_ HO192), (by (with_reducible repeat (first | refine blk_drewN ?_ _ | refine blk_drew ?_ | refine blk_alloc ?_ _)); exact BK185.out), (by (with_reducible repeat (first | refine blk_drewN ?_ _ | refine blk_drew ?_ | refine blk_alloc ?_ _)); exact BK197.out), GW197.out, GE197.out, NB185_197.out, NB197_185.out, bb_⟩)
                     ·skip
                      rintro v191 w28 ⟨hS_, h0_, h1_, h2_⟩
                      have n0_ : Aside0 (Kd.R (Kd.int .u8) 5 w28 w.heap.size (fun _ => True) v191 y190) := ⟨h0_⟩
                      have n1_ : Aside0 (w28.heap[gb185]? = some (.cells #[.int .i64 0, .int .i64 0, .int .i64 0, .slice none 0 0] 61 (0, 0))) := ⟨h1_⟩
                      have n2_ : Aside0 (Below w.heap.size w w28) := ⟨h2_⟩
                      clear BK185
                      clear HB
                      clear h0_ h1_ h2_
                      have HO192 := n0_
                      have BK185 := n1_
                      have HB := n2_
                      clear n0_ n1_ n2_
                      have hHeld : w28.cell? ⟨ad186.block, ad186.off + 5, none⟩ = some (.int .u8 (rd l0 5)) ∧ w28.cell? ⟨ad186.block, ad186.off + 6, none⟩ = some (.int .u8 (rd l0 6)) := hS_
                      refine norm_ (a' := ?_) ?_ ?_
                      rotate_left
                      ·simp only [putAll, Act.put, List.setIfInBounds_toArray, List.set_cons_zero, List.set_cons_succ]
                       rfl
                      refine two_ (i := 1) (j := 17) (Ni := some 25) (Nj := some 5) #[true, true, true, true, true, true, true, true, true, true, true, true, true, true, false, false, false, false, false] #[true, false, true, true, true, true, true, true, true, true, true, true, true, true, false, false, false, true, false] rfl rfl rfl rfl (two_of HT_.out (by kernel_rfl)) (by decide) (by decide) (fun K hK => ?_) (fun K hK => ?_)
                      ·skip
                       refine goes_ Try.func182 (by kernel_rfl) rfl #[.slice (some ad186) l0.length c0, .int .i64 3, .int .i64 2] (by rfl) rfl rfl (by (try simp only [List.map_toArray, List.map_cons, List.map_nil]); first | done | rfl | (simp only [List.length_drop, List.length_take]; rfl)) ?_
                       with_reducible refine (spec_l1Take.calls kj5 _ _ l0 3 2 t187 _ ?side1 ?side2 A11.out).mono ?_
                       (case side1 => exact kc_ (Kd.C_below HR0.out HB.out))
                       (case side2 => exact HC0.out)
                       rintro e w' ⟨rfl, ⟨nd, rfl⟩⟩
                       refine ⟨_, rfl, ?_⟩
                       refine hK.out _ _ ⟨((HB.out.cell (World.block_lt_of_cell? w _ hw188_0)).trans hw188_0), ((HB.out.cell (World.block_lt_of_cell? w _ hw189_0)).trans hw189_0)⟩ (fun hHeld => ?_)
                       clear hK K
                       refine norm_ (a' := ?_) ?_ ?_
                       rotate_left
                       ·show Act.put _ (some 25) _ = _
                        simp only [Act.put, List.setIfInBounds_toArray, List.set_cons_zero, List.set_cons_succ, i64_w, i32_w]
                        rfl
                       exact norm_ (by first | (simp only [putAll, Act.put, List.setIfInBounds_toArray, List.set_cons_zero, List.set_cons_succ]; done) | (simp only [putAll, Act.put, List.setIfInBounds_toArray, List.set_cons_zero, List.set_cons_succ]; rfl)) (hJ1_10 (v191) _ ⟨hHeld, (kr_ HO192), (by (with_reducible repeat (first | refine blk_drewN ?_ _ | refine blk_drew ?_ | refine blk_alloc ?_ _)); exact BK185.out), bb_⟩)
                      ·skip
                       refine box_step ?hg (N := 5) ?hd (cs := #[.int .i64 0, .int .i64 0, .int .i64 0, .slice none 0 0]) (t := 61) ?hr ?_; (case hd => rfl); (case hg => rfl); (case hr => first | (go_simp; done) | (go_simp; rfl))
                       intro gb197 hg w29 hbox hb
                       have n0_ := Aside0.mk (Kd.R_below (kr_ HO192) hb)
                       have n1_ := Aside0.mk (blk_below (kb_ BK185) hb)
                       have n2_ := Aside0.mk (below_step bb_ hb)
                       have n3_ := Aside0.mk (hbox)
                       have n4_ := (bs_ hg : Aside0 (w.heap.size ≤ _))
                       have n5_ := (bs_ hg : Aside0 (w.heap.size ≤ _))
                       have n6_ := (nl_ hg BK185 : Aside0 (gb185 ≠ gb197))
                       have n7_ := (nr_ hg BK185 : Aside0 (gb197 ≠ gb185))
                       clear HO192
                       clear BK185
                       clear HB
                       have HO192 := n0_
                       have BK185 := n1_
                       have HB := n2_
                       have BK197 := n3_
                       have GW197 := n4_
                       have GE197 := n5_
                       have NB185_197 := n6_
                       have NB197_185 := n7_
                       clear n0_ n1_ n2_ n3_ n4_ n5_ n6_ n7_
                       clear hb hbox hg
                       refine hK.out _ _ ⟨((HB.out.cell (World.block_lt_of_cell? w _ hw188_0)).trans hw188_0), ((HB.out.cell (World.block_lt_of_cell? w _ hw189_0)).trans hw189_0)⟩ (fun hHeld => ?_)
                       clear hK K
                       refine norm_ (a' := ?_) ?_ ?_
                       rotate_left
                       ·show Act.put _ (some 5) _ = _
                        simp only [Act.put, List.setIfInBounds_toArray, List.set_cons_zero, List.set_cons_succ, i64_w, i32_w]
                        rfl
                       exact norm_ (by first | (simp only [putAll, Act.put, List.setIfInBounds_toArray, List.set_cons_zero, List.set_cons_succ]; done) | (simp only [putAll, Act.put, List.setIfInBounds_toArray, List.set_cons_zero, List.set_cons_succ]; rfl)) (hJ10_17 (v191, gb197) _ ⟨hHeld, (kr_ HO192), (by (with_reducible repeat (first | refine blk_drewN ?_ _ | refine blk_drew ?_ | refine blk_alloc ?_ _)); exact BK185.out), (by (with_reducible repeat (first | refine blk_drewN ?_ _ | refine blk_drew ?_ | refine blk_alloc ?_ _)); exact BK197.out), GW197.out, GE197.out, NB185_197.out, NB197_185.out, bb_⟩)
                    ·skip
                     rintro _ w26 ⟨hS_, h0_, h1_⟩
                     have n0_ : Aside0 (w26.heap[gb185]? = some (.cells #[.int .i64 0, .int .i64 0, .int .i64 0, .slice none 0 0] 61 (0, 0))) := ⟨h0_⟩
                     have n1_ : Aside0 (Below w.heap.size w w26) := ⟨h1_⟩
                     clear BK185
                     clear HB
                     clear h0_ h1_
                     have BK185 := n0_
                     have HB := n1_
                     clear n0_ n1_
                     have hHeld : w26.cell? ⟨ad186.block, ad186.off + 5, none⟩ = some (.int .u8 (rd l0 5)) ∧ w26.cell? ⟨ad186.block, ad186.off + 6, none⟩ = some (.int .u8 (rd l0 6)) := hS_
                     refine norm_ (a' := ?_) ?_ ?_
                     rotate_left
                     ·simp only [putAll, Act.put, List.setIfInBounds_toArray, List.set_cons_zero, List.set_cons_succ]
                      rfl
                     refine two_ (i := 10) (j := 17) (Ni := some 34) (Nj := some 5) #[true, true, true, true, true, true, true, true, true, true, true, true, true, true, false, false, false, false, false] #[true, true, true, true, true, true, true, true, true, true, false, true, true, true, false, false, false, true, false] rfl rfl rfl rfl (two_of HT_.out (by kernel_rfl)) (by decide) (by decide) (fun K hK => ?_) (fun K hK => ?_)
                     ·skip
                      refine Kd.R_lit_step (Kd.int .u8) _ 5 ?hg (N := 34) ?hd (xs := ([] : List Int)) (inner := []) (ok := fun _ => True) (okp := fun _ => True) ?hr ?hp (fun _ hk => hk) trivial (Below.refl _ _) (Nat.le_refl _) (by simp) ?_; (case hd => rfl); (case hg => rfl); (case hr => first | (go_simp; done) | (go_simp; rfl)); (case hp => exact (Reps.none _ _))
                      intro v191 w27 ho28 hb hg_ hnew_
                      clear hg_ hnew_
                      (first | rw [← Ny190.out] at ho28 | (simp only [Int.reduceToNat] at ho28; rw [← Ny190.out] at ho28))
                      have n0_ := Aside0.mk (Kd.R_lower ho28 (below_size bb_))
                      have n1_ := Aside0.mk (blk_below (kb_ BK185) hb)
                      have n2_ := Aside0.mk (below_step bb_ hb)
                      clear BK185
                      clear HB
                      have HO192 := n0_
                      have BK185 := n1_
                      have HB := n2_
                      clear n0_ n1_ n2_
                      clear hb ho28
                      refine hK.out _ _ ⟨((HB.out.cell (World.block_lt_of_cell? w _ hw188_0)).trans hw188_0), ((HB.out.cell (World.block_lt_of_cell? w _ hw189_0)).trans hw189_0)⟩ (fun hHeld => ?_)
                      clear hK K
                      refine norm_ (a' := ?_) ?_ ?_
                      rotate_left
                      ·show Act.put _ (some 34) _ = _
                       simp only [Act.put, List.setIfInBounds_toArray, List.set_cons_zero, List.set_cons_succ, i64_w, i32_w]
                       rfl
                      exact norm_ (by first | (simp only [putAll, Act.put, List.setIfInBounds_toArray, List.set_cons_zero, List.set_cons_succ]; done) | (simp only [putAll, Act.put, List.setIfInBounds_toArray, List.set_cons_zero, List.set_cons_succ]; rfl)) (hJ1_10 (v191) _ ⟨hHeld, (kr_ HO192), (by (with_reducible repeat (first | refine blk_drewN ?_ _ | refine blk_drew ?_ | refine blk_alloc ?_ _)); exact BK185.out), bb_⟩)
                     ·skip
                      refine box_step ?hg (N := 5) ?hd (cs := #[.int .i64 0, .int .i64 0, .int .i64 0, .slice none 0 0]) (t := 61) ?hr ?_; (case hd => rfl); (case hg => rfl); (case hr => first | (go_simp; done) | (go_simp; rfl))
                      intro gb197 hg w27 hbox hb
                      have n0_ := Aside0.mk (blk_below (kb_ BK185) hb)
                      have n1_ := Aside0.mk (below_step bb_ hb)
                      have n2_ := Aside0.mk (hbox)
                      have n3_ := (bs_ hg : Aside0 (w.heap.size ≤ _))
                      have n4_ := (bs_ hg : Aside0 (w.heap.size ≤ _))
                      have n5_ := (nl_ hg BK185 : Aside0 (gb185 ≠ gb197))
                      have n6_ := (nr_ hg BK185 : Aside0 (gb197 ≠ gb185))
                      clear BK185
                      clear HB
                      have BK185 := n0_
                      have HB := n1_
                      have BK197 := n2_
                      have GW197 := n3_
                      have GE197 := n4_
                      have NB185_197 := n5_
                      have NB197_185 := n6_
                      clear n0_ n1_ n2_ n3_ n4_ n5_ n6_
                      clear hb hbox hg
                      refine hK.out _ _ ⟨((HB.out.cell (World.block_lt_of_cell? w _ hw188_0)).trans hw188_0), ((HB.out.cell (World.block_lt_of_cell? w _ hw189_0)).trans hw189_0)⟩ (fun hHeld => ?_)
                      clear hK K
                      refine norm_ (a' := ?_) ?_ ?_
                      rotate_left
                      ·show Act.put _ (some 5) _ = _
                       simp only [Act.put, List.setIfInBounds_toArray, List.set_cons_zero, List.set_cons_succ, i64_w, i32_w]
                       rfl
                      exact norm_ (by first | (simp only [putAll, Act.put, List.setIfInBounds_toArray, List.set_cons_zero, List.set_cons_succ]; done) | (simp only [putAll, Act.put, List.setIfInBounds_toArray, List.set_cons_zero, List.set_cons_succ]; rfl)) (hJ1_17 (gb197) _ ⟨hHeld, (by (with_reducible repeat (first | refine blk_drewN ?_ _ | refine blk_drew ?_ | refine blk_alloc ?_ _)); exact BK185.out), (by (with_reducible repeat (first | refine blk_drewN ?_ _ | refine blk_drew ?_ | refine blk_alloc ?_ _)); exact BK197.out), GW197.out, GE197.out, NB185_197.out, NB197_185.out, bb_⟩)
                   ·skip
                    rintro ⟨v191, gb197⟩ w29 ⟨hS_, h0_, h1_, h2_, h3_, h4_, h5_, h6_, h7_⟩
                    have n0_ : Aside0 (Kd.R (Kd.int .u8) 5 w29 w.heap.size (fun _ => True) v191 y190) := ⟨h0_⟩
                    have n1_ : Aside0 (w29.heap[gb185]? = some (.cells #[.int .i64 0, .int .i64 0, .int .i64 0, .slice none 0 0] 61 (0, 0))) := ⟨h1_⟩
                    have n2_ : Aside0 (w29.heap[gb197]? = some (.cells #[.int .i64 0, .int .i64 0, .int .i64 0, .slice none 0 0] 61 (0, 0))) := ⟨h2_⟩
                    have n3_ : Aside0 (w.heap.size ≤ gb197) := ⟨h3_⟩
                    have n4_ : Aside0 (w.heap.size ≤ gb197) := ⟨h4_⟩
                    have n5_ : Aside0 (gb185 ≠ gb197) := ⟨h5_⟩
                    have n6_ : Aside0 (gb197 ≠ gb185) := ⟨h6_⟩
                    have n7_ : Aside0 (Below w.heap.size w w29) := ⟨h7_⟩
                    clear BK185
                    clear HB
                    clear h0_ h1_ h2_ h3_ h4_ h5_ h6_ h7_
                    have HO192 := n0_
                    have BK185 := n1_
                    have BK197 := n2_
                    have GW197 := n3_
                    have GE197 := n4_
                    have NB185_197 := n5_
                    have NB197_185 := n6_
                    have HB := n7_
                    clear n0_ n1_ n2_ n3_ n4_ n5_ n6_ n7_
                    have hHeld : w29.cell? ⟨ad186.block, ad186.off + 5, none⟩ = some (.int .u8 (rd l0 5)) ∧ w29.cell? ⟨ad186.block, ad186.off + 6, none⟩ = some (.int .u8 (rd l0 6)) := hS_
                    refine norm_ (a' := ?_) ?_ ?_
                    rotate_left
                    ·simp only [putAll, Act.put, List.setIfInBounds_toArray, List.set_cons_zero, List.set_cons_succ]
                     rfl
                    refine one_ (i := 1) (N := some 25) #[true, true, true, true, true, true, true, true, true, true, true, true, true, true, false, false, false, true, false] rfl rfl (one_of HT_.out (by kernel_rfl)) (by decide) (fun K hK => ?_)
                    refine goes_ Try.func182 (by kernel_rfl) rfl #[.slice (some ad186) l0.length c0, .int .i64 3, .int .i64 2] (by rfl) rfl rfl (by (try simp only [List.map_toArray, List.map_cons, List.map_nil]); first | done | rfl | (simp only [List.length_drop, List.length_take]; rfl)) ?_
                    with_reducible refine (spec_l1Take.calls kj5 _ _ l0 3 2 t187 _ ?side1 ?side2 A11.out).mono ?_
                    (case side1 => exact kc_ (Kd.C_below HR0.out HB.out))
                    (case side2 => exact HC0.out)
                    rintro e w' ⟨rfl, ⟨nd, rfl⟩⟩
                    refine ⟨_, rfl, ?_⟩
                    refine hK.out _ _ ⟨((HB.out.cell (World.block_lt_of_cell? w _ hw188_0)).trans hw188_0), ((HB.out.cell (World.block_lt_of_cell? w _ hw189_0)).trans hw189_0)⟩ (fun hHeld => ?_)
                    clear hK K
                    refine norm_ (a' := ?_) ?_ ?_
                    rotate_left
                    ·show Act.put _ (some 25) _ = _
                     simp only [Act.put, List.setIfInBounds_toArray, List.set_cons_zero, List.set_cons_succ, i64_w, i32_w]
                     rfl
                    exact norm_ (by first | (simp only [putAll, Act.put, List.setIfInBounds_toArray, List.set_cons_zero, List.set_cons_succ]; done) | (simp only [putAll, Act.put, List.setIfInBounds_toArray, List.set_cons_zero, List.set_cons_succ]; rfl)) (hJ1_10_17 (v191, gb197) _ ⟨hHeld, (kr_ HO192), (by (with_reducible repeat (first | refine blk_drewN ?_ _ | refine blk_drew ?_ | refine blk_alloc ?_ _)); exact BK185.out), (by (with_reducible repeat (first | refine blk_drewN ?_ _ | refine blk_drew ?_ | refine blk_alloc ?_ _)); exact BK197.out), GW197.out, GE197.out, NB185_197.out, NB197_185.out, bb_⟩)
                  ·skip
                   rintro gb197 w27 ⟨hS_, h0_, h1_, h2_, h3_, h4_, h5_, h6_⟩
                   have n0_ : Aside0 (w27.heap[gb185]? = some (.cells #[.int .i64 0, .int .i64 0, .int .i64 0, .slice none 0 0] 61 (0, 0))) := ⟨h0_⟩
                   have n1_ : Aside0 (w27.heap[gb197]? = some (.cells #[.int .i64 0, .int .i64 0, .int .i64 0, .slice none 0 0] 61 (0, 0))) := ⟨h1_⟩
                   have n2_ : Aside0 (w.heap.size ≤ gb197) := ⟨h2_⟩
                   have n3_ : Aside0 (w.heap.size ≤ gb197) := ⟨h3_⟩
                   have n4_ : Aside0 (gb185 ≠ gb197) := ⟨h4_⟩
                   have n5_ : Aside0 (gb197 ≠ gb185) := ⟨h5_⟩
                   have n6_ : Aside0 (Below w.heap.size w w27) := ⟨h6_⟩
                   clear BK185
                   clear HB
                   clear h0_ h1_ h2_ h3_ h4_ h5_ h6_
                   have BK185 := n0_
                   have BK197 := n1_
                   have GW197 := n2_
                   have GE197 := n3_
                   have NB185_197 := n4_
                   have NB197_185 := n5_
                   have HB := n6_
                   clear n0_ n1_ n2_ n3_ n4_ n5_ n6_
                   have hHeld : w27.cell? ⟨ad186.block, ad186.off + 5, none⟩ = some (.int .u8 (rd l0 5)) ∧ w27.cell? ⟨ad186.block, ad186.off + 6, none⟩ = some (.int .u8 (rd l0 6)) := hS_
                   refine norm_ (a' := ?_) ?_ ?_
                   rotate_left
                   ·simp only [putAll, Act.put, List.setIfInBounds_toArray, List.set_cons_zero, List.set_cons_succ]
                    rfl
                   refine one_ (i := 10) (N := some 34) #[true, true, true, true, true, true, true, true, true, true, true, true, true, true, false, false, false, true, false] rfl rfl (one_of HT_.out (by kernel_rfl)) (by decide) (fun K hK => ?_)
                   refine Kd.R_lit_step (Kd.int .u8) _ 5 ?hg (N := 34) ?hd (xs := ([] : List Int)) (inner := []) (ok := fun _ => True) (okp := fun _ => True) ?hr ?hp (fun _ hk => hk) trivial (Below.refl _ _) (Nat.le_refl _) (by simp) ?_; (case hd => rfl); (case hg => rfl); (case hr => first | (go_simp; done) | (go_simp; rfl)); (case hp => exact (Reps.none _ _))
                   intro v191 w28 ho29 hb hg_ hnew_
                   clear hg_ hnew_
                   (first | rw [← Ny190.out] at ho29 | (simp only [Int.reduceToNat] at ho29; rw [← Ny190.out] at ho29))
                   have n0_ := Aside0.mk (Kd.R_lower ho29 (below_size bb_))
                   have n1_ := Aside0.mk (blk_below (kb_ BK185) hb)
                   have n2_ := Aside0.mk (blk_below (kb_ BK197) hb)
                   have n3_ := Aside0.mk (below_step bb_ hb)
                   clear BK185
                   clear BK197
                   clear HB
                   have HO192 := n0_
                   have BK185 := n1_
                   have BK197 := n2_
                   have HB := n3_
                   clear n0_ n1_ n2_ n3_
                   clear hb ho29
                   refine hK.out _ _ ⟨((HB.out.cell (World.block_lt_of_cell? w _ hw188_0)).trans hw188_0), ((HB.out.cell (World.block_lt_of_cell? w _ hw189_0)).trans hw189_0)⟩ (fun hHeld => ?_)
                   clear hK K
                   refine norm_ (a' := ?_) ?_ ?_
                   rotate_left
                   ·show Act.put _ (some 34) _ = _
                    simp only [Act.put, List.setIfInBounds_toArray, List.set_cons_zero, List.set_cons_succ, i64_w, i32_w]
                    rfl
                   exact norm_ (by first | (simp only [putAll, Act.put, List.setIfInBounds_toArray, List.set_cons_zero, List.set_cons_succ]; done) | (simp only [putAll, Act.put, List.setIfInBounds_toArray, List.set_cons_zero, List.set_cons_succ]; rfl)) (hJ1_10_17 (v191, gb197) _ ⟨hHeld, (kr_ HO192), (by (with_reducible repeat (first | refine blk_drewN ?_ _ | refine blk_drew ?_ | refine blk_alloc ?_ _)); exact BK185.out), (by (with_reducible repeat (first | refine blk_drewN ?_ _ | refine blk_drew ?_ | refine blk_alloc ?_ _)); exact BK197.out), GW197.out, GE197.out, NB185_197.out, NB197_185.out, bb_⟩)
                 ·skip
                  rintro v191 w28 ⟨hS_, h0_, h1_, h2_⟩
                  have n0_ : Aside0 (Kd.R (Kd.int .u8) 5 w28 w.heap.size (fun _ => True) v191 y190) := ⟨h0_⟩
                  have n1_ : Aside0 (w28.heap[gb185]? = some (.cells #[.int .i64 0, .int .i64 0, .int .i64 0, .slice none 0 0] 61 (0, 0))) := ⟨h1_⟩
                  have n2_ : Aside0 (Below w.heap.size w w28) := ⟨h2_⟩
                  clear BK185
                  clear HB
                  clear h0_ h1_ h2_
                  have HO192 := n0_
                  have BK185 := n1_
                  have HB := n2_
                  clear n0_ n1_ n2_
                  have hHeld : w28.cell? ⟨ad186.block, ad186.off + 5, none⟩ = some (.int .u8 (rd l0 5)) ∧ w28.cell? ⟨ad186.block, ad186.off + 6, none⟩ = some (.int .u8 (rd l0 6)) := hS_
                  refine norm_ (a' := ?_) ?_ ?_
                  rotate_left
                  ·simp only [putAll, Act.put, List.setIfInBounds_toArray, List.set_cons_zero, List.set_cons_succ]
                   rfl
                  refine two_ (i := 14) (j := 17) (Ni := some 38) (Nj := some 5) #[true, true, true, true, true, true, true, true, true, true, true, true, true, true, true, false, false, false, false] #[true, true, true, true, true, true, true, true, true, true, true, true, true, true, false, false, false, true, false] rfl rfl rfl rfl (two_of HT_.out (by kernel_rfl)) (by decide) (by decide) (fun K hK => ?_) (fun K hK => ?_)
                  ·skip
                   refine Kd.R_append_rows_step (Kd.int .u8) (w0 := w) w.heap.size (by rfl) (.tmp 34) (.tmp 37) 22 5 (.int .u8 0) 1 rfl Try.underlying22 info5 rfl (by decide) (by omega) v191 y190 ((l0.take ((ji20) : Int).toNat).drop 8) _ _ _ (fun _ => True) (fun _ => False) rfl rfl ?aO ?aR (fun _ _ h => h) (fun _ h => h.elim) ?aF ?aB ?aS ?aL ?_
                   (case aR => first | (have hq_ := HR193.out; rw [show ((l0.take ((ji20) : Int).toNat).drop 8).length = ((ji20).toNat - 8) from (by rw [List.length_drop, List.length_take]; have h_ : ((ji20) : Int) ≤ (l0.length : Int) := of_decide_eq_true as_; omega)] at hq_; repeat (first | exact (Kd.C_below hq_ HB.out) | (with_reducible refine Kd.C_alloc ?_ _) | (with_reducible refine Kd.C_drewN ?_ _) | (with_reducible refine Kd.C_drew ?_)); done) | (rw [← show ((l0.take ((ji20) : Int).toNat).drop 8).length = ((ji20).toNat - 8) from (by rw [List.length_drop, List.length_take]; have h_ : ((ji20) : Int) ≤ (l0.length : Int) := of_decide_eq_true as_; omega)]; repeat (first | exact (Kd.C_below HR193.out HB.out) | (with_reducible refine Kd.C_alloc ?_ _) | (with_reducible refine Kd.C_drewN ?_ _) | (with_reducible refine Kd.C_drew ?_)); done) | (repeat (first | exact (Kd.C_below HR193.out HB.out) | (with_reducible refine Kd.C_alloc ?_ _) | (with_reducible refine Kd.C_drewN ?_ _) | (with_reducible refine Kd.C_drew ?_))))
                   (case aB => exact bb_)
                   (case aF => exact (fun _ _ => trivial))
                   (case aO => exact (kr_ HO192))
                   (case aS => exact (below_size bb_))
                   (case aL => have := LMc16.out; have hlx_ := (show ((l0.take ((ji20) : Int).toNat).drop 8).length = ((ji20).toNat - 8) from (by rw [List.length_drop, List.length_take]; have h_ : ((ji20) : Int) ≤ (l0.length : Int) := of_decide_eq_true as_; omega)); omega)
                   intro v195 w29 ho hb hg hat
                   rw [← Ny194.out] at ho
                   have n0_ := Aside0.mk (blk_grown (g := gb185) (o := .cells #[.int .i64 0, .int .i64 0, .int .i64 0, .slice none 0 0] 61 (0, 0)) (by (with_reducible repeat (first | refine blk_drewN ?_ _ | refine blk_drew ?_ | refine blk_alloc ?_ _)); exact BK185.out) hg (Kd.R_ne HO192.out BK185.out (by decide)))
                   have n1_ := Aside0.mk (hb)
                   have n2_ := Aside0.mk (ho)
                   clear BK185
                   clear HB
                   clear HO192
                   have BK185 := n0_
                   have HB := n1_
                   have HO196 := n2_
                   clear n0_ n1_ n2_
                   clear ho hb hg hat
                   obtain ⟨Ao30, co30, eo30⟩ := Kd.R_slice HO196.out
                   (first | subst eo30 | (injection eo30 with f1_ f2_ f3_; have f4_ := f1_.symm; have f5_ := f3_.symm; clear f1_ f2_ f3_; subst f4_; subst f5_))
                   refine hK.out _ _ ⟨((HB.out.cell (World.block_lt_of_cell? w _ hw188_0)).trans hw188_0), ((HB.out.cell (World.block_lt_of_cell? w _ hw189_0)).trans hw189_0)⟩ (fun hHeld => ?_)
                   clear hK K
                   refine norm_ (a' := ?_) ?_ ?_
                   rotate_left
                   ·show Act.put _ (some 38) _ = _
                    simp only [Act.put, List.setIfInBounds_toArray, List.set_cons_zero, List.set_cons_succ, i64_w, i32_w]
                    rfl
                   refine pure_ (i := 15) (N := some 39) (v := ?_) (a' := ?_) #[true, true, true, true, true, true, true, true, true, true, true, true, true, true, true, true, false, false, false] rfl rfl (any_of HT_.out (by kernel_rfl)) (fun _ _ _ h => h) (Or.inl ⟨by rfl, ?_⟩) ?_ ?_
                   rotate_left
                   ·intro w'
                    go_simp
                    with_reducible rfl
                   rotate_left
                   ·simp only [Act.put, List.setIfInBounds_toArray, List.set_cons_zero, List.set_cons_succ, i64_w, i32_w]
                    rfl
                   refine pure_ (i := 16) (N := some 40) (v := ?_) (a' := ?_) #[true, true, true, true, true, true, true, true, true, true, true, true, true, true, true, true, true, false, false] rfl rfl (any_of HT_.out (by kernel_rfl)) (fun _ _ _ h => h) (Or.inl ⟨by rfl, ?_⟩) ?_ ?_
                   rotate_left
                   ·intro w'
                    go_simp
                    with_reducible rfl
                   rotate_left
                   ·simp only [Act.put, List.setIfInBounds_toArray, List.set_cons_zero, List.set_cons_succ, i64_w, i32_w]
                    rfl
                   exact norm_ (by first | (simp only [putAll, Act.put, List.setIfInBounds_toArray, List.set_cons_zero, List.set_cons_succ]; done) | (simp only [putAll, Act.put, List.setIfInBounds_toArray, List.set_cons_zero, List.set_cons_succ]; rfl)) (hJ1_10_14 (v191, .slice Ao30 y194.length co30) _ ⟨hHeld, (kr_ HO196), (by (with_reducible repeat (first | refine blk_drewN ?_ _ | refine blk_drew ?_ | refine blk_alloc ?_ _)); exact BK185.out), bb_⟩)
                  ·skip
                   refine box_step ?hg (N := 5) ?hd (cs := #[.int .i64 0, .int .i64 0, .int .i64 0, .slice none 0 0]) (t := 61) ?hr ?_; (case hd => rfl); (case hg => rfl); (case hr => first | (go_simp; done) | (go_simp; rfl))
                   intro gb197 hg w29 hbox hb
                   have n0_ := Aside0.mk (Kd.R_below (kr_ HO192) hb)
                   have n1_ := Aside0.mk (blk_below (kb_ BK185) hb)
                   have n2_ := Aside0.mk (below_step bb_ hb)
                   have n3_ := Aside0.mk (hbox)
                   have n4_ := (bs_ hg : Aside0 (w.heap.size ≤ _))
                   have n5_ := (bs_ hg : Aside0 (w.heap.size ≤ _))
                   have n6_ := (nl_ hg BK185 : Aside0 (gb185 ≠ gb197))
                   have n7_ := (nr_ hg BK185 : Aside0 (gb197 ≠ gb185))
                   clear HO192
                   clear BK185
                   clear HB
                   have HO192 := n0_
                   have BK185 := n1_
                   have HB := n2_
                   have BK197 := n3_
                   have GW197 := n4_
                   have GE197 := n5_
                   have NB185_197 := n6_
                   have NB197_185 := n7_
                   clear n0_ n1_ n2_ n3_ n4_ n5_ n6_ n7_
                   clear hb hbox hg
                   refine hK.out _ _ ⟨((HB.out.cell (World.block_lt_of_cell? w _ hw188_0)).trans hw188_0), ((HB.out.cell (World.block_lt_of_cell? w _ hw189_0)).trans hw189_0)⟩ (fun hHeld => ?_)
                   clear hK K
                   refine norm_ (a' := ?_) ?_ ?_
                   rotate_left
                   ·show Act.put _ (some 5) _ = _
                    simp only [Act.put, List.setIfInBounds_toArray, List.set_cons_zero, List.set_cons_succ, i64_w, i32_w]
                    rfl
                   exact norm_ (by first | (simp only [putAll, Act.put, List.setIfInBounds_toArray, List.set_cons_zero, List.set_cons_succ]; done) | (simp only [putAll, Act.put, List.setIfInBounds_toArray, List.set_cons_zero, List.set_cons_succ]; rfl)) (hJ1_10_17 (v191, gb197) _ ⟨hHeld, (kr_ HO192), (by (with_reducible repeat (first | refine blk_drewN ?_ _ | refine blk_drew ?_ | refine blk_alloc ?_ _)); exact BK185.out), (by (with_reducible repeat (first | refine blk_drewN ?_ _ | refine blk_drew ?_ | refine blk_alloc ?_ _)); exact BK197.out), GW197.out, GE197.out, NB185_197.out, NB197_185.out, bb_⟩)
                ·skip
                 rintro ⟨v191, gb197⟩ w29 ⟨hS_, h0_, h1_, h2_, h3_, h4_, h5_, h6_, h7_⟩
                 have n0_ : Aside0 (Kd.R (Kd.int .u8) 5 w29 w.heap.size (fun _ => True) v191 y190) := ⟨h0_⟩
                 have n1_ : Aside0 (w29.heap[gb185]? = some (.cells #[.int .i64 0, .int .i64 0, .int .i64 0, .slice none 0 0] 61 (0, 0))) := ⟨h1_⟩
                 have n2_ : Aside0 (w29.heap[gb197]? = some (.cells #[.int .i64 0, .int .i64 0, .int .i64 0, .slice none 0 0] 61 (0, 0))) := ⟨h2_⟩
                 have n3_ : Aside0 (w.heap.size ≤ gb197) := ⟨h3_⟩
                 have n4_ : Aside0 (w.heap.size ≤ gb197) := ⟨h4_⟩
                 have n5_ : Aside0 (gb185 ≠ gb197) := ⟨h5_⟩
                 have n6_ : Aside0 (gb197 ≠ gb185) := ⟨h6_⟩
                 have n7_ : Aside0 (Below w.heap.size w w29) := ⟨h7_⟩
                 clear BK185
                 clear HB
                 clear h0_ h1_ h2_ h3_ h4_ h5_ h6_ h7_
                 have HO192 := n0_
                 have BK185 := n1_
                 have BK197 := n2_
                 have GW197 := n3_
                 have GE197 := n4_
                 have NB185_197 := n5_
                 have NB197_185 := n6_
                 have HB := n7_
                 clear n0_ n1_ n2_ n3_ n4_ n5_ n6_ n7_
                 have hHeld : w29.cell? ⟨ad186.block, ad186.off + 5, none⟩ = some (.int .u8 (rd l0 5)) ∧ w29.cell? ⟨ad186.block, ad186.off + 6, none⟩ = some (.int .u8 (rd l0 6)) := hS_
                 refine norm_ (a' := ?_) ?_ ?_
                 rotate_left
                 ·simp only [putAll, Act.put, List.setIfInBounds_toArray, List.set_cons_zero, List.set_cons_succ]
                  rfl
                 refine one_ (i := 14) (N := some 38) #[true, true, true, true, true, true, true, true, true, true, true, true, true, true, true, false, false, true, false] rfl rfl (one_of HT_.out (by kernel_rfl)) (by decide) (fun K hK => ?_)
                 refine Kd.R_append_rows_step (Kd.int .u8) (w0 := w) w.heap.size (by rfl) (.tmp 34) (.tmp 37) 22 5 (.int .u8 0) 1 rfl Try.underlying22 info5 rfl (by decide) (by omega) v191 y190 ((l0.take ((ji20) : Int).toNat).drop 8) _ _ _ (fun _ => True) (fun _ => False) rfl rfl ?aO ?aR (fun _ _ h => h) (fun _ h => h.elim) ?aF ?aB ?aS ?aL ?_
                 (case aR => first | (have hq_ := HR193.out; rw [show ((l0.take ((ji20) : Int).toNat).drop 8).length = ((ji20).toNat - 8) from (by rw [List.length_drop, List.length_take]; have h_ : ((ji20) : Int) ≤ (l0.length : Int) := of_decide_eq_true as_; omega)] at hq_; repeat (first | exact (Kd.C_below hq_ HB.out) | (with_reducible refine Kd.C_alloc ?_ _) | (with_reducible refine Kd.C_drewN ?_ _) | (with_reducible refine Kd.C_drew ?_)); done) | (rw [← show ((l0.take ((ji20) : Int).toNat).drop 8).length = ((ji20).toNat - 8) from (by rw [List.length_drop, List.length_take]; have h_ : ((ji20) : Int) ≤ (l0.length : Int) := of_decide_eq_true as_; omega)]; repeat (first | exact (Kd.C_below HR193.out HB.out) | (with_reducible refine Kd.C_alloc ?_ _) | (with_reducible refine Kd.C_drewN ?_ _) | (with_reducible refine Kd.C_drew ?_)); done) | (repeat (first | exact (Kd.C_below HR193.out HB.out) | (with_reducible refine Kd.C_alloc ?_ _) | (with_reducible refine Kd.C_drewN ?_ _) | (with_reducible refine Kd.C_drew ?_))))
                 (case aB => exact bb_)
                 (case aF => exact (fun _ _ => trivial))
                 (case aO => exact (kr_ HO192))
                 (case aS => exact (below_size bb_))
                 (case aL => have := LMc16.out; have hlx_ := (show ((l0.take ((ji20) : Int).toNat).drop 8).length = ((ji20).toNat - 8) from (by rw [List.length_drop, List.length_take]; have h_ : ((ji20) : Int) ≤ (l0.length : Int) := of_decide_eq_true as_; omega)); omega)
                 intro v195 w30 ho hb hg hat
                 rw [← Ny194.out] at ho
                 have n0_ := Aside0.mk (blk_grown (g := gb185) (o := .cells #[.int .i64 0, .int .i64 0, .int .i64 0, .slice none 0 0] 61 (0, 0)) (by (with_reducible repeat (first | refine blk_drewN ?_ _ | refine blk_drew ?_ | refine blk_alloc ?_ _)); exact BK185.out) hg (Kd.R_ne HO192.out BK185.out (by decide)))
                 have n1_ := Aside0.mk (blk_grown (g := gb197) (o := .cells #[.int .i64 0, .int .i64 0, .int .i64 0, .slice none 0 0] 61 (0, 0)) (by (with_reducible repeat (first | refine blk_drewN ?_ _ | refine blk_drew ?_ | refine blk_alloc ?_ _)); exact BK197.out) hg (Kd.R_ne HO192.out BK197.out (by decide)))
                 have n2_ := Aside0.mk (hb)
                 have n3_ := Aside0.mk (ho)
                 clear BK185
                 clear BK197
                 clear HB
                 clear HO192
                 have BK185 := n0_
                 have BK197 := n1_
                 have HB := n2_
                 have HO196 := n3_
                 clear n0_ n1_ n2_ n3_
                 clear ho hb hg hat
                 obtain ⟨Ao31, co31, eo31⟩ := Kd.R_slice HO196.out
                 (first | subst eo31 | (injection eo31 with f1_ f2_ f3_; have f4_ := f1_.symm; have f5_ := f3_.symm; clear f1_ f2_ f3_; subst f4_; subst f5_))
                 refine hK.out _ _ ⟨((HB.out.cell (World.block_lt_of_cell? w _ hw188_0)).trans hw188_0), ((HB.out.cell (World.block_lt_of_cell? w _ hw189_0)).trans hw189_0)⟩ (fun hHeld => ?_)
                 clear hK K
                 refine norm_ (a' := ?_) ?_ ?_
                 rotate_left
                 ·show Act.put _ (some 38) _ = _
                  simp only [Act.put, List.setIfInBounds_toArray, List.set_cons_zero, List.set_cons_succ, i64_w, i32_w]
                  rfl
                 refine pure_ (i := 15) (N := some 39) (v := ?_) (a' := ?_) #[true, true, true, true, true, true, true, true, true, true, true, true, true, true, true, true, false, true, false] rfl rfl (any_of HT_.out (by kernel_rfl)) (fun _ _ _ h => h) (Or.inl ⟨by rfl, ?_⟩) ?_ ?_
                 rotate_left
                 ·intro w'
                  go_simp
                  with_reducible rfl
                 rotate_left
                 ·simp only [Act.put, List.setIfInBounds_toArray, List.set_cons_zero, List.set_cons_succ, i64_w, i32_w]
                  rfl
                 refine pure_ (i := 16) (N := some 40) (v := ?_) (a' := ?_) #[true, true, true, true, true, true, true, true, true, true, true, true, true, true, true, true, true, true, false] rfl rfl (any_of HT_.out (by kernel_rfl)) (fun _ _ _ h => h) (Or.inl ⟨by rfl, ?_⟩) ?_ ?_
                 rotate_left
                 ·intro w'
                  go_simp
                  with_reducible rfl
                 rotate_left
                 ·simp only [Act.put, List.setIfInBounds_toArray, List.set_cons_zero, List.set_cons_succ, i64_w, i32_w]
                  rfl
                 exact norm_ (by first | (simp only [putAll, Act.put, List.setIfInBounds_toArray, List.set_cons_zero, List.set_cons_succ]; done) | (simp only [putAll, Act.put, List.setIfInBounds_toArray, List.set_cons_zero, List.set_cons_succ]; rfl)) (hJ1_10_14_17 (v191, .slice Ao31 y194.length co31, gb197) _ ⟨hHeld, (kr_ HO196), (by (with_reducible repeat (first | refine blk_drewN ?_ _ | refine blk_drew ?_ | refine blk_alloc ?_ _)); exact BK185.out), (by (with_reducible repeat (first | refine blk_drewN ?_ _ | refine blk_drew ?_ | refine blk_alloc ?_ _)); exact BK197.out), GW197.out, GE197.out, NB185_197.out, NB197_185.out, bb_⟩)
               ·skip
                rintro ⟨v191, v195⟩ w30 ⟨hS_, h0_, h1_, h2_⟩
                have n0_ : Aside0 (Kd.R (Kd.int .u8) 5 w30 w.heap.size (fun _ => True) v195 y194) := ⟨h0_⟩
                have n1_ : Aside0 (w30.heap[gb185]? = some (.cells #[.int .i64 0, .int .i64 0, .int .i64 0, .slice none 0 0] 61 (0, 0))) := ⟨h1_⟩
                have n2_ : Aside0 (Below w.heap.size w w30) := ⟨h2_⟩
                clear BK185
                clear HB
                clear h0_ h1_ h2_
                have HO196 := n0_
                have BK185 := n1_
                have HB := n2_
                clear n0_ n1_ n2_
                have hHeld : w30.cell? ⟨ad186.block, ad186.off + 5, none⟩ = some (.int .u8 (rd l0 5)) ∧ w30.cell? ⟨ad186.block, ad186.off + 6, none⟩ = some (.int .u8 (rd l0 6)) := hS_
                obtain ⟨Ao31, co31, eo31⟩ := Kd.R_slice HO196.out
                (first | subst eo31 | (injection eo31 with f1_ f2_ f3_; have f4_ := f1_.symm; have f5_ := f3_.symm; clear f1_ f2_ f3_; subst f4_; subst f5_))
                refine norm_ (a' := ?_) ?_ ?_
                rotate_left
                ·simp only [putAll, Act.put, List.setIfInBounds_toArray, List.set_cons_zero, List.set_cons_succ]
                 rfl
                refine one_ (i := 17) (N := some 5) #[true, true, true, true, true, true, true, true, true, true, true, true, true, true, true, true, true, true, false] rfl rfl (one_of HT_.out (by kernel_rfl)) (by decide) (fun K hK => ?_)
                refine box_step ?hg (N := 5) ?hd (cs := #[.int .i64 0, .int .i64 0, .int .i64 0, .slice none 0 0]) (t := 61) ?hr ?_; (case hd => rfl); (case hg => rfl); (case hr => first | (go_simp; done) | (go_simp; rfl))
                intro gb197 hg w32 hbox hb
                have n0_ := Aside0.mk (Kd.R_below (kr_ HO196) hb)
                have n1_ := Aside0.mk (blk_below (kb_ BK185) hb)
                have n2_ := Aside0.mk (below_step bb_ hb)
                have n3_ := Aside0.mk (hbox)
                have n4_ := (bs_ hg : Aside0 (w.heap.size ≤ _))
                have n5_ := (bs_ hg : Aside0 (w.heap.size ≤ _))
                have n6_ := (nl_ hg BK185 : Aside0 (gb185 ≠ gb197))
                have n7_ := (nr_ hg BK185 : Aside0 (gb197 ≠ gb185))
                clear HO196
                clear BK185
                clear HB
                have HO196 := n0_
                have BK185 := n1_
                have HB := n2_
                have BK197 := n3_
                have GW197 := n4_
                have GE197 := n5_
                have NB185_197 := n6_
                have NB197_185 := n7_
                clear n0_ n1_ n2_ n3_ n4_ n5_ n6_ n7_
                clear hb hbox hg
                refine hK.out _ _ ⟨((HB.out.cell (World.block_lt_of_cell? w _ hw188_0)).trans hw188_0), ((HB.out.cell (World.block_lt_of_cell? w _ hw189_0)).trans hw189_0)⟩ (fun hHeld => ?_)
                clear hK K
                refine norm_ (a' := ?_) ?_ ?_
                rotate_left
                ·show Act.put _ (some 5) _ = _
                 simp only [Act.put, List.setIfInBounds_toArray, List.set_cons_zero, List.set_cons_succ, i64_w, i32_w]
                 rfl
                exact norm_ (by first | (simp only [putAll, Act.put, List.setIfInBounds_toArray, List.set_cons_zero, List.set_cons_succ]; done) | (simp only [putAll, Act.put, List.setIfInBounds_toArray, List.set_cons_zero, List.set_cons_succ]; rfl)) (hJ1_10_14_17 (v191, .slice Ao31 y194.length co31, gb197) _ ⟨hHeld, (kr_ HO196), (by (with_reducible repeat (first | refine blk_drewN ?_ _ | refine blk_drew ?_ | refine blk_alloc ?_ _)); exact BK185.out), (by (with_reducible repeat (first | refine blk_drewN ?_ _ | refine blk_drew ?_ | refine blk_alloc ?_ _)); exact BK197.out), GW197.out, GE197.out, NB185_197.out, NB197_185.out, bb_⟩)
              rintro ⟨v191, v195, gb197⟩ w31 ⟨hS_, h0_, h1_, h2_, h3_, h4_, h5_, h6_, h7_⟩
              have n0_ : Aside0 (Kd.R (Kd.int .u8) 5 w31 w.heap.size (fun _ => True) v195 y194) := ⟨h0_⟩
              have n1_ : Aside0 (w31.heap[gb185]? = some (.cells #[.int .i64 0, .int .i64 0, .int .i64 0, .slice none 0 0] 61 (0, 0))) := ⟨h1_⟩
              have n2_ : Aside0 (w31.heap[gb197]? = some (.cells #[.int .i64 0, .int .i64 0, .int .i64 0, .slice none 0 0] 61 (0, 0))) := ⟨h2_⟩
              have n3_ : Aside0 (w.heap.size ≤ gb197) := ⟨h3_⟩
              have n4_ : Aside0 (w.heap.size ≤ gb197) := ⟨h4_⟩
              have n5_ : Aside0 (gb185 ≠ gb197) := ⟨h5_⟩
              have n6_ : Aside0 (gb197 ≠ gb185) := ⟨h6_⟩
              have n7_ : Aside0 (Below w.heap.size w w31) := ⟨h7_⟩
              clear BK185
              clear HB
              clear h0_ h1_ h2_ h3_ h4_ h5_ h6_ h7_
              have HO196 := n0_
              have BK185 := n1_
              have BK197 := n2_
              have GW197 := n3_
              have GE197 := n4_
              have NB185_197 := n5_
              have NB197_185 := n6_
              have HB := n7_
              clear n0_ n1_ n2_ n3_ n4_ n5_ n6_ n7_
              have hHeld : w31.cell? ⟨ad186.block, ad186.off + 5, none⟩ = some (.int .u8 (rd l0 5)) ∧ w31.cell? ⟨ad186.block, ad186.off + 6, none⟩ = some (.int .u8 (rd l0 6)) := hS_
              obtain ⟨Ao32, co32, eo32⟩ := Kd.R_slice HO196.out
              (first | subst eo32 | (injection eo32 with f1_ f2_ f3_; have f4_ := f1_.symm; have f5_ := f3_.symm; clear f1_ f2_ f3_; subst f4_; subst f5_))
              refine norm_ (a' := ?_) ?_ ?_
              rotate_left
              ·simp only [putAll, Act.put, List.setIfInBounds_toArray, List.set_cons_zero, List.set_cons_succ]
               rfl
              refine one_ (i := 18) (N := none) #[true, true, true, true, true, true, true, true, true, true, true, true, true, true, true, true, true, true, true] rfl rfl (one_of HT_.out (by kernel_rfl)) (by decide) (fun K hK => ?_)
              have hs33 : w31.cell? ⟨gb197, 0, none⟩ = some (.int .i64 0) := (blk_cell BK197.out 0).trans rfl
              have hfs33 := blk_frozen BK197.out 0
              have hns33_0 := NB185_197.out
              have hms33_0 := NB197_185.out
              have hs34 : w31.cell? ⟨gb197, 1, none⟩ = some (.int .i64 0) := (blk_cell BK197.out 1).trans rfl
              have hfs34 := blk_frozen BK197.out 1
              have hns34_0 := NB185_197.out
              have hms34_0 := NB197_185.out
              have hs35 : w31.cell? ⟨gb197, 2, none⟩ = some (.int .i64 0) := (blk_cell BK197.out 2).trans rfl
              have hfs35 := blk_frozen BK197.out 2
              have hns35_0 := NB185_197.out
              have hms35_0 := NB197_185.out
              have hs36 : w31.cell? ⟨gb197, 3, none⟩ = some (.slice none 0 0) := (blk_cell BK197.out 3).trans rfl
              have hfs36 := blk_frozen BK197.out 3
              have hns36_0 := NB185_197.out
              have hms36_0 := NB197_185.out
              refine skip_ (w1 := ?_) ?_ ?_ ?_ ?_
              rotate_left
              ·first | kernel_rfl | rfl
              ·rfl
              ·go_simp
               rfl
              refine hK.out _ _ ⟨((cell_far (p := ⟨gb197, _, none⟩) (by first | exact Nat.ne_of_lt (Nat.lt_of_lt_of_le (by have := World.block_lt_of_cell? _ _ hw188_0; first | rwa [add_block] at this | exact this) GW197.out) | (rw [add_block]; exact Nat.ne_of_lt (Nat.lt_of_lt_of_le (by have := World.block_lt_of_cell? _ _ hw188_0; first | rwa [add_block] at this | exact this) GW197.out)) | (show (Addr.add _ _).block ≠ _; rw [add_block]; exact Nat.ne_of_lt (Nat.lt_of_lt_of_le (by have := World.block_lt_of_cell? _ _ hw188_0; first | rwa [add_block] at this | exact this) GW197.out)) | (dsimp only; exact Nat.ne_of_lt (Nat.lt_of_lt_of_le (by have := World.block_lt_of_cell? _ _ hw188_0; first | rwa [add_block] at this | exact this) GW197.out))) _).trans (((cell_far (p := ⟨gb197, _, none⟩) (by first | exact Nat.ne_of_lt (Nat.lt_of_lt_of_le (by have := World.block_lt_of_cell? _ _ hw188_0; first | rwa [add_block] at this | exact this) GW197.out) | (rw [add_block]; exact Nat.ne_of_lt (Nat.lt_of_lt_of_le (by have := World.block_lt_of_cell? _ _ hw188_0; first | rwa [add_block] at this | exact this) GW197.out)) | (show (Addr.add _ _).block ≠ _; rw [add_block]; exact Nat.ne_of_lt (Nat.lt_of_lt_of_le (by have := World.block_lt_of_cell? _ _ hw188_0; first | rwa [add_block] at this | exact this) GW197.out)) | (dsimp only; exact Nat.ne_of_lt (Nat.lt_of_lt_of_le (by have := World.block_lt_of_cell? _ _ hw188_0; first | rwa [add_block] at this | exact this) GW197.out))) _).trans (((cell_far (p := ⟨gb197, _, none⟩) (by first | exact Nat.ne_of_lt (Nat.lt_of_lt_of_le (by have := World.block_lt_of_cell? _ _ hw188_0; first | rwa [add_block] at this | exact this) GW197.out) | (rw [add_block]; exact Nat.ne_of_lt (Nat.lt_of_lt_of_le (by have := World.block_lt_of_cell? _ _ hw188_0; first | rwa [add_block] at this | exact this) GW197.out)) | (show (Addr.add _ _).block ≠ _; rw [add_block]; exact Nat.ne_of_lt (Nat.lt_of_lt_of_le (by have := World.block_lt_of_cell? _ _ hw188_0; first | rwa [add_block] at this | exact this) GW197.out)) | (dsimp only; exact Nat.ne_of_lt (Nat.lt_of_lt_of_le (by have := World.block_lt_of_cell? _ _ hw188_0; first | rwa [add_block] at this | exact this) GW197.out))) _).trans (((cell_far (p := ⟨gb197, _, none⟩) (by first | exact Nat.ne_of_lt (Nat.lt_of_lt_of_le (by have := World.block_lt_of_cell? _ _ hw188_0; first | rwa [add_block] at this | exact this) GW197.out) | (rw [add_block]; exact Nat.ne_of_lt (Nat.lt_of_lt_of_le (by have := World.block_lt_of_cell? _ _ hw188_0; first | rwa [add_block] at this | exact this) GW197.out)) | (show (Addr.add _ _).block ≠ _; rw [add_block]; exact Nat.ne_of_lt (Nat.lt_of_lt_of_le (by have := World.block_lt_of_cell? _ _ hw188_0; first | rwa [add_block] at this | exact this) GW197.out)) | (dsimp only; exact Nat.ne_of_lt (Nat.lt_of_lt_of_le (by have := World.block_lt_of_cell? _ _ hw188_0; first | rwa [add_block] at this | exact this) GW197.out))) _).trans (hHeld.1)))))))), ((cell_far (p := ⟨gb197, _, none⟩) (by first | exact Nat.ne_of_lt (Nat.lt_of_lt_of_le (by have := World.block_lt_of_cell? _ _ hw189_0; first | rwa [add_block] at this | exact this) GW197.out) | (rw [add_block]; exact Nat.ne_of_lt (Nat.lt_of_lt_of_le (by have := World.block_lt_of_cell? _ _ hw189_0; first | rwa [add_block] at this | exact this) GW197.out)) | (show (Addr.add _ _).block ≠ _; rw [add_block]; exact Nat.ne_of_lt (Nat.lt_of_lt_of_le (by have := World.block_lt_of_cell? _ _ hw189_0; first | rwa [add_block] at this | exact this) GW197.out)) | (dsimp only; exact Nat.ne_of_lt (Nat.lt_of_lt_of_le (by have := World.block_lt_of_cell? _ _ hw189_0; first | rwa [add_block] at this | exact this) GW197.out))) _).trans (((cell_far (p := ⟨gb197, _, none⟩) (by first | exact Nat.ne_of_lt (Nat.lt_of_lt_of_le (by have := World.block_lt_of_cell? _ _ hw189_0; first | rwa [add_block] at this | exact this) GW197.out) | (rw [add_block]; exact Nat.ne_of_lt (Nat.lt_of_lt_of_le (by have := World.block_lt_of_cell? _ _ hw189_0; first | rwa [add_block] at this | exact this) GW197.out)) | (show (Addr.add _ _).block ≠ _; rw [add_block]; exact Nat.ne_of_lt (Nat.lt_of_lt_of_le (by have := World.block_lt_of_cell? _ _ hw189_0; first | rwa [add_block] at this | exact this) GW197.out)) | (dsimp only; exact Nat.ne_of_lt (Nat.lt_of_lt_of_le (by have := World.block_lt_of_cell? _ _ hw189_0; first | rwa [add_block] at this | exact this) GW197.out))) _).trans (((cell_far (p := ⟨gb197, _, none⟩) (by first | exact Nat.ne_of_lt (Nat.lt_of_lt_of_le (by have := World.block_lt_of_cell? _ _ hw189_0; first | rwa [add_block] at this | exact this) GW197.out) | (rw [add_block]; exact Nat.ne_of_lt (Nat.lt_of_lt_of_le (by have := World.block_lt_of_cell? _ _ hw189_0; first | rwa [add_block] at this | exact this) GW197.out)) | (show (Addr.add _ _).block ≠ _; rw [add_block]; exact Nat.ne_of_lt (Nat.lt_of_lt_of_le (by have := World.block_lt_of_cell? _ _ hw189_0; first | rwa [add_block] at this | exact this) GW197.out)) | (dsimp only; exact Nat.ne_of_lt (Nat.lt_of_lt_of_le (by have := World.block_lt_of_cell? _ _ hw189_0; first | rwa [add_block] at this | exact this) GW197.out))) _).trans (((cell_far (p := ⟨gb197, _, none⟩) (by first | exact Nat.ne_of_lt (Nat.lt_of_lt_of_le (by have := World.block_lt_of_cell? _ _ hw189_0; first | rwa [add_block] at this | exact this) GW197.out) | (rw [add_block]; exact Nat.ne_of_lt (Nat.lt_of_lt_of_le (by have := World.block_lt_of_cell? _ _ hw189_0; first | rwa [add_block] at this | exact this) GW197.out)) | (show (Addr.add _ _).block ≠ _; rw [add_block]; exact Nat.ne_of_lt (Nat.lt_of_lt_of_le (by have := World.block_lt_of_cell? _ _ hw189_0; first | rwa [add_block] at this | exact this) GW197.out)) | (dsimp only; exact Nat.ne_of_lt (Nat.lt_of_lt_of_le (by have := World.block_lt_of_cell? _ _ hw189_0; first | rwa [add_block] at this | exact this) GW197.out))) _).trans (hHeld.2))))))))⟩ (fun hHeld => ?_)
              clear hK K
              refine done_ (done_of HT_.out (by kernel_rfl)) ?_
              try go_wp2
              have n0_ : Aside0 (Kd.R (Kd.int .u8) 5 ((((w31.setCell ⟨gb197, 0, none⟩ (.int .i64 t187)).setCell ⟨gb197, 1, none⟩ (.int .i64 (wrap64 (rd l0 5)))).setCell ⟨gb197, 2, none⟩ (.int .i64 (wrap64 (rd l0 6)))).setCell ⟨gb197, 3, none⟩ (.slice Ao32 y194.length co32)) w.heap.size (fun _ => True) (.slice Ao32 y194.length co32) y194) := ⟨by (with_reducible repeat (first | apply Kd.R_alloc | apply Kd.R_drewN | apply Kd.R_drew)); exact Kd.R_mono (Kd.R_far (p := ⟨gb197, 3, none⟩) (Kd.R_far (p := ⟨gb197, 2, none⟩) (Kd.R_far (p := ⟨gb197, 1, none⟩) (Kd.R_far (p := ⟨gb197, 0, none⟩) (Kd.R_types HO196.out BK197.out (by decide)) (fun _ hk => hk.2) (.int .i64 t187)) (fun _ hk => hk.2) (.int .i64 (wrap64 (rd l0 5)))) (fun _ hk => hk.2) (.int .i64 (wrap64 (rd l0 6)))) (fun _ hk => hk.2) (.slice Ao32 y194.length co32)) (fun _ hk => trivial)⟩
              have n1_ : Aside0 (((((w31.setCell ⟨gb197, 0, none⟩ (.int .i64 t187)).setCell ⟨gb197, 1, none⟩ (.int .i64 (wrap64 (rd l0 5)))).setCell ⟨gb197, 2, none⟩ (.int .i64 (wrap64 (rd l0 6)))).setCell ⟨gb197, 3, none⟩ (.slice Ao32 y194.length co32)).heap[gb185]? = some (.cells #[.int .i64 0, .int .i64 0, .int .i64 0, .slice none 0 0] 61 (0, 0))) := ⟨by (with_reducible repeat (first | refine blk_drewN ?_ _ | refine blk_drew ?_ | refine blk_alloc ?_ _)); refine blk_far ?_ NB185_197.out _; (with_reducible repeat (first | refine blk_drewN ?_ _ | refine blk_drew ?_ | refine blk_alloc ?_ _)); refine blk_far ?_ NB185_197.out _; (with_reducible repeat (first | refine blk_drewN ?_ _ | refine blk_drew ?_ | refine blk_alloc ?_ _)); refine blk_far ?_ NB185_197.out _; (with_reducible repeat (first | refine blk_drewN ?_ _ | refine blk_drew ?_ | refine blk_alloc ?_ _)); refine blk_far ?_ NB185_197.out _; (with_reducible repeat (first | refine blk_drewN ?_ _ | refine blk_drew ?_ | refine blk_alloc ?_ _)); exact BK185.out⟩
              have n2_ : Aside0 (((((w31.setCell ⟨gb197, 0, none⟩ (.int .i64 t187)).setCell ⟨gb197, 1, none⟩ (.int .i64 (wrap64 (rd l0 5)))).setCell ⟨gb197, 2, none⟩ (.int .i64 (wrap64 (rd l0 6)))).setCell ⟨gb197, 3, none⟩ (.slice Ao32 y194.length co32)).heap[gb197]? = some (.cells #[.int .i64 t187, .int .i64 (wrap64 (rd l0 5)), .int .i64 (wrap64 (rd l0 6)), .slice Ao32 y194.length co32] 61 (0, 0))) := ⟨by (with_reducible repeat (first | refine blk_drewN ?_ _ | refine blk_drew ?_ | refine blk_alloc ?_ _)); refine blk_put (cs := #[.int .i64 t187, .int .i64 (wrap64 (rd l0 5)), .int .i64 (wrap64 (rd l0 6)), .slice none 0 0]) ?_ 3 _ rfl; (with_reducible repeat (first | refine blk_drewN ?_ _ | refine blk_drew ?_ | refine blk_alloc ?_ _)); refine blk_put (cs := #[.int .i64 t187, .int .i64 (wrap64 (rd l0 5)), .int .i64 0, .slice none 0 0]) ?_ 2 _ rfl; (with_reducible repeat (first | refine blk_drewN ?_ _ | refine blk_drew ?_ | refine blk_alloc ?_ _)); refine blk_put (cs := #[.int .i64 t187, .int .i64 0, .int .i64 0, .slice none 0 0]) ?_ 1 _ rfl; (with_reducible repeat (first | refine blk_drewN ?_ _ | refine blk_drew ?_ | refine blk_alloc ?_ _)); refine blk_put (cs := #[.int .i64 0, .int .i64 0, .int .i64 0, .slice none 0 0]) ?_ 0 _ rfl; (with_reducible repeat (first | refine blk_drewN ?_ _ | refine blk_drew ?_ | refine blk_alloc ?_ _)); exact BK197.out⟩
              have n3_ : Aside0 (Below w.heap.size w ((((w31.setCell ⟨gb197, 0, none⟩ (.int .i64 t187)).setCell ⟨gb197, 1, none⟩ (.int .i64 (wrap64 (rd l0 5)))).setCell ⟨gb197, 2, none⟩ (.int .i64 (wrap64 (rd l0 6)))).setCell ⟨gb197, 3, none⟩ (.slice Ao32 y194.length co32))) := ⟨bb_⟩
              (try clear HO196)
              (try clear BK185)
              (try clear BK197)
              (try clear HB)
              generalize ((((w31.setCell ⟨gb197, 0, none⟩ (.int .i64 t187)).setCell ⟨gb197, 1, none⟩ (.int .i64 (wrap64 (rd l0 5)))).setCell ⟨gb197, 2, none⟩ (.int .i64 (wrap64 (rd l0 6)))).setCell ⟨gb197, 3, none⟩ (.slice Ao32 y194.length co32)) = w37 at n0_ n1_ n2_ n3_ ⊢
              have HO196 := n0_
              have BK185 := n1_
              have BK197 := n2_
              have HB := n3_
              clear n0_ n1_ n2_ n3_
              have n0_ := Aside0.mk (Kd.R_drew HO196.out)
              have n1_ := Aside0.mk (blk_drew BK185.out)
              have n2_ := Aside0.mk (blk_drew BK197.out)
              have n3_ := Aside0.mk (below_drew1 HB.out)
              clear HO196
              clear BK185
              clear BK197
              clear HB
              have HO196 := n0_
              have BK185 := n1_
              have BK197 := n2_
              have HB := n3_
              clear n0_ n1_ n2_ n3_
              refine start_ (n := 13) (S := fun w' => w'.cell? ⟨gb197, 0, none⟩ = some (.int .i64 t187) ∧ w'.cell? ⟨gb197, 1, none⟩ = some (.int .i64 (wrap64 (rd l0 5))) ∧ w'.cell? ⟨gb197, 2, none⟩ = some (.int .i64 (wrap64 (rd l0 6))) ∧ w'.cell? ⟨gb197, 3, none⟩ = some (.slice Ao32 y194.length co32)) (ds := []) #[false, false, false, false, false, false, false, false, false, false, false, false, false] (by kernel_rfl) rfl rfl ⟨(blk_cell BK197.out 0).trans rfl, (blk_cell BK197.out 1).trans rfl, (blk_cell BK197.out 2).trans rfl, (blk_cell BK197.out 3).trans rfl⟩ (fun hHeld => ?_); refine with_tabW spec_l10One.tab7 spec_l10One.bits7 (fun HT_ HW_ => ?_)
              generalize w37.drew = w38 at HO196 BK185 BK197 HB hHeld ⊢
              refine take_ (i := 0) (N := some 41) (v := ?_) (a' := ?_) #[true, false, false, false, false, false, false, false, false, false, false, false, false] rfl rfl (take_ofW HT_.out HW_.out (by kernel_rfl)) (fun _ _ _ h => h) (Or.inl ⟨by rfl, ?_⟩) hHeld ?_ ?_
              rotate_left
              ·rintro w' ⟨s0, s1, s2, s3⟩
               go_simp
               with_reducible rfl
              rotate_left
              ·simp only [Act.put, List.setIfInBounds_toArray, List.set_cons_zero, List.set_cons_succ, i64_w, i32_w]
               rfl
              refine one_ (i := 1) (N := some 42) #[true, true, false, false, false, false, false, false, false, false, false, false, false] rfl rfl (one_of HT_.out (by kernel_rfl)) (by decide) (fun K hK => ?_)
              refine goes_ Try.func95 (by kernel_rfl) rfl #[.agg #[.int .i64 t187, .int .i64 (wrap64 (rd l0 5)), .int .i64 (wrap64 (rd l0 6)), .slice Ao32 y194.length co32]] (by rfl) rfl rfl (by (try simp only [List.map_toArray, List.map_cons, List.map_nil]); first | done | rfl | (simp only [List.length_drop, List.length_take]; rfl)) ?_
              with_reducible refine (spec_EntryFault.calls kj5 t187 (wrap64 (rd l0 5)) (wrap64 (rd l0 6)) _ _ y194 t198 _ ?side1 ?side2 A17.out).mono ?_
              (case side1 => exact kc_ ((Kd.R_reads' HO196.out).2.2))
              (case side2 => exact (Kd.R_reads' HO196.out).2.1)
              rintro e w39 ⟨rfl, hb⟩
              refine ⟨_, rfl, ?_⟩
              have n0_ := Aside0.mk (Kd.R_below (kr_ HO196) hb)
              have n1_ := Aside0.mk (blk_below (kb_ BK185) hb)
              have n2_ := Aside0.mk (blk_below (kb_ BK197) hb)
              have n3_ := Aside0.mk (below_step bb_ hb)
              clear HO196
              clear BK185
              clear BK197
              clear HB
              have HO196 := n0_
              have BK185 := n1_
              have BK197 := n2_
              have HB := n3_
              clear n0_ n1_ n2_ n3_
              (try clear hb)
              (try clear hb2)
              (try clear hk)
              (try clear hi)
              obtain ⟨i040, hi040, _, hsz40, _⟩ := info_parts info5
              obtain ⟨hcut40, hA40, hC40⟩ := print_take_of (P := Try.prog) (Value.int .u8) 0 22 5 .i64 Try.underlying22 hi040 hsz40 (some ad186) c0 l0 (ji20) (of_decide_eq_true as_) (of_decide_eq_true as_) HC0.out
              have HR202 := Aside0.mk (Kd.C_of_reads (h1 := fun _ => rfl) (hA40 _ (Kd.reads_of_C HR0.out)))
              have HC202 := Aside0.mk hC40
              clear hA40 hC40 hi040 hsz40
              refine hK.out _ _ ⟨(blk_cell BK197.out 0).trans rfl, (blk_cell BK197.out 1).trans rfl, (blk_cell BK197.out 2).trans rfl, (blk_cell BK197.out 3).trans rfl⟩ (fun hHeld => ?_)
              clear hK K
              refine norm_ (a' := ?_) ?_ ?_
              rotate_left
              ·show Act.put _ (some 42) _ = _
               simp only [Act.put, List.setIfInBounds_toArray, List.set_cons_zero, List.set_cons_succ, i64_w, i32_w]
               rfl
              refine pure_ (i := 2) (N := some 43) (v := ?_) (a' := ?_) #[true, true, true, false, false, false, false, false, false, false, false, false, false] rfl rfl (any_of HT_.out (by kernel_rfl)) (fun _ _ _ h => h) (Or.inl ⟨by rfl, ?_⟩) ?_ ?_
              rotate_left
              ·intro w'
               go_simp
               with_reducible rfl
              rotate_left
              ·simp only [Act.put, List.setIfInBounds_toArray, List.set_cons_zero, List.set_cons_succ, i64_w, i32_w]
               rfl
              refine pure_ (i := 3) (N := some 44) (v := ?_) (a' := ?_) #[true, true, true, true, false, false, false, false, false, false, false, false, false] rfl rfl (any_of HT_.out (by kernel_rfl)) (fun _ _ _ h => h) (Or.inl ⟨by rfl, ?_⟩) ?_ ?_
              rotate_left
              ·intro w'
               go_simp
               with_reducible rfl
              rotate_left
              ·simp only [Act.put, List.setIfInBounds_toArray, List.set_cons_zero, List.set_cons_succ, i64_w, i32_w]
               rfl
              refine pure_ (i := 7) (N := some 48) (v := ?_) (a' := ?_) #[true, true, true, true, false, false, false, true, false, false, false, false, false] rfl rfl (any_of HT_.out (by kernel_rfl)) (fun _ _ _ h => h) (Or.inl ⟨by rfl, ?_⟩) ?_ ?_
              rotate_left
              ·intro w'
               go_simp
               with_reducible rfl
              rotate_left
              ·simp only [Act.put, List.setIfInBounds_toArray, List.set_cons_zero, List.set_cons_succ, i64_w, i32_w]
               rfl
              refine pure_ (i := 8) (N := some 49) (v := ?_) (a' := ?_) #[true, true, true, true, false, false, false, true, true, false, false, false, false] rfl rfl (any_of HT_.out (by kernel_rfl)) (fun _ _ _ h => h) (Or.inl ⟨by rfl, ?_⟩) ?_ ?_
              rotate_left
              ·intro w'
               go_simp
               with_reducible rfl
              rotate_left
              ·simp only [Act.put, List.setIfInBounds_toArray, List.set_cons_zero, List.set_cons_succ, i64_w, i32_w]
               rfl
              refine pure_ (i := 9) (N := some 50) (v := ?_) (a' := ?_) #[true, true, true, true, false, false, false, true, true, true, false, false, false] rfl rfl (any_of HT_.out (by kernel_rfl)) (fun _ _ _ h => h) (Or.inl ⟨by rfl, ?_⟩) ?_ ?_
              rotate_left
              ·intro w'
               go_simp
               with_reducible rfl
              rotate_left
              ·simp only [Act.put, List.setIfInBounds_toArray, List.set_cons_zero, List.set_cons_succ, i64_w, i32_w]
               rfl
              refine take_ (i := 4) (N := some 45) (v := ?_) (a' := ?_) #[true, true, true, true, true, false, false, true, true, true, false, false, false] rfl rfl (take_ofW HT_.out HW_.out (by kernel_rfl)) (fun _ _ _ h => h) (Or.inl ⟨by rfl, ?_⟩) hHeld ?_ ?_
              rotate_left
              ·rintro w' ⟨s0, s1, s2, s3⟩
               go_simp
               with_reducible rfl
              rotate_left
              ·simp only [Act.put, List.setIfInBounds_toArray, List.set_cons_zero, List.set_cons_succ, i64_w, i32_w]
               rfl
              refine join_ (σ := Value) 2 #[true, true, true, true, true, true, true, true, true, true, true, false, false] (fun s_ => [(46, s_), (47, .string (strOfNums t199)), (51, .string (strOfNums (l0.take ((ji20) : Int).toNat)))]) (fun s_ w' => (w'.cell? ⟨gb197, 0, none⟩ = some (.int .i64 t187) ∧ w'.cell? ⟨gb197, 1, none⟩ = some (.int .i64 (wrap64 (rd l0 5))) ∧ w'.cell? ⟨gb197, 2, none⟩ = some (.int .i64 (wrap64 (rd l0 6))) ∧ w'.cell? ⟨gb197, 3, none⟩ = some (.slice Ao32 y194.length co32)) ∧ (Kd.R (Kd.int .u8) 5 w' w.heap.size (fun k_ => some k_ ≠ (s_ : Value).ownBlock) (.slice Ao32 y194.length co32) y194) ∧ (Kd.R (Kd.int .u8) 5 w' w.heap.size (fun k_ => some k_ ≠ (.slice Ao32 y194.length co32 : Value).ownBlock) s_ t199) ∧ (w'.heap[gb185]? = some (.cells #[.int .i64 0, .int .i64 0, .int .i64 0, .slice none 0 0] 61 (0, 0))) ∧ (w'.heap[gb197]? = some (.cells #[.int .i64 t187, .int .i64 (wrap64 (rd l0 5)), .int .i64 (wrap64 (rd l0 6)), .slice Ao32 y194.length co32] 61 (0, 0))) ∧ (Below w.heap.size w w')) ?_ ?_
              rotate_left
              ·intro hCont
               refine two_ (i := 5) (j := 10) (Ni := some 46) (Nj := some 51) #[true, true, true, true, true, true, false, true, true, true, false, false, false] #[true, true, true, true, true, false, false, true, true, true, true, false, false] rfl rfl rfl rfl (two_of HT_.out (by kernel_rfl)) (by decide) (by decide) (fun K hK => ?_) (fun K hK => ?_)
               ·skip
                refine goes_ Try.func96 (by kernel_rfl) rfl #[.agg #[.int .i64 t187, .int .i64 (wrap64 (rd l0 5)), .int .i64 (wrap64 (rd l0 6)), .slice Ao32 y194.length co32]] (by rfl) rfl rfl (by (try simp only [List.map_toArray, List.map_cons, List.map_nil]); first | done | rfl | (simp only [List.length_drop, List.length_take]; rfl)) ?_
                with_reducible refine (spec_l10Pack.calls kj5 t187 (wrap64 (rd l0 5)) (wrap64 (rd l0 6)) _ _ y194 t199 _ ?side1 ?side2 A19.out).mono ?_
                (case side1 => exact kc_ ((Kd.R_reads' HO196.out).2.2))
                (case side2 => exact (Kd.R_reads' HO196.out).2.1)
                rintro e w41 ⟨v200, rfl, ho0, hb⟩
                refine ⟨_, rfl, ?_⟩
                have n0_ := Aside0.mk (Kd.R_elder' (kr_ HO196) (Kd.R_base ho0) hb)
                have n1_ := Aside0.mk (Kd.R_lower (Kd.R_new' ho0 (Kd.R_lt (kr_ HO196))) (below_size bb_))
                have n2_ := Aside0.mk (blk_below (kb_ BK185) hb)
                have n3_ := Aside0.mk (blk_below (kb_ BK197) hb)
                have n4_ := Aside0.mk (below_step bb_ hb)
                clear HO196
                clear BK185
                clear BK197
                clear HB
                have HO196 := n0_
                have HO201 := n1_
                have BK185 := n2_
                have BK197 := n3_
                have HB := n4_
                clear n0_ n1_ n2_ n3_ n4_
                (try clear hb)
                (try clear hb2)
                (try clear hk)
                (try clear hi)
                (try clear ho0)
                refine hK.out _ _ ⟨(blk_cell BK197.out 0).trans rfl, (blk_cell BK197.out 1).trans rfl, (blk_cell BK197.out 2).trans rfl, (blk_cell BK197.out 3).trans rfl⟩ (fun hHeld => ?_)
                clear hK K
                refine norm_ (a' := ?_) ?_ ?_
                rotate_left
                ·show Act.put _ (some 46) _ = _
                 simp only [Act.put, List.setIfInBounds_toArray, List.set_cons_zero, List.set_cons_succ, i64_w, i32_w]
                 rfl
                refine two_ (i := 6) (j := 10) (Ni := some 47) (Nj := some 51) #[true, true, true, true, true, true, true, true, true, true, false, false, false] #[true, true, true, true, true, true, false, true, true, true, true, false, false] rfl rfl rfl rfl (two_of HT_.out (by kernel_rfl)) (by decide) (by decide) (fun K hK => ?_) (fun K hK => ?_)
                ·skip
                 have hcv42 := own_string (P := Try.prog) Try.underlying22 Try.underlying5 Try.underlying9 (Kd.own_of_R HO201.out)
                 refine value_ (w1 := ?_) (v := ?_) (by rfl) rfl ?_ ?_
                 rotate_left 2
                 ·go_simp
                  constructor
                  ·rfl
                  ·rfl
                 clear hcv42
                 refine hK.out _ _ ⟨(blk_cell BK197.out 0).trans rfl, (blk_cell BK197.out 1).trans rfl, (blk_cell BK197.out 2).trans rfl, (blk_cell BK197.out 3).trans rfl⟩ (fun hHeld => ?_)
                 clear hK K
                 refine norm_ (a' := ?_) ?_ ?_
                 rotate_left
                 ·show Act.put _ (some 47) _ = _
                  simp only [Act.put, List.setIfInBounds_toArray, List.set_cons_zero, List.set_cons_succ, i64_w, i32_w]
                  rfl
                 refine one_ (i := 10) (N := some 51) #[true, true, true, true, true, true, true, true, true, true, true, false, false] rfl rfl (one_of HT_.out (by kernel_rfl)) (by decide) (fun K hK => ?_)
                 (have hcv43 := Kd.C_string (P := Try.prog) (A := (some ad186)) (c := c0) Try.underlying22 Try.underlying5 Try.underlying9 (Kd.C_below HR202.out HB.out); (try (have hcv43d := hcv43; rw [show (l0.take ((ji20) : Int).toNat).length = ((ji20) : Int).toNat from (by rw [List.length_take]; have h_ : (ji20) ≤ (l0.length : Int) := of_decide_eq_true as_; omega)] at hcv43d)))
                 refine value_ (w1 := ?_) (v := ?_) (by rfl) rfl ?_ ?_
                 rotate_left 2
                 ·go_simp
                  constructor
                  ·rfl
                  ·rfl
                 (clear hcv43; (try clear hcv43d))
                 refine hK.out _ _ ⟨(blk_cell BK197.out 0).trans rfl, (blk_cell BK197.out 1).trans rfl, (blk_cell BK197.out 2).trans rfl, (blk_cell BK197.out 3).trans rfl⟩ (fun hHeld => ?_)
                 clear hK K
                 refine norm_ (a' := ?_) ?_ ?_
                 rotate_left
                 ·show Act.put _ (some 51) _ = _
                  simp only [Act.put, List.setIfInBounds_toArray, List.set_cons_zero, List.set_cons_succ, i64_w, i32_w]
                  rfl
                 exact norm_ (by simp only [putAll, Act.put, List.setIfInBounds_toArray, List.set_cons_zero, List.set_cons_succ]) (hCont (v200) _ ⟨hHeld, (by (with_reducible repeat (first | apply Kd.R_alloc | apply Kd.R_drewN | apply Kd.R_drew)); exact Kd.R_mono HO196.out (fun _ hk => hk.2)), (by (with_reducible repeat (first | apply Kd.R_alloc | apply Kd.R_drewN | apply Kd.R_drew)); exact Kd.R_mono HO201.out (fun _ hk => hk.2)), (by (with_reducible repeat (first | refine blk_drewN ?_ _ | refine blk_drew ?_ | refine blk_alloc ?_ _)); exact BK185.out), (by (with_reducible repeat (first | refine blk_drewN ?_ _ | refine blk_drew ?_ | refine blk_alloc ?_ _)); exact BK197.out), bb_⟩)
                ·skip
                 (have hcv42 := Kd.C_string (P := Try.prog) (A := (some ad186)) (c := c0) Try.underlying22 Try.underlying5 Try.underlying9 (Kd.C_below HR202.out HB.out); (try (have hcv42d := hcv42; rw [show (l0.take ((ji20) : Int).toNat).length = ((ji20) : Int).toNat from (by rw [List.length_take]; have h_ : (ji20) ≤ (l0.length : Int) := of_decide_eq_true as_; omega)] at hcv42d)))
                 refine value_ (w1 := ?_) (v := ?_) (by rfl) rfl ?_ ?_
                 rotate_left 2
                 ·go_simp
                  constructor
                  ·rfl
                  ·rfl
                 (clear hcv42; (try clear hcv42d))
                 refine hK.out _ _ ⟨(blk_cell BK197.out 0).trans rfl, (blk_cell BK197.out 1).trans rfl, (blk_cell BK197.out 2).trans rfl, (blk_cell BK197.out 3).trans rfl⟩ (fun hHeld => ?_)
                 clear hK K
                 refine norm_ (a' := ?_) ?_ ?_
                 rotate_left
                 ·show Act.put _ (some 51) _ = _
                  simp only [Act.put, List.setIfInBounds_toArray, List.set_cons_zero, List.set_cons_succ, i64_w, i32_w]
                  rfl
                 refine one_ (i := 6) (N := some 47) #[true, true, true, true, true, true, true, true, true, true, true, false, false] rfl rfl (one_of HT_.out (by kernel_rfl)) (by decide) (fun K hK => ?_)
                 have hcv43 := own_string (P := Try.prog) Try.underlying22 Try.underlying5 Try.underlying9 (Kd.own_of_R HO201.out)
                 refine value_ (w1 := ?_) (v := ?_) (by rfl) rfl ?_ ?_
                 rotate_left 2
                 ·go_simp
                  constructor
                  ·rfl
                  ·rfl
                 clear hcv43
                 refine hK.out _ _ ⟨(blk_cell BK197.out 0).trans rfl, (blk_cell BK197.out 1).trans rfl, (blk_cell BK197.out 2).trans rfl, (blk_cell BK197.out 3).trans rfl⟩ (fun hHeld => ?_)
                 clear hK K
                 refine norm_ (a' := ?_) ?_ ?_
                 rotate_left
                 ·show Act.put _ (some 47) _ = _
                  simp only [Act.put, List.setIfInBounds_toArray, List.set_cons_zero, List.set_cons_succ, i64_w, i32_w]
                  rfl
                 exact norm_ (by simp only [putAll, Act.put, List.setIfInBounds_toArray, List.set_cons_zero, List.set_cons_succ]) (hCont (v200) _ ⟨hHeld, (by (with_reducible repeat (first | apply Kd.R_alloc | apply Kd.R_drewN | apply Kd.R_drew)); exact Kd.R_mono HO196.out (fun _ hk => hk.2)), (by (with_reducible repeat (first | apply Kd.R_alloc | apply Kd.R_drewN | apply Kd.R_drew)); exact Kd.R_mono HO201.out (fun _ hk => hk.2)), (by (with_reducible repeat (first | refine blk_drewN ?_ _ | refine blk_drew ?_ | refine blk_alloc ?_ _)); exact BK185.out), (by (with_reducible repeat (first | refine blk_drewN ?_ _ | refine blk_drew ?_ | refine blk_alloc ?_ _)); exact BK197.out), bb_⟩)
               ·skip
                (have hcv41 := Kd.C_string (P := Try.prog) (A := (some ad186)) (c := c0) Try.underlying22 Try.underlying5 Try.underlying9 (Kd.C_below HR202.out HB.out); (try (have hcv41d := hcv41; rw [show (l0.take ((ji20) : Int).toNat).length = ((ji20) : Int).toNat from (by rw [List.length_take]; have h_ : (ji20) ≤ (l0.length : Int) := of_decide_eq_true as_; omega)] at hcv41d)))
                refine value_ (w1 := ?_) (v := ?_) (by rfl) rfl ?_ ?_
                rotate_left 2
                ·go_simp
                 constructor
                 ·rfl
                 ·rfl
                (clear hcv41; (try clear hcv41d))
                refine hK.out _ _ ⟨(blk_cell BK197.out 0).trans rfl, (blk_cell BK197.out 1).trans rfl, (blk_cell BK197.out 2).trans rfl, (blk_cell BK197.out 3).trans rfl⟩ (fun hHeld => ?_)
                clear hK K
                refine norm_ (a' := ?_) ?_ ?_
                rotate_left
                ·show Act.put _ (some 51) _ = _
                 simp only [Act.put, List.setIfInBounds_toArray, List.set_cons_zero, List.set_cons_succ, i64_w, i32_w]
                 rfl
                refine one_ (i := 5) (N := some 46) #[true, true, true, true, true, true, false, true, true, true, true, false, false] rfl rfl (one_of HT_.out (by kernel_rfl)) (by decide) (fun K hK => ?_)
                refine goes_ Try.func96 (by kernel_rfl) rfl #[.agg #[.int .i64 t187, .int .i64 (wrap64 (rd l0 5)), .int .i64 (wrap64 (rd l0 6)), .slice Ao32 y194.length co32]] (by rfl) rfl rfl (by (try simp only [List.map_toArray, List.map_cons, List.map_nil]); first | done | rfl | (simp only [List.length_drop, List.length_take]; rfl)) ?_
                with_reducible refine (spec_l10Pack.calls kj5 t187 (wrap64 (rd l0 5)) (wrap64 (rd l0 6)) _ _ y194 t199 _ ?side1 ?side2 A19.out).mono ?_
                (case side1 => exact kc_ ((Kd.R_reads' HO196.out).2.2))
                (case side2 => exact (Kd.R_reads' HO196.out).2.1)
                rintro e w42 ⟨v200, rfl, ho0, hb⟩
                refine ⟨_, rfl, ?_⟩
                have n0_ := Aside0.mk (Kd.R_elder' (kr_ HO196) (Kd.R_base ho0) hb)
                have n1_ := Aside0.mk (Kd.R_lower (Kd.R_new' ho0 (Kd.R_lt (kr_ HO196))) (below_size bb_))
                have n2_ := Aside0.mk (blk_below (kb_ BK185) hb)
                have n3_ := Aside0.mk (blk_below (kb_ BK197) hb)
                have n4_ := Aside0.mk (below_step bb_ hb)
                clear HO196
                clear BK185
                clear BK197
                clear HB
                have HO196 := n0_
                have HO201 := n1_
                have BK185 := n2_
                have BK197 := n3_
                have HB := n4_
                clear n0_ n1_ n2_ n3_ n4_
                (try clear hb)
                (try clear hb2)
                (try clear hk)
                (try clear hi)
                (try clear ho0)
                refine hK.out _ _ ⟨(blk_cell BK197.out 0).trans rfl, (blk_cell BK197.out 1).trans rfl, (blk_cell BK197.out 2).trans rfl, (blk_cell BK197.out 3).trans rfl⟩ (fun hHeld => ?_)
                clear hK K
                refine norm_ (a' := ?_) ?_ ?_
                rotate_left
                ·show Act.put _ (some 46) _ = _
                 simp only [Act.put, List.setIfInBounds_toArray, List.set_cons_zero, List.set_cons_succ, i64_w, i32_w]
                 rfl
                refine one_ (i := 6) (N := some 47) #[true, true, true, true, true, true, true, true, true, true, true, false, false] rfl rfl (one_of HT_.out (by kernel_rfl)) (by decide) (fun K hK => ?_)
                have hcv43 := own_string (P := Try.prog) Try.underlying22 Try.underlying5 Try.underlying9 (Kd.own_of_R HO201.out)
                refine value_ (w1 := ?_) (v := ?_) (by rfl) rfl ?_ ?_
                rotate_left 2
                ·go_simp
                 constructor
                 ·rfl
                 ·rfl
                clear hcv43
                refine hK.out _ _ ⟨(blk_cell BK197.out 0).trans rfl, (blk_cell BK197.out 1).trans rfl, (blk_cell BK197.out 2).trans rfl, (blk_cell BK197.out 3).trans rfl⟩ (fun hHeld => ?_)
                clear hK K
                refine norm_ (a' := ?_) ?_ ?_
                rotate_left
                ·show Act.put _ (some 47) _ = _
                 simp only [Act.put, List.setIfInBounds_toArray, List.set_cons_zero, List.set_cons_succ, i64_w, i32_w]
                 rfl
                exact norm_ (by simp only [putAll, Act.put, List.setIfInBounds_toArray, List.set_cons_zero, List.set_cons_succ]) (hCont (v200) _ ⟨hHeld, (by (with_reducible repeat (first | apply Kd.R_alloc | apply Kd.R_drewN | apply Kd.R_drew)); exact Kd.R_mono HO196.out (fun _ hk => hk.2)), (by (with_reducible repeat (first | apply Kd.R_alloc | apply Kd.R_drewN | apply Kd.R_drew)); exact Kd.R_mono HO201.out (fun _ hk => hk.2)), (by (with_reducible repeat (first | refine blk_drewN ?_ _ | refine blk_drew ?_ | refine blk_alloc ?_ _)); exact BK185.out), (by (with_reducible repeat (first | refine blk_drewN ?_ _ | refine blk_drew ?_ | refine blk_alloc ?_ _)); exact BK197.out), bb_⟩)
              rintro v200 w44 ⟨hS_, h0_, h1_, h2_, h3_, h4_⟩
              have n0_ : Aside0 (Kd.R (Kd.int .u8) 5 w44 w.heap.size (fun k_ => some k_ ≠ (v200 : Value).ownBlock) (.slice Ao32 y194.length co32) y194) := ⟨h0_⟩
              have n1_ : Aside0 (Kd.R (Kd.int .u8) 5 w44 w.heap.size (fun k_ => some k_ ≠ (.slice Ao32 y194.length co32 : Value).ownBlock) v200 t199) := ⟨h1_⟩
              have n2_ : Aside0 (w44.heap[gb185]? = some (.cells #[.int .i64 0, .int .i64 0, .int .i64 0, .slice none 0 0] 61 (0, 0))) := ⟨h2_⟩
              have n3_ : Aside0 (w44.heap[gb197]? = some (.cells #[.int .i64 t187, .int .i64 (wrap64 (rd l0 5)), .int .i64 (wrap64 (rd l0 6)), .slice Ao32 y194.length co32] 61 (0, 0))) := ⟨h3_⟩
              have n4_ : Aside0 (Below w.heap.size w w44) := ⟨h4_⟩
              clear HO196
              clear BK185
              clear BK197
              clear HB
              clear h0_ h1_ h2_ h3_ h4_
              have HO196 := n0_
              have HO201 := n1_
              have BK185 := n2_
              have BK197 := n3_
              have HB := n4_
              clear n0_ n1_ n2_ n3_ n4_
              have hHeld : w44.cell? ⟨gb197, 0, none⟩ = some (.int .i64 t187) ∧ w44.cell? ⟨gb197, 1, none⟩ = some (.int .i64 (wrap64 (rd l0 5))) ∧ w44.cell? ⟨gb197, 2, none⟩ = some (.int .i64 (wrap64 (rd l0 6))) ∧ w44.cell? ⟨gb197, 3, none⟩ = some (.slice Ao32 y194.length co32) := hS_
              refine norm_ (a' := ?_) ?_ ?_
              rotate_left
              ·simp only [putAll, Act.put, List.setIfInBounds_toArray, List.set_cons_zero, List.set_cons_succ]
               rfl
              refine pure_ (i := 11) (N := some 52) (v := ?_) (a' := ?_) #[true, true, true, true, true, true, true, true, true, true, true, true, false] rfl rfl (any_of HT_.out (by kernel_rfl)) (fun _ _ _ h => h) (Or.inl ⟨by rfl, ?_⟩) ?_ ?_
              rotate_left
              ·intro w'
               go_simp
               with_reducible rfl
              rotate_left
              ·simp only [Act.put, List.setIfInBounds_toArray, List.set_cons_zero, List.set_cons_succ, i64_w, i32_w]
               rfl
              refine pure_ (i := 12) (N := some 53) (v := ?_) (a' := ?_) #[true, true, true, true, true, true, true, true, true, true, true, true, true] rfl rfl (any_of HT_.out (by kernel_rfl)) (fun _ _ _ h => h) (Or.inl ⟨by rfl, ?_⟩) ?_ ?_
              rotate_left
              ·intro w'
               go_simp
               with_reducible rfl
              rotate_left
              ·simp only [Act.put, List.setIfInBounds_toArray, List.set_cons_zero, List.set_cons_succ, i64_w, i32_w]
               rfl
              refine done_ (done_of HT_.out (by kernel_rfl)) ?_
             ·have hnb45 := NB197_185.out
              have hnc45 := NB185_197.out
              obtain ⟨hcz46_0, hcz46_1, hcz46_2, hcz46_3, hfz46_0, hfz46_1, hfz46_2, hfz46_3⟩ := cf4_ BK197
              obtain ⟨hcz47_0, hcz47_1, hcz47_2, hcz47_3, hfz47_0, hfz47_1, hfz47_2, hfz47_3⟩ := cf4_ BK185
              try go_wp2
              refine bodyPost_ret (results_ct rfl _ _ gb185 61 #[.int .i64 t187, .int .i64 (wrap64 (rd l0 5)), .int .i64 (wrap64 (rd l0 6)), .slice Ao32 y194.length co32] (0, 0) _ rfl (by (with_reducible repeat (first | refine blk_drewN ?_ _ | refine blk_drew ?_ | refine blk_alloc ?_ _)); refine blk_put (cs := #[.int .i64 t187, .int .i64 (wrap64 (rd l0 5)), .int .i64 (wrap64 (rd l0 6)), .slice none 0 0]) ?_ 3 _ rfl; (with_reducible repeat (first | refine blk_drewN ?_ _ | refine blk_drew ?_ | refine blk_alloc ?_ _)); refine blk_put (cs := #[.int .i64 t187, .int .i64 (wrap64 (rd l0 5)), .int .i64 0, .slice none 0 0]) ?_ 2 _ rfl; (with_reducible repeat (first | refine blk_drewN ?_ _ | refine blk_drew ?_ | refine blk_alloc ?_ _)); refine blk_put (cs := #[.int .i64 t187, .int .i64 0, .int .i64 0, .slice none 0 0]) ?_ 1 _ rfl; (with_reducible repeat (first | refine blk_drewN ?_ _ | refine blk_drew ?_ | refine blk_alloc ?_ _)); refine blk_put (cs := #[.int .i64 0, .int .i64 0, .int .i64 0, .slice none 0 0]) ?_ 0 _ rfl; (with_reducible repeat (first | refine blk_drewN ?_ _ | refine blk_drew ?_ | refine blk_alloc ?_ _)); exact BK185.out) Try.underlying61 rfl (by kernel_rfl)) rfl ?_
              exact ⟨_, by first | rfl | (simp [errW_none, errW_some] <;> rfl) | (simp only [← hji20]; first | rfl | (simp [errW_none, errW_some] <;> rfl)) | (simp [*, errW_none, errW_some] <;> rfl), by (with_reducible repeat (first | apply Kd.R_alloc | apply Kd.R_drewN | apply Kd.R_drew)); exact Kd.R_mono (Kd.R_far (p := ⟨gb185, 3, none⟩) (Kd.R_far (p := ⟨gb185, 2, none⟩) (Kd.R_far (p := ⟨gb185, 1, none⟩) (Kd.R_far (p := ⟨gb185, 0, none⟩) (Kd.R_types HO196.out BK185.out (by decide)) (fun _ hk => hk.2) (.int .i64 t187)) (fun _ hk => hk.2) (.int .i64 (wrap64 (rd l0 5)))) (fun _ hk => hk.2) (.int .i64 (wrap64 (rd l0 6)))) (fun _ hk => hk.2) (.slice Ao32 y194.length co32)) (fun _ hk => trivial), bb_⟩
             ·have hnb69 := NB185_197.out
              have hnc69 := NB197_185.out
              obtain ⟨hcz70_0, hcz70_1, hcz70_2, hcz70_3, hfz70_0, hfz70_1, hfz70_2, hfz70_3⟩ := cf4_ BK185
              try go_wp2
              refine bodyPost_ret (results_ct rfl _ _ gb185 61 #[.int .i64 0, .int .i64 0, .int .i64 0, .slice none 0 0] (0, 0) _ rfl (by (with_reducible repeat (first | refine blk_drewN ?_ _ | refine blk_drew ?_ | refine blk_alloc ?_ _)); refine blk_put (cs := #[.int .i64 0, .int .i64 0, .int .i64 0, .slice none 0 0]) ?_ 3 _ rfl; (with_reducible repeat (first | refine blk_drewN ?_ _ | refine blk_drew ?_ | refine blk_alloc ?_ _)); refine blk_put (cs := #[.int .i64 0, .int .i64 0, .int .i64 0, .slice none 0 0]) ?_ 2 _ rfl; (with_reducible repeat (first | refine blk_drewN ?_ _ | refine blk_drew ?_ | refine blk_alloc ?_ _)); refine blk_put (cs := #[.int .i64 0, .int .i64 0, .int .i64 0, .slice none 0 0]) ?_ 1 _ rfl; (with_reducible repeat (first | refine blk_drewN ?_ _ | refine blk_drew ?_ | refine blk_alloc ?_ _)); refine blk_put (cs := #[.int .i64 0, .int .i64 0, .int .i64 0, .slice none 0 0]) ?_ 0 _ rfl; (with_reducible repeat (first | refine blk_drewN ?_ _ | refine blk_drew ?_ | refine blk_alloc ?_ _)); exact BK185.out) Try.underlying61 rfl (by kernel_rfl)) rfl ?_
              exact ⟨_, by first | rfl | (simp [errW_none, errW_some] <;> rfl) | (simp only [← hji20]; first | rfl | (simp [errW_none, errW_some] <;> rfl)) | (simp [*, errW_none, errW_some] <;> rfl), by first | exact Kd.R_nil _ _ _ _ _ | exact Kd.N_nil _ _ _ _ _ | exact Kd.V_nil _ _ _ _ _ | exact Kd.Q_nil _ _ _ _ _ | exact Kd.S_nil _ _ _ _ _, bb_⟩
            ·rw [if_neg c21] at H
             exact absurd H (by simp)
           ·rw [if_neg c18] at H
            have c18b0 : (t198 == 0) = false := beq_eq_false_iff_ne.mpr c18
            have c18b1 : (t198 != 0) = true := bne_iff_ne.mpr c18
            simp only [Option.some.injEq, Prod.mk.injEq] at H
            obtain ⟨rfl, rfl, rfl, rfl, rfl⟩ := H
            try go_wp2
            have n0_ := Aside0.mk (blk_drew BK185.out)
            have n1_ := Aside0.mk (below_drew1 HB.out)
            clear BK185
            clear HB
            have BK185 := n0_
            have HB := n1_
            clear n0_ n1_
            have p188 : 0 ≤ (5 : Int) := (by omega)
            have q188 : 5 < (l0.length : Int) := of_decide_eq_true as_
            obtain ⟨ad188, e188, hx188_0⟩ := Kd.at_int HR0.out 5 p188 q188
            have hw188_0 := hx188_0
            (try rw [show ((5 : Int)).toNat = 5 from rfl] at hw188_0)
            (try rw [show 5 * 1 = 5 from rfl] at hw188_0)
            (try simp only [Nat.reduceMul, Nat.reduceEqDiff, Go.Addr.add, ↓reduceIte] at hw188_0)
            obtain rfl : ad186 = ad188 := (by injection e188)
            (try simp only [show (5 : Int).toNat = 5 from rfl, Nat.reduceMul, Nat.reduceEqDiff, Go.Addr.add, ↓reduceIte] at hx188_0)
            have qi188 : (5 < l0.length) = True := eq_true (by omega)
            (try rw [show ((5 : Int)).toNat = 5 from rfl] at hx188_0)
            replace hx188_0 := (HB.out.cell (World.block_lt_of_cell? w _ hx188_0)).trans hx188_0
            replace p188 := eq_true p188
            replace q188 := eq_true q188
            have p189 : 0 ≤ (6 : Int) := (by omega)
            have q189 : 6 < (l0.length : Int) := of_decide_eq_true as_
            obtain ⟨ad189, e189, hx189_0⟩ := Kd.at_int HR0.out 6 p189 q189
            have hw189_0 := hx189_0
            (try rw [show ((6 : Int)).toNat = 6 from rfl] at hw189_0)
            (try rw [show 6 * 1 = 6 from rfl] at hw189_0)
            (try simp only [Nat.reduceMul, Nat.reduceEqDiff, Go.Addr.add, ↓reduceIte] at hw189_0)
            obtain rfl : ad186 = ad189 := (by injection e189)
            (try simp only [show (6 : Int).toNat = 6 from rfl, Nat.reduceMul, Nat.reduceEqDiff, Go.Addr.add, ↓reduceIte] at hx189_0)
            have qi189 : (6 < l0.length) = True := eq_true (by omega)
            (try rw [show ((6 : Int)).toNat = 6 from rfl] at hx189_0)
            replace hx189_0 := (HB.out.cell (World.block_lt_of_cell? w _ hx189_0)).trans hx189_0
            replace p189 := eq_true p189
            replace q189 := eq_true q189
            obtain ⟨i072, hi072, _, hsz72, _⟩ := info_parts info5
            obtain ⟨A72, hcut72, hA72, hC72⟩ := print_mid_of (P := Try.prog) (Value.int .u8) 0 22 5 .i64 .i64 Try.underlying22 hi072 hsz72 (some ad186) c0 l0 8 (wrap64 (3 + (wrap64 (rd l0 0)))) (by omega) (by first | omega | exact of_decide_eq_true as_) (of_decide_eq_true as_) HC0.out
            have HR193 := Aside0.mk (Kd.C_of_reads (h1 := fun _ => rfl) (hA72 _ (Kd.reads_of_C HR0.out)))
            have HC193 := Aside0.mk hC72
            clear hA72 hC72 hi072 hsz72
            refine start_ (n := 19) (S := fun w' => w'.cell? ⟨ad186.block, ad186.off + 5, none⟩ = some (.int .u8 (rd l0 5)) ∧ w'.cell? ⟨ad186.block, ad186.off + 6, none⟩ = some (.int .u8 (rd l0 6))) (ds := []) #[false, false, false, false, false, false, false, false, false, false, false, false, false, false, false, false, false, false, false] (by kernel_rfl) rfl rfl ⟨((HB.out.cell (World.block_lt_of_cell? w _ hw188_0)).trans hw188_0), ((HB.out.cell (World.block_lt_of_cell? w _ hw189_0)).trans hw189_0)⟩ (fun hHeld => ?_); refine with_tabW spec_l10One.tab6 spec_l10One.bits6 (fun HT_ HW_ => ?_)
            generalize wc.drew = w71 at BK185 HB HR193 hx188_0 hx189_0 hHeld ⊢
            refine pure_ (i := 0) (N := some 24) (v := ?_) (a' := ?_) #[true, false, false, false, false, false, false, false, false, false, false, false, false, false, false, false, false, false, false] rfl rfl (any_of HT_.out (by kernel_rfl)) (fun _ _ _ h => h) (Or.inl ⟨by rfl, ?_⟩) ?_ ?_
            rotate_left
            ·intro w'
             go_simp
             with_reducible rfl
            rotate_left
            ·simp only [Act.put, List.setIfInBounds_toArray, List.set_cons_zero, List.set_cons_succ, i64_w, i32_w]
             rfl
            refine pure_ (i := 2) (N := some 26) (v := ?_) (a' := ?_) #[true, false, true, false, false, false, false, false, false, false, false, false, false, false, false, false, false, false, false] rfl rfl (any_of HT_.out (by kernel_rfl)) (fun _ _ _ h => h) (Or.inl ⟨by rfl, ?_⟩) ?_ ?_
            rotate_left
            ·intro w'
             go_simp
             with_reducible rfl
            rotate_left
            ·simp only [Act.put, List.setIfInBounds_toArray, List.set_cons_zero, List.set_cons_succ, i64_w, i32_w]
             rfl
            refine pure_ (i := 3) (N := some 27) (v := ?_) (a' := ?_) #[true, false, true, true, false, false, false, false, false, false, false, false, false, false, false, false, false, false, false] rfl rfl (any_of HT_.out (by kernel_rfl)) (fun _ _ _ h => h) (Or.inl ⟨by rfl, ?_⟩) ?_ ?_
            rotate_left
            ·intro w'
             go_simp
             with_reducible rfl
            rotate_left
            ·simp only [Act.put, List.setIfInBounds_toArray, List.set_cons_zero, List.set_cons_succ, i64_w, i32_w]
             rfl
            refine pure_ (i := 6) (N := some 30) (v := ?_) (a' := ?_) #[true, false, true, true, false, false, true, false, false, false, false, false, false, false, false, false, false, false, false] rfl rfl (any_of HT_.out (by kernel_rfl)) (fun _ _ _ h => h) (Or.inl ⟨by rfl, ?_⟩) ?_ ?_
            rotate_left
            ·intro w'
             go_simp
             with_reducible rfl
            rotate_left
            ·simp only [Act.put, List.setIfInBounds_toArray, List.set_cons_zero, List.set_cons_succ, i64_w, i32_w]
             rfl
            refine pure_ (i := 7) (N := some 31) (v := ?_) (a' := ?_) #[true, false, true, true, false, false, true, true, false, false, false, false, false, false, false, false, false, false, false] rfl rfl (any_of HT_.out (by kernel_rfl)) (fun _ _ _ h => h) (Or.inl ⟨by rfl, ?_⟩) ?_ ?_
            rotate_left
            ·intro w'
             go_simp
             with_reducible rfl
            rotate_left
            ·simp only [Act.put, List.setIfInBounds_toArray, List.set_cons_zero, List.set_cons_succ, i64_w, i32_w]
             rfl
            refine pure_ (i := 11) (N := some 35) (v := ?_) (a' := ?_) #[true, false, true, true, false, false, true, true, false, false, false, true, false, false, false, false, false, false, false] rfl rfl (any_of HT_.out (by kernel_rfl)) (fun _ _ _ h => h) (Or.inl ⟨by rfl, ?_⟩) ?_ ?_
            rotate_left
            ·intro w'
             go_simp
             with_reducible rfl
            rotate_left
            ·simp only [Act.put, List.setIfInBounds_toArray, List.set_cons_zero, List.set_cons_succ, i64_w, i32_w]
             rfl
            refine pure_ (i := 12) (N := some 36) (v := ?_) (a' := ?_) #[true, false, true, true, false, false, true, true, false, false, false, true, true, false, false, false, false, false, false] rfl rfl (any_of HT_.out (by kernel_rfl)) (fun _ _ _ h => h) (Or.inl ⟨by rfl, ?_⟩) ?_ ?_
            rotate_left
            ·intro w'
             go_simp
             with_reducible rfl
            rotate_left
            ·simp only [Act.put, List.setIfInBounds_toArray, List.set_cons_zero, List.set_cons_succ, i64_w, i32_w]
             rfl
            refine pure_ (i := 13) (N := some 37) (v := ?_) (a' := ?_) #[true, false, true, true, false, false, true, true, false, false, false, true, true, true, false, false, false, false, false] rfl rfl (any_of HT_.out (by kernel_rfl)) (fun _ _ _ h => h) (Or.inl ⟨by rfl, ?_⟩) ?_ ?_
            rotate_left
            ·intro w'
             go_simp
             with_reducible rfl
            rotate_left
            ·simp only [Act.put, List.setIfInBounds_toArray, List.set_cons_zero, List.set_cons_succ, i64_w, i32_w]
             rfl
            refine take_ (i := 4) (N := some 28) (v := ?_) (a' := ?_) #[true, false, true, true, true, false, true, true, false, false, false, true, true, true, false, false, false, false, false] rfl rfl (take_ofW HT_.out HW_.out (by kernel_rfl)) (fun _ _ _ h => h) (Or.inl ⟨by rfl, ?_⟩) hHeld ?_ ?_
            rotate_left
            ·rintro w' ⟨s0, s1⟩
             go_simp
             with_reducible rfl
            rotate_left
            ·simp only [Act.put, List.setIfInBounds_toArray, List.set_cons_zero, List.set_cons_succ, i64_w, i32_w]
             rfl
            refine pure_ (i := 5) (N := some 29) (v := ?_) (a' := ?_) #[true, false, true, true, true, true, true, true, false, false, false, true, true, true, false, false, false, false, false] rfl rfl (any_of HT_.out (by kernel_rfl)) (fun _ _ _ h => h) (Or.inl ⟨by rfl, ?_⟩) ?_ ?_
            rotate_left
            ·intro w'
             go_simp
             with_reducible rfl
            rotate_left
            ·simp only [Act.put, List.setIfInBounds_toArray, List.set_cons_zero, List.set_cons_succ, i64_w, i32_w]
             rfl
            refine take_ (i := 8) (N := some 32) (v := ?_) (a' := ?_) #[true, false, true, true, true, true, true, true, true, false, false, true, true, true, false, false, false, false, false] rfl rfl (take_ofW HT_.out HW_.out (by kernel_rfl)) (fun _ _ _ h => h) (Or.inl ⟨by rfl, ?_⟩) hHeld ?_ ?_
            rotate_left
            ·rintro w' ⟨s0, s1⟩
             go_simp
             with_reducible rfl
            rotate_left
            ·simp only [Act.put, List.setIfInBounds_toArray, List.set_cons_zero, List.set_cons_succ, i64_w, i32_w]
             rfl
            refine pure_ (i := 9) (N := some 33) (v := ?_) (a' := ?_) #[true, false, true, true, true, true, true, true, true, true, false, true, true, true, false, false, false, false, false] rfl rfl (any_of HT_.out (by kernel_rfl)) (fun _ _ _ h => h) (Or.inl ⟨by rfl, ?_⟩) ?_ ?_
            rotate_left
            ·intro w'
             go_simp
             with_reducible rfl
            rotate_left
            ·simp only [Act.put, List.setIfInBounds_toArray, List.set_cons_zero, List.set_cons_succ, i64_w, i32_w]
             rfl
            refine join_ (σ := Value × Value × Nat) 1 #[true, true, true, true, true, true, true, true, true, true, true, true, true, true, true, true, true, true, false] (fun s_ => [(25, .int .i64 t187), (34, s_.1), (38, s_.2.1), (5, .pointer (some ⟨s_.2.2, 0, none⟩)), (39, .agg #[.int .i64 (wrap64 (rd l0 5)), .int .i64 (wrap64 (rd l0 6)), s_.2.1]), (40, .agg #[.int .i64 t187, .int .i64 (wrap64 (rd l0 5)), .int .i64 (wrap64 (rd l0 6)), s_.2.1])]) (fun s_ w' => (w'.cell? ⟨ad186.block, ad186.off + 5, none⟩ = some (.int .u8 (rd l0 5)) ∧ w'.cell? ⟨ad186.block, ad186.off + 6, none⟩ = some (.int .u8 (rd l0 6))) ∧ (Kd.R (Kd.int .u8) 5 w' w.heap.size (fun _ => True) s_.2.1 y194) ∧ (w'.heap[gb185]? = some (.cells #[.int .i64 0, .int .i64 0, .int .i64 0, .slice none 0 0] 61 (0, 0))) ∧ (w'.heap[s_.2.2]? = some (.cells #[.int .i64 0, .int .i64 0, .int .i64 0, .slice none 0 0] 61 (0, 0))) ∧ (w.heap.size ≤ s_.2.2) ∧ (w.heap.size ≤ s_.2.2) ∧ (gb185 ≠ s_.2.2) ∧ (s_.2.2 ≠ gb185) ∧ (Below w.heap.size w w')) ?_ ?_
            rotate_left
            ·intro hJ1_10_14_17
             refine join_ (σ := Value × Value) 2 #[true, true, true, true, true, true, true, true, true, true, true, true, true, true, true, true, true, false, false] (fun s_ => [(25, .int .i64 t187), (34, s_.1), (38, s_.2), (39, .agg #[.int .i64 (wrap64 (rd l0 5)), .int .i64 (wrap64 (rd l0 6)), s_.2]), (40, .agg #[.int .i64 t187, .int .i64 (wrap64 (rd l0 5)), .int .i64 (wrap64 (rd l0 6)), s_.2])]) (fun s_ w' => (w'.cell? ⟨ad186.block, ad186.off + 5, none⟩ = some (.int .u8 (rd l0 5)) ∧ w'.cell? ⟨ad186.block, ad186.off + 6, none⟩ = some (.int .u8 (rd l0 6))) ∧ (Kd.R (Kd.int .u8) 5 w' w.heap.size (fun _ => True) s_.2 y194) ∧ (w'.heap[gb185]? = some (.cells #[.int .i64 0, .int .i64 0, .int .i64 0, .slice none 0 0] 61 (0, 0))) ∧ (Below w.heap.size w w')) ?_ ?_
             rotate_left
             ·intro hJ1_10_14
              refine join_ (σ := Value × Nat) 4 #[true, true, true, true, true, true, true, true, true, true, true, true, true, true, false, false, false, true, false] (fun s_ => [(25, .int .i64 t187), (34, s_.1), (5, .pointer (some ⟨s_.2, 0, none⟩))]) (fun s_ w' => (w'.cell? ⟨ad186.block, ad186.off + 5, none⟩ = some (.int .u8 (rd l0 5)) ∧ w'.cell? ⟨ad186.block, ad186.off + 6, none⟩ = some (.int .u8 (rd l0 6))) ∧ (Kd.R (Kd.int .u8) 5 w' w.heap.size (fun _ => True) s_.1 y190) ∧ (w'.heap[gb185]? = some (.cells #[.int .i64 0, .int .i64 0, .int .i64 0, .slice none 0 0] 61 (0, 0))) ∧ (w'.heap[s_.2]? = some (.cells #[.int .i64 0, .int .i64 0, .int .i64 0, .slice none 0 0] 61 (0, 0))) ∧ (w.heap.size ≤ s_.2) ∧ (w.heap.size ≤ s_.2) ∧ (gb185 ≠ s_.2) ∧ (s_.2 ≠ gb185) ∧ (Below w.heap.size w w')) ?_ ?_
              rotate_left
              ·intro hJ1_10_17
               refine join_ (σ := Value) 5 #[true, true, true, true, true, true, true, true, true, true, true, true, true, true, false, false, false, false, false] (fun s_ => [(25, .int .i64 t187), (34, s_)]) (fun s_ w' => (w'.cell? ⟨ad186.block, ad186.off + 5, none⟩ = some (.int .u8 (rd l0 5)) ∧ w'.cell? ⟨ad186.block, ad186.off + 6, none⟩ = some (.int .u8 (rd l0 6))) ∧ (Kd.R (Kd.int .u8) 5 w' w.heap.size (fun _ => True) s_ y190) ∧ (w'.heap[gb185]? = some (.cells #[.int .i64 0, .int .i64 0, .int .i64 0, .slice none 0 0] 61 (0, 0))) ∧ (Below w.heap.size w w')) ?_ ?_
               rotate_left
               ·intro hJ1_10
                refine join_ (σ := Nat) 5 #[true, true, true, true, true, true, true, true, true, true, false, true, true, true, false, false, false, true, false] (fun s_ => [(25, .int .i64 t187), (5, .pointer (some ⟨s_, 0, none⟩))]) (fun s_ w' => (w'.cell? ⟨ad186.block, ad186.off + 5, none⟩ = some (.int .u8 (rd l0 5)) ∧ w'.cell? ⟨ad186.block, ad186.off + 6, none⟩ = some (.int .u8 (rd l0 6))) ∧ (w'.heap[gb185]? = some (.cells #[.int .i64 0, .int .i64 0, .int .i64 0, .slice none 0 0] 61 (0, 0))) ∧ (w'.heap[s_]? = some (.cells #[.int .i64 0, .int .i64 0, .int .i64 0, .slice none 0 0] 61 (0, 0))) ∧ (w.heap.size ≤ s_) ∧ (w.heap.size ≤ s_) ∧ (gb185 ≠ s_) ∧ (s_ ≠ gb185) ∧ (Below w.heap.size w w')) ?_ ?_
                rotate_left
                ·intro hJ1_17
                 refine join_ (σ := Value × Nat) 5 #[true, false, true, true, true, true, true, true, true, true, true, true, true, true, false, false, false, true, false] (fun s_ => [(34, s_.1), (5, .pointer (some ⟨s_.2, 0, none⟩))]) (fun s_ w' => (w'.cell? ⟨ad186.block, ad186.off + 5, none⟩ = some (.int .u8 (rd l0 5)) ∧ w'.cell? ⟨ad186.block, ad186.off + 6, none⟩ = some (.int .u8 (rd l0 6))) ∧ (Kd.R (Kd.int .u8) 5 w' w.heap.size (fun _ => True) s_.1 y190) ∧ (w'.heap[gb185]? = some (.cells #[.int .i64 0, .int .i64 0, .int .i64 0, .slice none 0 0] 61 (0, 0))) ∧ (w'.heap[s_.2]? = some (.cells #[.int .i64 0, .int .i64 0, .int .i64 0, .slice none 0 0] 61 (0, 0))) ∧ (w.heap.size ≤ s_.2) ∧ (w.heap.size ≤ s_.2) ∧ (gb185 ≠ s_.2) ∧ (s_.2 ≠ gb185) ∧ (Below w.heap.size w w')) ?_ ?_
                 rotate_left
                 ·intro hJ10_17
                  refine join_ (σ := Unit) 6 #[true, true, true, true, true, true, true, true, true, true, false, true, true, true, false, false, false, false, false] (fun s_ => [(25, .int .i64 t187)]) (fun s_ w' => (w'.cell? ⟨ad186.block, ad186.off + 5, none⟩ = some (.int .u8 (rd l0 5)) ∧ w'.cell? ⟨ad186.block, ad186.off + 6, none⟩ = some (.int .u8 (rd l0 6))) ∧ (w'.heap[gb185]? = some (.cells #[.int .i64 0, .int .i64 0, .int .i64 0, .slice none 0 0] 61 (0, 0))) ∧ (Below w.heap.size w w')) ?_ ?_
                  rotate_left
                  ·intro hJ1
                   refine join_ (σ := Value) 6 #[true, false, true, true, true, true, true, true, true, true, true, true, true, true, false, false, false, false, false] (fun s_ => [(34, s_)]) (fun s_ w' => (w'.cell? ⟨ad186.block, ad186.off + 5, none⟩ = some (.int .u8 (rd l0 5)) ∧ w'.cell? ⟨ad186.block, ad186.off + 6, none⟩ = some (.int .u8 (rd l0 6))) ∧ (Kd.R (Kd.int .u8) 5 w' w.heap.size (fun _ => True) s_ y190) ∧ (w'.heap[gb185]? = some (.cells #[.int .i64 0, .int .i64 0, .int .i64 0, .slice none 0 0] 61 (0, 0))) ∧ (Below w.heap.size w w')) ?_ ?_
                   rotate_left
                   ·intro hJ10
                    refine join_ (σ := Nat) 6 #[true, false, true, true, true, true, true, true, true, true, false, true, true, true, false, false, false, true, false] (fun s_ => [(5, .pointer (some ⟨s_, 0, none⟩))]) (fun s_ w' => (w'.cell? ⟨ad186.block, ad186.off + 5, none⟩ = some (.int .u8 (rd l0 5)) ∧ w'.cell? ⟨ad186.block, ad186.off + 6, none⟩ = some (.int .u8 (rd l0 6))) ∧ (w'.heap[gb185]? = some (.cells #[.int .i64 0, .int .i64 0, .int .i64 0, .slice none 0 0] 61 (0, 0))) ∧ (w'.heap[s_]? = some (.cells #[.int .i64 0, .int .i64 0, .int .i64 0, .slice none 0 0] 61 (0, 0))) ∧ (w.heap.size ≤ s_) ∧ (w.heap.size ≤ s_) ∧ (gb185 ≠ s_) ∧ (s_ ≠ gb185) ∧ (Below w.heap.size w w')) ?_ ?_
                    rotate_left
                    ·intro hJ17
                     refine three_ (i := 1) (j := 10) (k := 17) (Ni := some 25) (Nj := some 34) (Nk := some 5) #[true, true, true, true, true, true, true, true, true, true, false, true, true, true, false, false, false, false, false] #[true, false, true, true, true, true, true, true, true, true, true, true, true, true, false, false, false, false, false] #[true, false, true, true, true, true, true, true, true, true, false, true, true, true, false, false, false, true, false] rfl rfl rfl rfl rfl rfl (three_of HT_.out (by kernel_rfl)) (by decide) (by decide) (by decide) (fun K hK => ?_) (fun K hK => ?_) (fun K hK => ?_)
                     ·skip
                      refine goes_ Try.func182 (by kernel_rfl) rfl #[.slice (some ad186) l0.length c0, .int .i64 3, .int .i64 2] (by rfl) rfl rfl (by (try simp only [List.map_toArray, List.map_cons, List.map_nil]); first | done | rfl | (simp only [List.length_drop, List.length_take]; rfl)) ?_
                      with_reducible refine (spec_l1Take.calls kj5 _ _ l0 3 2 t187 _ ?side1 ?side2 A11.out).mono ?_
                      (case side1 => exact kc_ (Kd.C_below HR0.out HB.out))
                      (case side2 => exact HC0.out)
                      rintro e w' ⟨rfl, ⟨nd, rfl⟩⟩
                      refine ⟨_, rfl, ?_⟩
                      refine hK.out _ _ ⟨((HB.out.cell (World.block_lt_of_cell? w _ hw188_0)).trans hw188_0), ((HB.out.cell (World.block_lt_of_cell? w _ hw189_0)).trans hw189_0)⟩ (fun hHeld => ?_)
                      clear hK K
                      refine norm_ (a' := ?_) ?_ ?_
                      rotate_left
                      ·show Act.put _ (some 25) _ = _
                       simp only [Act.put, List.setIfInBounds_toArray, List.set_cons_zero, List.set_cons_succ, i64_w, i32_w]
                       rfl
                      exact norm_ (by first | (simp only [putAll, Act.put, List.setIfInBounds_toArray, List.set_cons_zero, List.set_cons_succ]; done) | (simp only [putAll, Act.put, List.setIfInBounds_toArray, List.set_cons_zero, List.set_cons_succ]; rfl)) (hJ1 () _ ⟨hHeld, (by (with_reducible repeat (first | refine blk_drewN ?_ _ | refine blk_drew ?_ | refine blk_alloc ?_ _)); exact BK185.out), bb_⟩)
                     ·skip
                      refine Kd.R_lit_step (Kd.int .u8) _ 5 ?hg (N := 34) ?hd (xs := ([] : List Int)) (inner := []) (ok := fun _ => True) (okp := fun _ => True) ?hr ?hp (fun _ hk => hk) trivial (Below.refl _ _) (Nat.le_refl _) (by simp) ?_; (case hd => rfl); (case hg => rfl); (case hr => first | (go_simp; done) | (go_simp; rfl)); (case hp => exact (Reps.none _ _))
                      intro v191 w73 ho74 hb hg_ hnew_
                      clear hg_ hnew_
                      (first | rw [← Ny190.out] at ho74 | (simp only [Int.reduceToNat] at ho74; rw [← Ny190.out] at ho74))
                      have n0_ := Aside0.mk (Kd.R_lower ho74 (below_size bb_))
                      have n1_ := Aside0.mk (blk_below (kb_ BK185) hb)
                      have n2_ := Aside0.mk (below_step bb_ hb)
                      clear BK185
                      clear HB
                      have HO192 := n0_
                      have BK185 := n1_
                      have HB := n2_
                      clear n0_ n1_ n2_
                      clear hb ho74
                      refine hK.out _ _ ⟨((HB.out.cell (World.block_lt_of_cell? w _ hw188_0)).trans hw188_0), ((HB.out.cell (World.block_lt_of_cell? w _ hw189_0)).trans hw189_0)⟩ (fun hHeld => ?_)
                      clear hK K
                      refine norm_ (a' := ?_) ?_ ?_
                      rotate_left
                      ·show Act.put _ (some 34) _ = _
                       simp only [Act.put, List.setIfInBounds_toArray, List.set_cons_zero, List.set_cons_succ, i64_w, i32_w]
                       rfl
                      exact norm_ (by first | (simp only [putAll, Act.put, List.setIfInBounds_toArray, List.set_cons_zero, List.set_cons_succ]; done) | (simp only [putAll, Act.put, List.setIfInBounds_toArray, List.set_cons_zero, List.set_cons_succ]; rfl)) (hJ10 (v191) _ ⟨hHeld, (kr_ HO192), (by (with_reducible repeat (first | refine blk_drewN ?_ _ | refine blk_drew ?_ | refine blk_alloc ?_ _)); exact BK185.out), bb_⟩)
                     ·skip
                      refine box_step ?hg (N := 5) ?hd (cs := #[.int .i64 0, .int .i64 0, .int .i64 0, .slice none 0 0]) (t := 61) ?hr ?_; (case hd => rfl); (case hg => rfl); (case hr => first | (go_simp; done) | (go_simp; rfl))
                      intro gb197 hg w73 hbox hb
                      have n0_ := Aside0.mk (blk_below (kb_ BK185) hb)
                      have n1_ := Aside0.mk (below_step bb_ hb)
                      have n2_ := Aside0.mk (hbox)
                      have n3_ := (bs_ hg : Aside0 (w.heap.size ≤ _))
                      have n4_ := (bs_ hg : Aside0 (w.heap.size ≤ _))
                      have n5_ := (nl_ hg BK185 : Aside0 (gb185 ≠ gb197))
                      have n6_ := (nr_ hg BK185 : Aside0 (gb197 ≠ gb185))
                      clear BK185
                      clear HB
                      have BK185 := n0_
                      have HB := n1_
                      have BK197 := n2_
                      have GW197 := n3_
                      have GE197 := n4_
                      have NB185_197 := n5_
                      have NB197_185 := n6_
                      clear n0_ n1_ n2_ n3_ n4_ n5_ n6_
                      clear hb hbox hg
                      refine hK.out _ _ ⟨((HB.out.cell (World.block_lt_of_cell? w _ hw188_0)).trans hw188_0), ((HB.out.cell (World.block_lt_of_cell? w _ hw189_0)).trans hw189_0)⟩ (fun hHeld => ?_)
                      clear hK K
                      refine norm_ (a' := ?_) ?_ ?_
                      rotate_left
                      ·show Act.put _ (some 5) _ = _
                       simp only [Act.put, List.setIfInBounds_toArray, List.set_cons_zero, List.set_cons_succ, i64_w, i32_w]
                       rfl
                      exact norm_ (by first | (simp only [putAll, Act.put, List.setIfInBounds_toArray, List.set_cons_zero, List.set_cons_succ]; done) | (simp only [putAll, Act.put, List.setIfInBounds_toArray, List.set_cons_zero, List.set_cons_succ]; rfl)) (hJ17 (gb197) _ ⟨hHeld, (by (with_reducible repeat (first | refine blk_drewN ?_ _ | refine blk_drew ?_ | refine blk_alloc ?_ _)); exact BK185.out), (by (with_reducible repeat (first | refine blk_drewN ?_ _ | refine blk_drew ?_ | refine blk_alloc ?_ _)); exact BK197.out), GW197.out, GE197.out, NB185_197.out, NB197_185.out, bb_⟩)
                    ·skip
                     rintro gb197 w74 ⟨hS_, h0_, h1_, h2_, h3_, h4_, h5_, h6_⟩
                     have n0_ : Aside0 (w74.heap[gb185]? = some (.cells #[.int .i64 0, .int .i64 0, .int .i64 0, .slice none 0 0] 61 (0, 0))) := ⟨h0_⟩
                     have n1_ : Aside0 (w74.heap[gb197]? = some (.cells #[.int .i64 0, .int .i64 0, .int .i64 0, .slice none 0 0] 61 (0, 0))) := ⟨h1_⟩
                     have n2_ : Aside0 (w.heap.size ≤ gb197) := ⟨h2_⟩
                     have n3_ : Aside0 (w.heap.size ≤ gb197) := ⟨h3_⟩
                     have n4_ : Aside0 (gb185 ≠ gb197) := ⟨h4_⟩
                     have n5_ : Aside0 (gb197 ≠ gb185) := ⟨h5_⟩
                     have n6_ : Aside0 (Below w.heap.size w w74) := ⟨h6_⟩
                     clear BK185
                     clear HB
                     clear h0_ h1_ h2_ h3_ h4_ h5_ h6_
                     have BK185 := n0_
                     have BK197 := n1_
                     have GW197 := n2_
                     have GE197 := n3_
                     have NB185_197 := n4_
                     have NB197_185 := n5_
                     have HB := n6_
                     clear n0_ n1_ n2_ n3_ n4_ n5_ n6_
                     have hHeld : w74.cell? ⟨ad186.block, ad186.off + 5, none⟩ = some (.int .u8 (rd l0 5)) ∧ w74.cell? ⟨ad186.block, ad186.off + 6, none⟩ = some (.int .u8 (rd l0 6)) := hS_
                     refine norm_ (a' := ?_) ?_ ?_
                     rotate_left
                     ·simp only [putAll, Act.put, List.setIfInBounds_toArray, List.set_cons_zero, List.set_cons_succ]
                      rfl
                     refine two_ (i := 1) (j := 10) (Ni := some 25) (Nj := some 34) #[true, true, true, true, true, true, true, true, true, true, false, true, true, true, false, false, false, true, false] #[true, false, true, true, true, true, true, true, true, true, true, true, true, true, false, false, false, true, false] rfl rfl rfl rfl (two_of HT_.out (by kernel_rfl)) (by decide) (by decide) (fun K hK => ?_) (fun K hK => ?_)
                     ·skip
                      refine goes_ Try.func182 (by kernel_rfl) rfl #[.slice (some ad186) l0.length c0, .int .i64 3, .int .i64 2] (by rfl) rfl rfl (by (try simp only [List.map_toArray, List.map_cons, List.map_nil]); first | done | rfl | (simp only [List.length_drop, List.length_take]; rfl)) ?_
                      with_reducible refine (spec_l1Take.calls kj5 _ _ l0 3 2 t187 _ ?side1 ?side2 A11.out).mono ?_
                      (case side1 => exact kc_ (Kd.C_below HR0.out HB.out))
                      (case side2 => exact HC0.out)
                      rintro e w' ⟨rfl, ⟨nd, rfl⟩⟩
                      refine ⟨_, rfl, ?_⟩
                      refine hK.out _ _ ⟨((HB.out.cell (World.block_lt_of_cell? w _ hw188_0)).trans hw188_0), ((HB.out.cell (World.block_lt_of_cell? w _ hw189_0)).trans hw189_0)⟩ (fun hHeld => ?_)
                      clear hK K
                      refine norm_ (a' := ?_) ?_ ?_
                      rotate_left
                      ·show Act.put _ (some 25) _ = _
                       simp only [Act.put, List.setIfInBounds_toArray, List.set_cons_zero, List.set_cons_succ, i64_w, i32_w]
                       rfl
                      exact norm_ (by first | (simp only [putAll, Act.put, List.setIfInBounds_toArray, List.set_cons_zero, List.set_cons_succ]; done) | (simp only [putAll, Act.put, List.setIfInBounds_toArray, List.set_cons_zero, List.set_cons_succ]; rfl)) (hJ1_17 (gb197) _ ⟨hHeld, (by (with_reducible repeat (first | refine blk_drewN ?_ _ | refine blk_drew ?_ | refine blk_alloc ?_ _)); exact BK185.out), (by (with_reducible repeat (first | refine blk_drewN ?_ _ | refine blk_drew ?_ | refine blk_alloc ?_ _)); exact BK197.out), GW197.out, GE197.out, NB185_197.out, NB197_185.out, bb_⟩)
                     ·skip
                      refine Kd.R_lit_step (Kd.int .u8) _ 5 ?hg (N := 34) ?hd (xs := ([] : List Int)) (inner := []) (ok := fun _ => True) (okp := fun _ => True) ?hr ?hp (fun _ hk => hk) trivial (Below.refl _ _) (Nat.le_refl _) (by simp) ?_; (case hd => rfl); (case hg => rfl); (case hr => first | (go_simp; done) | (go_simp; rfl)); (case hp => exact (Reps.none _ _))
                      intro v191 w75 ho76 hb hg_ hnew_
                      clear hg_ hnew_
                      (first | rw [← Ny190.out] at ho76 | (simp only [Int.reduceToNat] at ho76; rw [← Ny190.out] at ho76))
                      have n0_ := Aside0.mk (Kd.R_lower ho76 (below_size bb_))
                      have n1_ := Aside0.mk (blk_below (kb_ BK185) hb)
                      have n2_ := Aside0.mk (blk_below (kb_ BK197) hb)
                      have n3_ := Aside0.mk (below_step bb_ hb)
                      clear BK185
                      clear BK197
                      clear HB
                      have HO192 := n0_
                      have BK185 := n1_
                      have BK197 := n2_
                      have HB := n3_
                      clear n0_ n1_ n2_ n3_
                      clear hb ho76
                      refine hK.out _ _ ⟨((HB.out.cell (World.block_lt_of_cell? w _ hw188_0)).trans hw188_0), ((HB.out.cell (World.block_lt_of_cell? w _ hw189_0)).trans hw189_0)⟩ (fun hHeld => ?_)
                      clear hK K
                      refine norm_ (a' := ?_) ?_ ?_
                      rotate_left
                      ·show Act.put _ (some 34) _ = _
                       simp only [Act.put, List.setIfInBounds_toArray, List.set_cons_zero, List.set_cons_succ, i64_w, i32_w]
                       rfl
                      exact norm_ (by first | (simp only [putAll, Act.put, List.setIfInBounds_toArray, List.set_cons_zero, List.set_cons_succ]; done) | (simp only [putAll, Act.put, List.setIfInBounds_toArray, List.set_cons_zero, List.set_cons_succ]; rfl)) (hJ10_17 (v191, gb197) _ ⟨hHeld, (kr_ HO192), (by (with_reducible repeat (first | refine blk_drewN ?_ _ | refine blk_drew ?_ | refine blk_alloc ?_ _)); exact BK185.out), (by (with_reducible repeat (first | refine blk_drewN ?_ _ | refine blk_drew ?_ | refine blk_alloc ?_ _)); exact BK197.out), GW197.out, GE197.out, NB185_197.out, NB197_185.out, bb_⟩)
                   ·skip
                    rintro v191 w75 ⟨hS_, h0_, h1_, h2_⟩
                    have n0_ : Aside0 (Kd.R (Kd.int .u8) 5 w75 w.heap.size (fun _ => True) v191 y190) := ⟨h0_⟩
                    have n1_ : Aside0 (w75.heap[gb185]? = some (.cells #[.int .i64 0, .int .i64 0, .int .i64 0, .slice none 0 0] 61 (0, 0))) := ⟨h1_⟩
                    have n2_ : Aside0 (Below w.heap.size w w75) := ⟨h2_⟩
                    clear BK185
                    clear HB
                    clear h0_ h1_ h2_
                    have HO192 := n0_
                    have BK185 := n1_
                    have HB := n2_
                    clear n0_ n1_ n2_
                    have hHeld : w75.cell? ⟨ad186.block, ad186.off + 5, none⟩ = some (.int .u8 (rd l0 5)) ∧ w75.cell? ⟨ad186.block, ad186.off + 6, none⟩ = some (.int .u8 (rd l0 6)) := hS_
                    refine norm_ (a' := ?_) ?_ ?_
                    rotate_left
                    ·simp only [putAll, Act.put, List.setIfInBounds_toArray, List.set_cons_zero, List.set_cons_succ]
                     rfl
                    refine two_ (i := 1) (j := 17) (Ni := some 25) (Nj := some 5) #[true, true, true, true, true, true, true, true, true, true, true, true, true, true, false, false, false, false, false] #[true, false, true, true, true, true, true, true, true, true, true, true, true, true, false, false, false, true, false] rfl rfl rfl rfl (two_of HT_.out (by kernel_rfl)) (by decide) (by decide) (fun K hK => ?_) (fun K hK => ?_)
                    ·skip
                     refine goes_ Try.func182 (by kernel_rfl) rfl #[.slice (some ad186) l0.length c0, .int .i64 3, .int .i64 2] (by rfl) rfl rfl (by (try simp only [List.map_toArray, List.map_cons, List.map_nil]); first | done | rfl | (simp only [List.length_drop, List.length_take]; rfl)) ?_
                     with_reducible refine (spec_l1Take.calls kj5 _ _ l0 3 2 t187 _ ?side1 ?side2 A11.out).mono ?_
                     (case side1 => exact kc_ (Kd.C_below HR0.out HB.out))
                     (case side2 => exact HC0.out)
                     rintro e w' ⟨rfl, ⟨nd, rfl⟩⟩
                     refine ⟨_, rfl, ?_⟩
                     refine hK.out _ _ ⟨((HB.out.cell (World.block_lt_of_cell? w _ hw188_0)).trans hw188_0), ((HB.out.cell (World.block_lt_of_cell? w _ hw189_0)).trans hw189_0)⟩ (fun hHeld => ?_)
                     clear hK K
                     refine norm_ (a' := ?_) ?_ ?_
                     rotate_left
                     ·show Act.put _ (some 25) _ = _
                      simp only [Act.put, List.setIfInBounds_toArray, List.set_cons_zero, List.set_cons_succ, i64_w, i32_w]
                      rfl
                     exact norm_ (by first | (simp only [putAll, Act.put, List.setIfInBounds_toArray, List.set_cons_zero, List.set_cons_succ]; done) | (simp only [putAll, Act.put, List.setIfInBounds_toArray, List.set_cons_zero, List.set_cons_succ]; rfl)) (hJ1_10 (v191) _ ⟨hHeld, (kr_ HO192), (by (with_reducible repeat (first | refine blk_drewN ?_ _ | refine blk_drew ?_ | refine blk_alloc ?_ _)); exact BK185.out), bb_⟩)
                    ·skip
                     refine box_step ?hg (N := 5) ?hd (cs := #[.int .i64 0, .int .i64 0, .int .i64 0, .slice none 0 0]) (t := 61) ?hr ?_; (case hd => rfl); (case hg => rfl); (case hr => first | (go_simp; done) | (go_simp; rfl))
                     intro gb197 hg w76 hbox hb
                     have n0_ := Aside0.mk (Kd.R_below (kr_ HO192) hb)
                     have n1_ := Aside0.mk (blk_below (kb_ BK185) hb)
                     have n2_ := Aside0.mk (below_step bb_ hb)
                     have n3_ := Aside0.mk (hbox)
                     have n4_ := (bs_ hg : Aside0 (w.heap.size ≤ _))
                     have n5_ := (bs_ hg : Aside0 (w.heap.size ≤ _))
                     have n6_ := (nl_ hg BK185 : Aside0 (gb185 ≠ gb197))
                     have n7_ := (nr_ hg BK185 : Aside0 (gb197 ≠ gb185))
                     clear HO192
                     clear BK185
                     clear HB
                     have HO192 := n0_
                     have BK185 := n1_
                     have HB := n2_
                     have BK197 := n3_
                     have GW197 := n4_
                     have GE197 := n5_
                     have NB185_197 := n6_
                     have NB197_185 := n7_
                     clear n0_ n1_ n2_ n3_ n4_ n5_ n6_ n7_
                     clear hb hbox hg
                     refine hK.out _ _ ⟨((HB.out.cell (World.block_lt_of_cell? w _ hw188_0)).trans hw188_0), ((HB.out.cell (World.block_lt_of_cell? w _ hw189_0)).trans hw189_0)⟩ (fun hHeld => ?_)
                     clear hK K
                     refine norm_ (a' := ?_) ?_ ?_
                     rotate_left
                     ·show Act.put _ (some 5) _ = _
                      simp only [Act.put, List.setIfInBounds_toArray, List.set_cons_zero, List.set_cons_succ, i64_w, i32_w]
                      rfl
                     exact norm_ (by first | (simp only [putAll, Act.put, List.setIfInBounds_toArray, List.set_cons_zero, List.set_cons_succ]; done) | (simp only [putAll, Act.put, List.setIfInBounds_toArray, List.set_cons_zero, List.set_cons_succ]; rfl)) (hJ10_17 (v191, gb197) _ ⟨hHeld, (kr_ HO192), (by (with_reducible repeat (first | refine blk_drewN ?_ _ | refine blk_drew ?_ | refine blk_alloc ?_ _)); exact BK185.out), (by (with_reducible repeat (first | refine blk_drewN ?_ _ | refine blk_drew ?_ | refine blk_alloc ?_ _)); exact BK197.out), GW197.out, GE197.out, NB185_197.out, NB197_185.out, bb_⟩)
                  ·skip
                   rintro _ w73 ⟨hS_, h0_, h1_⟩
                   have n0_ : Aside0 (w73.heap[gb185]? = some (.cells #[.int .i64 0, .int .i64 0, .int .i64 0, .slice none 0 0] 61 (0, 0))) := ⟨h0_⟩
                   have n1_ : Aside0 (Below w.heap.size w w73) := ⟨h1_⟩
                   clear BK185
                   clear HB
                   clear h0_ h1_
                   have BK185 := n0_
                   have HB := n1_
                   clear n0_ n1_
                   have hHeld : w73.cell? ⟨ad186.block, ad186.off + 5, none⟩ = some (.int .u8 (rd l0 5)) ∧ w73.cell? ⟨ad186.block, ad186.off + 6, none⟩ = some (.int .u8 (rd l0 6)) := hS_
                   refine norm_ (a' := ?_) ?_ ?_
                   rotate_left
                   ·simp only [putAll, Act.put, List.setIfInBounds_toArray, List.set_cons_zero, List.set_cons_succ]
                    rfl
                   refine two_ (i := 10) (j := 17) (Ni := some 34) (Nj := some 5) #[true, true, true, true, true, true, true, true, true, true, true, true, true, true, false, false, false, false, false] #[true, true, true, true, true, true, true, true, true, true, false, true, true, true, false, false, false, true, false] rfl rfl rfl rfl (two_of HT_.out (by kernel_rfl)) (by decide) (by decide) (fun K hK => ?_) (fun K hK => ?_)
                   ·skip
                    refine Kd.R_lit_step (Kd.int .u8) _ 5 ?hg (N := 34) ?hd (xs := ([] : List Int)) (inner := []) (ok := fun _ => True) (okp := fun _ => True) ?hr ?hp (fun _ hk => hk) trivial (Below.refl _ _) (Nat.le_refl _) (by simp) ?_; (case hd => rfl); (case hg => rfl); (case hr => first | (go_simp; done) | (go_simp; rfl)); (case hp => exact (Reps.none _ _))
                    intro v191 w74 ho75 hb hg_ hnew_
                    clear hg_ hnew_
                    (first | rw [← Ny190.out] at ho75 | (simp only [Int.reduceToNat] at ho75; rw [← Ny190.out] at ho75))
                    have n0_ := Aside0.mk (Kd.R_lower ho75 (below_size bb_))
                    have n1_ := Aside0.mk (blk_below (kb_ BK185) hb)
                    have n2_ := Aside0.mk (below_step bb_ hb)
                    clear BK185
                    clear HB
                    have HO192 := n0_
                    have BK185 := n1_
                    have HB := n2_
                    clear n0_ n1_ n2_
                    clear hb ho75
                    refine hK.out _ _ ⟨((HB.out.cell (World.block_lt_of_cell? w _ hw188_0)).trans hw188_0), ((HB.out.cell (World.block_lt_of_cell? w _ hw189_0)).trans hw189_0)⟩ (fun hHeld => ?_)
                    clear hK K
                    refine norm_ (a' := ?_) ?_ ?_
                    rotate_left
                    ·show Act.put _ (some 34) _ = _
                     simp only [Act.put, List.setIfInBounds_toArray, List.set_cons_zero, List.set_cons_succ, i64_w, i32_w]
                     rfl
                    exact norm_ (by first | (simp only [putAll, Act.put, List.setIfInBounds_toArray, List.set_cons_zero, List.set_cons_succ]; done) | (simp only [putAll, Act.put, List.setIfInBounds_toArray, List.set_cons_zero, List.set_cons_succ]; rfl)) (hJ1_10 (v191) _ ⟨hHeld, (kr_ HO192), (by (with_reducible repeat (first | refine blk_drewN ?_ _ | refine blk_drew ?_ | refine blk_alloc ?_ _)); exact BK185.out), bb_⟩)
                   ·skip
                    refine box_step ?hg (N := 5) ?hd (cs := #[.int .i64 0, .int .i64 0, .int .i64 0, .slice none 0 0]) (t := 61) ?hr ?_; (case hd => rfl); (case hg => rfl); (case hr => first | (go_simp; done) | (go_simp; rfl))
                    intro gb197 hg w74 hbox hb
                    have n0_ := Aside0.mk (blk_below (kb_ BK185) hb)
                    have n1_ := Aside0.mk (below_step bb_ hb)
                    have n2_ := Aside0.mk (hbox)
                    have n3_ := (bs_ hg : Aside0 (w.heap.size ≤ _))
                    have n4_ := (bs_ hg : Aside0 (w.heap.size ≤ _))
                    have n5_ := (nl_ hg BK185 : Aside0 (gb185 ≠ gb197))
                    have n6_ := (nr_ hg BK185 : Aside0 (gb197 ≠ gb185))
                    clear BK185
                    clear HB
                    have BK185 := n0_
                    have HB := n1_
                    have BK197 := n2_
                    have GW197 := n3_
                    have GE197 := n4_
                    have NB185_197 := n5_
                    have NB197_185 := n6_
                    clear n0_ n1_ n2_ n3_ n4_ n5_ n6_
                    clear hb hbox hg
                    refine hK.out _ _ ⟨((HB.out.cell (World.block_lt_of_cell? w _ hw188_0)).trans hw188_0), ((HB.out.cell (World.block_lt_of_cell? w _ hw189_0)).trans hw189_0)⟩ (fun hHeld => ?_)
                    clear hK K
                    refine norm_ (a' := ?_) ?_ ?_
                    rotate_left
                    ·show Act.put _ (some 5) _ = _
                     simp only [Act.put, List.setIfInBounds_toArray, List.set_cons_zero, List.set_cons_succ, i64_w, i32_w]
                     rfl
                    exact norm_ (by first | (simp only [putAll, Act.put, List.setIfInBounds_toArray, List.set_cons_zero, List.set_cons_succ]; done) | (simp only [putAll, Act.put, List.setIfInBounds_toArray, List.set_cons_zero, List.set_cons_succ]; rfl)) (hJ1_17 (gb197) _ ⟨hHeld, (by (with_reducible repeat (first | refine blk_drewN ?_ _ | refine blk_drew ?_ | refine blk_alloc ?_ _)); exact BK185.out), (by (with_reducible repeat (first | refine blk_drewN ?_ _ | refine blk_drew ?_ | refine blk_alloc ?_ _)); exact BK197.out), GW197.out, GE197.out, NB185_197.out, NB197_185.out, bb_⟩)
                 ·skip
                  rintro ⟨v191, gb197⟩ w76 ⟨hS_, h0_, h1_, h2_, h3_, h4_, h5_, h6_, h7_⟩
                  have n0_ : Aside0 (Kd.R (Kd.int .u8) 5 w76 w.heap.size (fun _ => True) v191 y190) := ⟨h0_⟩
                  have n1_ : Aside0 (w76.heap[gb185]? = some (.cells #[.int .i64 0, .int .i64 0, .int .i64 0, .slice none 0 0] 61 (0, 0))) := ⟨h1_⟩
                  have n2_ : Aside0 (w76.heap[gb197]? = some (.cells #[.int .i64 0, .int .i64 0, .int .i64 0, .slice none 0 0] 61 (0, 0))) := ⟨h2_⟩
                  have n3_ : Aside0 (w.heap.size ≤ gb197) := ⟨h3_⟩
                  have n4_ : Aside0 (w.heap.size ≤ gb197) := ⟨h4_⟩
                  have n5_ : Aside0 (gb185 ≠ gb197) := ⟨h5_⟩
                  have n6_ : Aside0 (gb197 ≠ gb185) := ⟨h6_⟩
                  have n7_ : Aside0 (Below w.heap.size w w76) := ⟨h7_⟩
                  clear BK185
                  clear HB
                  clear h0_ h1_ h2_ h3_ h4_ h5_ h6_ h7_
                  have HO192 := n0_
                  have BK185 := n1_
                  have BK197 := n2_
                  have GW197 := n3_
                  have GE197 := n4_
                  have NB185_197 := n5_
                  have NB197_185 := n6_
                  have HB := n7_
                  clear n0_ n1_ n2_ n3_ n4_ n5_ n6_ n7_
                  have hHeld : w76.cell? ⟨ad186.block, ad186.off + 5, none⟩ = some (.int .u8 (rd l0 5)) ∧ w76.cell? ⟨ad186.block, ad186.off + 6, none⟩ = some (.int .u8 (rd l0 6)) := hS_
                  refine norm_ (a' := ?_) ?_ ?_
                  rotate_left
                  ·simp only [putAll, Act.put, List.setIfInBounds_toArray, List.set_cons_zero, List.set_cons_succ]
                   rfl
                  refine one_ (i := 1) (N := some 25) #[true, true, true, true, true, true, true, true, true, true, true, true, true, true, false, false, false, true, false] rfl rfl (one_of HT_.out (by kernel_rfl)) (by decide) (fun K hK => ?_)
                  refine goes_ Try.func182 (by kernel_rfl) rfl #[.slice (some ad186) l0.length c0, .int .i64 3, .int .i64 2] (by rfl) rfl rfl (by (try simp only [List.map_toArray, List.map_cons, List.map_nil]); first | done | rfl | (simp only [List.length_drop, List.length_take]; rfl)) ?_
                  with_reducible refine (spec_l1Take.calls kj5 _ _ l0 3 2 t187 _ ?side1 ?side2 A11.out).mono ?_
                  (case side1 => exact kc_ (Kd.C_below HR0.out HB.out))
                  (case side2 => exact HC0.out)
                  rintro e w' ⟨rfl, ⟨nd, rfl⟩⟩
                  refine ⟨_, rfl, ?_⟩
                  refine hK.out _ _ ⟨((HB.out.cell (World.block_lt_of_cell? w _ hw188_0)).trans hw188_0), ((HB.out.cell (World.block_lt_of_cell? w _ hw189_0)).trans hw189_0)⟩ (fun hHeld => ?_)
                  clear hK K
                  refine norm_ (a' := ?_) ?_ ?_
                  rotate_left
                  ·show Act.put _ (some 25) _ = _
                   simp only [Act.put, List.setIfInBounds_toArray, List.set_cons_zero, List.set_cons_succ, i64_w, i32_w]
                   rfl
                  exact norm_ (by first | (simp only [putAll, Act.put, List.setIfInBounds_toArray, List.set_cons_zero, List.set_cons_succ]; done) | (simp only [putAll, Act.put, List.setIfInBounds_toArray, List.set_cons_zero, List.set_cons_succ]; rfl)) (hJ1_10_17 (v191, gb197) _ ⟨hHeld, (kr_ HO192), (by (with_reducible repeat (first | refine blk_drewN ?_ _ | refine blk_drew ?_ | refine blk_alloc ?_ _)); exact BK185.out), (by (with_reducible repeat (first | refine blk_drewN ?_ _ | refine blk_drew ?_ | refine blk_alloc ?_ _)); exact BK197.out), GW197.out, GE197.out, NB185_197.out, NB197_185.out, bb_⟩)
                ·skip
                 rintro gb197 w74 ⟨hS_, h0_, h1_, h2_, h3_, h4_, h5_, h6_⟩
                 have n0_ : Aside0 (w74.heap[gb185]? = some (.cells #[.int .i64 0, .int .i64 0, .int .i64 0, .slice none 0 0] 61 (0, 0))) := ⟨h0_⟩
                 have n1_ : Aside0 (w74.heap[gb197]? = some (.cells #[.int .i64 0, .int .i64 0, .int .i64 0, .slice none 0 0] 61 (0, 0))) := ⟨h1_⟩
                 have n2_ : Aside0 (w.heap.size ≤ gb197) := ⟨h2_⟩
                 have n3_ : Aside0 (w.heap.size ≤ gb197) := ⟨h3_⟩
                 have n4_ : Aside0 (gb185 ≠ gb197) := ⟨h4_⟩
                 have n5_ : Aside0 (gb197 ≠ gb185) := ⟨h5_⟩
                 have n6_ : Aside0 (Below w.heap.size w w74) := ⟨h6_⟩
                 clear BK185
                 clear HB
                 clear h0_ h1_ h2_ h3_ h4_ h5_ h6_
                 have BK185 := n0_
                 have BK197 := n1_
                 have GW197 := n2_
                 have GE197 := n3_
                 have NB185_197 := n4_
                 have NB197_185 := n5_
                 have HB := n6_
                 clear n0_ n1_ n2_ n3_ n4_ n5_ n6_
                 have hHeld : w74.cell? ⟨ad186.block, ad186.off + 5, none⟩ = some (.int .u8 (rd l0 5)) ∧ w74.cell? ⟨ad186.block, ad186.off + 6, none⟩ = some (.int .u8 (rd l0 6)) := hS_
                 refine norm_ (a' := ?_) ?_ ?_
                 rotate_left
                 ·simp only [putAll, Act.put, List.setIfInBounds_toArray, List.set_cons_zero, List.set_cons_succ]
                  rfl
                 refine one_ (i := 10) (N := some 34) #[true, true, true, true, true, true, true, true, true, true, true, true, true, true, false, false, false, true, false] rfl rfl (one_of HT_.out (by kernel_rfl)) (by decide) (fun K hK => ?_)
                 refine Kd.R_lit_step (Kd.int .u8) _ 5 ?hg (N := 34) ?hd (xs := ([] : List Int)) (inner := []) (ok := fun _ => True) (okp := fun _ => True) ?hr ?hp (fun _ hk => hk) trivial (Below.refl _ _) (Nat.le_refl _) (by simp) ?_; (case hd => rfl); (case hg => rfl); (case hr => first | (go_simp; done) | (go_simp; rfl)); (case hp => exact (Reps.none _ _))
                 intro v191 w75 ho76 hb hg_ hnew_
                 clear hg_ hnew_
                 (first | rw [← Ny190.out] at ho76 | (simp only [Int.reduceToNat] at ho76; rw [← Ny190.out] at ho76))
                 have n0_ := Aside0.mk (Kd.R_lower ho76 (below_size bb_))
                 have n1_ := Aside0.mk (blk_below (kb_ BK185) hb)
                 have n2_ := Aside0.mk (blk_below (kb_ BK197) hb)
                 have n3_ := Aside0.mk (below_step bb_ hb)
                 clear BK185
                 clear BK197
                 clear HB
                 have HO192 := n0_
                 have BK185 := n1_
                 have BK197 := n2_
                 have HB := n3_
                 clear n0_ n1_ n2_ n3_
                 clear hb ho76
                 refine hK.out _ _ ⟨((HB.out.cell (World.block_lt_of_cell? w _ hw188_0)).trans hw188_0), ((HB.out.cell (World.block_lt_of_cell? w _ hw189_0)).trans hw189_0)⟩ (fun hHeld => ?_)
                 clear hK K
                 refine norm_ (a' := ?_) ?_ ?_
                 rotate_left
                 ·show Act.put _ (some 34) _ = _
                  simp only [Act.put, List.setIfInBounds_toArray, List.set_cons_zero, List.set_cons_succ, i64_w, i32_w]
                  rfl
                 exact norm_ (by first | (simp only [putAll, Act.put, List.setIfInBounds_toArray, List.set_cons_zero, List.set_cons_succ]; done) | (simp only [putAll, Act.put, List.setIfInBounds_toArray, List.set_cons_zero, List.set_cons_succ]; rfl)) (hJ1_10_17 (v191, gb197) _ ⟨hHeld, (kr_ HO192), (by (with_reducible repeat (first | refine blk_drewN ?_ _ | refine blk_drew ?_ | refine blk_alloc ?_ _)); exact BK185.out), (by (with_reducible repeat (first | refine blk_drewN ?_ _ | refine blk_drew ?_ | refine blk_alloc ?_ _)); exact BK197.out), GW197.out, GE197.out, NB185_197.out, NB197_185.out, bb_⟩)
               ·skip
                rintro v191 w75 ⟨hS_, h0_, h1_, h2_⟩
                have n0_ : Aside0 (Kd.R (Kd.int .u8) 5 w75 w.heap.size (fun _ => True) v191 y190) := ⟨h0_⟩
                have n1_ : Aside0 (w75.heap[gb185]? = some (.cells #[.int .i64 0, .int .i64 0, .int .i64 0, .slice none 0 0] 61 (0, 0))) := ⟨h1_⟩
                have n2_ : Aside0 (Below w.heap.size w w75) := ⟨h2_⟩
                clear BK185
                clear HB
                clear h0_ h1_ h2_
                have HO192 := n0_
                have BK185 := n1_
                have HB := n2_
                clear n0_ n1_ n2_
                have hHeld : w75.cell? ⟨ad186.block, ad186.off + 5, none⟩ = some (.int .u8 (rd l0 5)) ∧ w75.cell? ⟨ad186.block, ad186.off + 6, none⟩ = some (.int .u8 (rd l0 6)) := hS_
                refine norm_ (a' := ?_) ?_ ?_
                rotate_left
                ·simp only [putAll, Act.put, List.setIfInBounds_toArray, List.set_cons_zero, List.set_cons_succ]
                 rfl
                refine two_ (i := 14) (j := 17) (Ni := some 38) (Nj := some 5) #[true, true, true, true, true, true, true, true, true, true, true, true, true, true, true, false, false, false, false] #[true, true, true, true, true, true, true, true, true, true, true, true, true, true, false, false, false, true, false] rfl rfl rfl rfl (two_of HT_.out (by kernel_rfl)) (by decide) (by decide) (fun K hK => ?_) (fun K hK => ?_)
                ·skip
                 refine Kd.R_append_rows_step (Kd.int .u8) (w0 := w) w.heap.size (by rfl) (.tmp 34) (.tmp 37) 22 5 (.int .u8 0) 1 rfl Try.underlying22 info5 rfl (by decide) (by omega) v191 y190 ((l0.take ((wrap64 (3 + (wrap64 (rd l0 0)))) : Int).toNat).drop 8) _ _ _ (fun _ => True) (fun _ => False) rfl rfl ?aO ?aR (fun _ _ h => h) (fun _ h => h.elim) ?aF ?aB ?aS ?aL ?_
                 (case aR => first | (have hq_ := HR193.out; rw [show ((l0.take ((wrap64 (3 + (wrap64 (rd l0 0)))) : Int).toNat).drop 8).length = ((wrap64 (3 + (wrap64 (rd l0 0)))).toNat - 8) from (by rw [List.length_drop, List.length_take]; have h_ : ((wrap64 (3 + (wrap64 (rd l0 0)))) : Int) ≤ (l0.length : Int) := of_decide_eq_true as_; omega)] at hq_; repeat (first | exact (Kd.C_below hq_ HB.out) | (with_reducible refine Kd.C_alloc ?_ _) | (with_reducible refine Kd.C_drewN ?_ _) | (with_reducible refine Kd.C_drew ?_)); done) | (rw [← show ((l0.take ((wrap64 (3 + (wrap64 (rd l0 0)))) : Int).toNat).drop 8).length = ((wrap64 (3 + (wrap64 (rd l0 0)))).toNat - 8) from (by rw [List.length_drop, List.length_take]; have h_ : ((wrap64 (3 + (wrap64 (rd l0 0)))) : Int) ≤ (l0.length : Int) := of_decide_eq_true as_; omega)]; repeat (first | exact (Kd.C_below HR193.out HB.out) | (with_reducible refine Kd.C_alloc ?_ _) | (with_reducible refine Kd.C_drewN ?_ _) | (with_reducible refine Kd.C_drew ?_)); done) | (repeat (first | exact (Kd.C_below HR193.out HB.out) | (with_reducible refine Kd.C_alloc ?_ _) | (with_reducible refine Kd.C_drewN ?_ _) | (with_reducible refine Kd.C_drew ?_))))
                 (case aB => exact bb_)
                 (case aF => exact (fun _ _ => trivial))
                 (case aO => exact (kr_ HO192))
                 (case aS => exact (below_size bb_))
                 (case aL => have := LMc16.out; have hlx_ := (show ((l0.take ((wrap64 (3 + (wrap64 (rd l0 0)))) : Int).toNat).drop 8).length = ((wrap64 (3 + (wrap64 (rd l0 0)))).toNat - 8) from (by rw [List.length_drop, List.length_take]; have h_ : ((wrap64 (3 + (wrap64 (rd l0 0)))) : Int) ≤ (l0.length : Int) := of_decide_eq_true as_; omega)); omega)
                 intro v195 w76 ho hb hg hat
                 rw [← Ny194.out] at ho
                 have n0_ := Aside0.mk (blk_grown (g := gb185) (o := .cells #[.int .i64 0, .int .i64 0, .int .i64 0, .slice none 0 0] 61 (0, 0)) (by (with_reducible repeat (first | refine blk_drewN ?_ _ | refine blk_drew ?_ | refine blk_alloc ?_ _)); exact BK185.out) hg (Kd.R_ne HO192.out BK185.out (by decide)))
                 have n1_ := Aside0.mk (hb)
                 have n2_ := Aside0.mk (ho)
                 clear BK185
                 clear HB
                 clear HO192
                 have BK185 := n0_
                 have HB := n1_
                 have HO196 := n2_
                 clear n0_ n1_ n2_
                 clear ho hb hg hat
                 obtain ⟨Ao77, co77, eo77⟩ := Kd.R_slice HO196.out
                 (first | subst eo77 | (injection eo77 with f1_ f2_ f3_; have f4_ := f1_.symm; have f5_ := f3_.symm; clear f1_ f2_ f3_; subst f4_; subst f5_))
                 refine hK.out _ _ ⟨((HB.out.cell (World.block_lt_of_cell? w _ hw188_0)).trans hw188_0), ((HB.out.cell (World.block_lt_of_cell? w _ hw189_0)).trans hw189_0)⟩ (fun hHeld => ?_)
                 clear hK K
                 refine norm_ (a' := ?_) ?_ ?_
                 rotate_left
                 ·show Act.put _ (some 38) _ = _
                  simp only [Act.put, List.setIfInBounds_toArray, List.set_cons_zero, List.set_cons_succ, i64_w, i32_w]
                  rfl
                 refine pure_ (i := 15) (N := some 39) (v := ?_) (a' := ?_) #[true, true, true, true, true, true, true, true, true, true, true, true, true, true, true, true, false, false, false] rfl rfl (any_of HT_.out (by kernel_rfl)) (fun _ _ _ h => h) (Or.inl ⟨by rfl, ?_⟩) ?_ ?_
                 rotate_left
                 ·intro w'
                  go_simp
                  with_reducible rfl
                 rotate_left
                 ·simp only [Act.put, List.setIfInBounds_toArray, List.set_cons_zero, List.set_cons_succ, i64_w, i32_w]
                  rfl
                 refine pure_ (i := 16) (N := some 40) (v := ?_) (a' := ?_) #[true, true, true, true, true, true, true, true, true, true, true, true, true, true, true, true, true, false, false] rfl rfl (any_of HT_.out (by kernel_rfl)) (fun _ _ _ h => h) (Or.inl ⟨by rfl, ?_⟩) ?_ ?_
                 rotate_left
                 ·intro w'
                  go_simp
                  with_reducible rfl
                 rotate_left
                 ·simp only [Act.put, List.setIfInBounds_toArray, List.set_cons_zero, List.set_cons_succ, i64_w, i32_w]
                  rfl
                 exact norm_ (by first | (simp only [putAll, Act.put, List.setIfInBounds_toArray, List.set_cons_zero, List.set_cons_succ]; done) | (simp only [putAll, Act.put, List.setIfInBounds_toArray, List.set_cons_zero, List.set_cons_succ]; rfl)) (hJ1_10_14 (v191, .slice Ao77 y194.length co77) _ ⟨hHeld, (kr_ HO196), (by (with_reducible repeat (first | refine blk_drewN ?_ _ | refine blk_drew ?_ | refine blk_alloc ?_ _)); exact BK185.out), bb_⟩)
                ·skip
                 refine box_step ?hg (N := 5) ?hd (cs := #[.int .i64 0, .int .i64 0, .int .i64 0, .slice none 0 0]) (t := 61) ?hr ?_; (case hd => rfl); (case hg => rfl); (case hr => first | (go_simp; done) | (go_simp; rfl))
                 intro gb197 hg w76 hbox hb
                 have n0_ := Aside0.mk (Kd.R_below (kr_ HO192) hb)
                 have n1_ := Aside0.mk (blk_below (kb_ BK185) hb)
                 have n2_ := Aside0.mk (below_step bb_ hb)
                 have n3_ := Aside0.mk (hbox)
                 have n4_ := (bs_ hg : Aside0 (w.heap.size ≤ _))
                 have n5_ := (bs_ hg : Aside0 (w.heap.size ≤ _))
                 have n6_ := (nl_ hg BK185 : Aside0 (gb185 ≠ gb197))
                 have n7_ := (nr_ hg BK185 : Aside0 (gb197 ≠ gb185))
                 clear HO192
                 clear BK185
                 clear HB
                 have HO192 := n0_
                 have BK185 := n1_
                 have HB := n2_
                 have BK197 := n3_
                 have GW197 := n4_
                 have GE197 := n5_
                 have NB185_197 := n6_
                 have NB197_185 := n7_
                 clear n0_ n1_ n2_ n3_ n4_ n5_ n6_ n7_
                 clear hb hbox hg
                 refine hK.out _ _ ⟨((HB.out.cell (World.block_lt_of_cell? w _ hw188_0)).trans hw188_0), ((HB.out.cell (World.block_lt_of_cell? w _ hw189_0)).trans hw189_0)⟩ (fun hHeld => ?_)
                 clear hK K
                 refine norm_ (a' := ?_) ?_ ?_
                 rotate_left
                 ·show Act.put _ (some 5) _ = _
                  simp only [Act.put, List.setIfInBounds_toArray, List.set_cons_zero, List.set_cons_succ, i64_w, i32_w]
                  rfl
                 exact norm_ (by first | (simp only [putAll, Act.put, List.setIfInBounds_toArray, List.set_cons_zero, List.set_cons_succ]; done) | (simp only [putAll, Act.put, List.setIfInBounds_toArray, List.set_cons_zero, List.set_cons_succ]; rfl)) (hJ1_10_17 (v191, gb197) _ ⟨hHeld, (kr_ HO192), (by (with_reducible repeat (first | refine blk_drewN ?_ _ | refine blk_drew ?_ | refine blk_alloc ?_ _)); exact BK185.out), (by (with_reducible repeat (first | refine blk_drewN ?_ _ | refine blk_drew ?_ | refine blk_alloc ?_ _)); exact BK197.out), GW197.out, GE197.out, NB185_197.out, NB197_185.out, bb_⟩)
              ·skip
               rintro ⟨v191, gb197⟩ w76 ⟨hS_, h0_, h1_, h2_, h3_, h4_, h5_, h6_, h7_⟩
               have n0_ : Aside0 (Kd.R (Kd.int .u8) 5 w76 w.heap.size (fun _ => True) v191 y190) := ⟨h0_⟩
               have n1_ : Aside0 (w76.heap[gb185]? = some (.cells #[.int .i64 0, .int .i64 0, .int .i64 0, .slice none 0 0] 61 (0, 0))) := ⟨h1_⟩
               have n2_ : Aside0 (w76.heap[gb197]? = some (.cells #[.int .i64 0, .int .i64 0, .int .i64 0, .slice none 0 0] 61 (0, 0))) := ⟨h2_⟩
               have n3_ : Aside0 (w.heap.size ≤ gb197) := ⟨h3_⟩
               have n4_ : Aside0 (w.heap.size ≤ gb197) := ⟨h4_⟩
               have n5_ : Aside0 (gb185 ≠ gb197) := ⟨h5_⟩
               have n6_ : Aside0 (gb197 ≠ gb185) := ⟨h6_⟩
               have n7_ : Aside0 (Below w.heap.size w w76) := ⟨h7_⟩
               clear BK185
               clear HB
               clear h0_ h1_ h2_ h3_ h4_ h5_ h6_ h7_
               have HO192 := n0_
               have BK185 := n1_
               have BK197 := n2_
               have GW197 := n3_
               have GE197 := n4_
               have NB185_197 := n5_
               have NB197_185 := n6_
               have HB := n7_
               clear n0_ n1_ n2_ n3_ n4_ n5_ n6_ n7_
               have hHeld : w76.cell? ⟨ad186.block, ad186.off + 5, none⟩ = some (.int .u8 (rd l0 5)) ∧ w76.cell? ⟨ad186.block, ad186.off + 6, none⟩ = some (.int .u8 (rd l0 6)) := hS_
               refine norm_ (a' := ?_) ?_ ?_
               rotate_left
               ·simp only [putAll, Act.put, List.setIfInBounds_toArray, List.set_cons_zero, List.set_cons_succ]
                rfl
               refine one_ (i := 14) (N := some 38) #[true, true, true, true, true, true, true, true, true, true, true, true, true, true, true, false, false, true, false] rfl rfl (one_of HT_.out (by kernel_rfl)) (by decide) (fun K hK => ?_)
               refine Kd.R_append_rows_step (Kd.int .u8) (w0 := w) w.heap.size (by rfl) (.tmp 34) (.tmp 37) 22 5 (.int .u8 0) 1 rfl Try.underlying22 info5 rfl (by decide) (by omega) v191 y190 ((l0.take ((wrap64 (3 + (wrap64 (rd l0 0)))) : Int).toNat).drop 8) _ _ _ (fun _ => True) (fun _ => False) rfl rfl ?aO ?aR (fun _ _ h => h) (fun _ h => h.elim) ?aF ?aB ?aS ?aL ?_
               (case aR => first | (have hq_ := HR193.out; rw [show ((l0.take ((wrap64 (3 + (wrap64 (rd l0 0)))) : Int).toNat).drop 8).length = ((wrap64 (3 + (wrap64 (rd l0 0)))).toNat - 8) from (by rw [List.length_drop, List.length_take]; have h_ : ((wrap64 (3 + (wrap64 (rd l0 0)))) : Int) ≤ (l0.length : Int) := of_decide_eq_true as_; omega)] at hq_; repeat (first | exact (Kd.C_below hq_ HB.out) | (with_reducible refine Kd.C_alloc ?_ _) | (with_reducible refine Kd.C_drewN ?_ _) | (with_reducible refine Kd.C_drew ?_)); done) | (rw [← show ((l0.take ((wrap64 (3 + (wrap64 (rd l0 0)))) : Int).toNat).drop 8).length = ((wrap64 (3 + (wrap64 (rd l0 0)))).toNat - 8) from (by rw [List.length_drop, List.length_take]; have h_ : ((wrap64 (3 + (wrap64 (rd l0 0)))) : Int) ≤ (l0.length : Int) := of_decide_eq_true as_; omega)]; repeat (first | exact (Kd.C_below HR193.out HB.out) | (with_reducible refine Kd.C_alloc ?_ _) | (with_reducible refine Kd.C_drewN ?_ _) | (with_reducible refine Kd.C_drew ?_)); done) | (repeat (first | exact (Kd.C_below HR193.out HB.out) | (with_reducible refine Kd.C_alloc ?_ _) | (with_reducible refine Kd.C_drewN ?_ _) | (with_reducible refine Kd.C_drew ?_))))
               (case aB => exact bb_)
               (case aF => exact (fun _ _ => trivial))
               (case aO => exact (kr_ HO192))
               (case aS => exact (below_size bb_))
               (case aL => have := LMc16.out; have hlx_ := (show ((l0.take ((wrap64 (3 + (wrap64 (rd l0 0)))) : Int).toNat).drop 8).length = ((wrap64 (3 + (wrap64 (rd l0 0)))).toNat - 8) from (by rw [List.length_drop, List.length_take]; have h_ : ((wrap64 (3 + (wrap64 (rd l0 0)))) : Int) ≤ (l0.length : Int) := of_decide_eq_true as_; omega)); omega)
               intro v195 w77 ho hb hg hat
               rw [← Ny194.out] at ho
               have n0_ := Aside0.mk (blk_grown (g := gb185) (o := .cells #[.int .i64 0, .int .i64 0, .int .i64 0, .slice none 0 0] 61 (0, 0)) (by (with_reducible repeat (first | refine blk_drewN ?_ _ | refine blk_drew ?_ | refine blk_alloc ?_ _)); exact BK185.out) hg (Kd.R_ne HO192.out BK185.out (by decide)))
               have n1_ := Aside0.mk (blk_grown (g := gb197) (o := .cells #[.int .i64 0, .int .i64 0, .int .i64 0, .slice none 0 0] 61 (0, 0)) (by (with_reducible repeat (first | refine blk_drewN ?_ _ | refine blk_drew ?_ | refine blk_alloc ?_ _)); exact BK197.out) hg (Kd.R_ne HO192.out BK197.out (by decide)))
               have n2_ := Aside0.mk (hb)
               have n3_ := Aside0.mk (ho)
               clear BK185
               clear BK197
               clear HB
               clear HO192
               have BK185 := n0_
               have BK197 := n1_
               have HB := n2_
               have HO196 := n3_
               clear n0_ n1_ n2_ n3_
               clear ho hb hg hat
               obtain ⟨Ao78, co78, eo78⟩ := Kd.R_slice HO196.out
               (first | subst eo78 | (injection eo78 with f1_ f2_ f3_; have f4_ := f1_.symm; have f5_ := f3_.symm; clear f1_ f2_ f3_; subst f4_; subst f5_))
               refine hK.out _ _ ⟨((HB.out.cell (World.block_lt_of_cell? w _ hw188_0)).trans hw188_0), ((HB.out.cell (World.block_lt_of_cell? w _ hw189_0)).trans hw189_0)⟩ (fun hHeld => ?_)
               clear hK K
               refine norm_ (a' := ?_) ?_ ?_
               rotate_left
               ·show Act.put _ (some 38) _ = _
                simp only [Act.put, List.setIfInBounds_toArray, List.set_cons_zero, List.set_cons_succ, i64_w, i32_w]
                rfl
               refine pure_ (i := 15) (N := some 39) (v := ?_) (a' := ?_) #[true, true, true, true, true, true, true, true, true, true, true, true, true, true, true, true, false, true, false] rfl rfl (any_of HT_.out (by kernel_rfl)) (fun _ _ _ h => h) (Or.inl ⟨by rfl, ?_⟩) ?_ ?_
               rotate_left
               ·intro w'
                go_simp
                with_reducible rfl
               rotate_left
               ·simp only [Act.put, List.setIfInBounds_toArray, List.set_cons_zero, List.set_cons_succ, i64_w, i32_w]
                rfl
               refine pure_ (i := 16) (N := some 40) (v := ?_) (a' := ?_) #[true, true, true, true, true, true, true, true, true, true, true, true, true, true, true, true, true, true, false] rfl rfl (any_of HT_.out (by kernel_rfl)) (fun _ _ _ h => h) (Or.inl ⟨by rfl, ?_⟩) ?_ ?_
               rotate_left
               ·intro w'
                go_simp
                with_reducible rfl
               rotate_left
               ·simp only [Act.put, List.setIfInBounds_toArray, List.set_cons_zero, List.set_cons_succ, i64_w, i32_w]
                rfl
               exact norm_ (by first | (simp only [putAll, Act.put, List.setIfInBounds_toArray, List.set_cons_zero, List.set_cons_succ]; done) | (simp only [putAll, Act.put, List.setIfInBounds_toArray, List.set_cons_zero, List.set_cons_succ]; rfl)) (hJ1_10_14_17 (v191, .slice Ao78 y194.length co78, gb197) _ ⟨hHeld, (kr_ HO196), (by (with_reducible repeat (first | refine blk_drewN ?_ _ | refine blk_drew ?_ | refine blk_alloc ?_ _)); exact BK185.out), (by (with_reducible repeat (first | refine blk_drewN ?_ _ | refine blk_drew ?_ | refine blk_alloc ?_ _)); exact BK197.out), GW197.out, GE197.out, NB185_197.out, NB197_185.out, bb_⟩)
             ·skip
              rintro ⟨v191, v195⟩ w77 ⟨hS_, h0_, h1_, h2_⟩
              have n0_ : Aside0 (Kd.R (Kd.int .u8) 5 w77 w.heap.size (fun _ => True) v195 y194) := ⟨h0_⟩
              have n1_ : Aside0 (w77.heap[gb185]? = some (.cells #[.int .i64 0, .int .i64 0, .int .i64 0, .slice none 0 0] 61 (0, 0))) := ⟨h1_⟩
              have n2_ : Aside0 (Below w.heap.size w w77) := ⟨h2_⟩
              clear BK185
              clear HB
              clear h0_ h1_ h2_
              have HO196 := n0_
              have BK185 := n1_
              have HB := n2_
              clear n0_ n1_ n2_
              have hHeld : w77.cell? ⟨ad186.block, ad186.off + 5, none⟩ = some (.int .u8 (rd l0 5)) ∧ w77.cell? ⟨ad186.block, ad186.off + 6, none⟩ = some (.int .u8 (rd l0 6)) := hS_
              obtain ⟨Ao78, co78, eo78⟩ := Kd.R_slice HO196.out
              (first | subst eo78 | (injection eo78 with f1_ f2_ f3_; have f4_ := f1_.symm; have f5_ := f3_.symm; clear f1_ f2_ f3_; subst f4_; subst f5_))
              refine norm_ (a' := ?_) ?_ ?_
              rotate_left
              ·simp only [putAll, Act.put, List.setIfInBounds_toArray, List.set_cons_zero, List.set_cons_succ]
               rfl
              refine one_ (i := 17) (N := some 5) #[true, true, true, true, true, true, true, true, true, true, true, true, true, true, true, true, true, true, false] rfl rfl (one_of HT_.out (by kernel_rfl)) (by decide) (fun K hK => ?_)
              refine box_step ?hg (N := 5) ?hd (cs := #[.int .i64 0, .int .i64 0, .int .i64 0, .slice none 0 0]) (t := 61) ?hr ?_; (case hd => rfl); (case hg => rfl); (case hr => first | (go_simp; done) | (go_simp; rfl))
              intro gb197 hg w79 hbox hb
              have n0_ := Aside0.mk (Kd.R_below (kr_ HO196) hb)
              have n1_ := Aside0.mk (blk_below (kb_ BK185) hb)
              have n2_ := Aside0.mk (below_step bb_ hb)
              have n3_ := Aside0.mk (hbox)
              have n4_ := (bs_ hg : Aside0 (w.heap.size ≤ _))
              have n5_ := (bs_ hg : Aside0 (w.heap.size ≤ _))
              have n6_ := (nl_ hg BK185 : Aside0 (gb185 ≠ gb197))
              have n7_ := (nr_ hg BK185 : Aside0 (gb197 ≠ gb185))
              clear HO196
              clear BK185
              clear HB
              have HO196 := n0_
              have BK185 := n1_
              have HB := n2_
              have BK197 := n3_
              have GW197 := n4_
              have GE197 := n5_
              have NB185_197 := n6_
              have NB197_185 := n7_
              clear n0_ n1_ n2_ n3_ n4_ n5_ n6_ n7_
              clear hb hbox hg
              refine hK.out _ _ ⟨((HB.out.cell (World.block_lt_of_cell? w _ hw188_0)).trans hw188_0), ((HB.out.cell (World.block_lt_of_cell? w _ hw189_0)).trans hw189_0)⟩ (fun hHeld => ?_)
              clear hK K
              refine norm_ (a' := ?_) ?_ ?_
              rotate_left
              ·show Act.put _ (some 5) _ = _
               simp only [Act.put, List.setIfInBounds_toArray, List.set_cons_zero, List.set_cons_succ, i64_w, i32_w]
               rfl
              exact norm_ (by first | (simp only [putAll, Act.put, List.setIfInBounds_toArray, List.set_cons_zero, List.set_cons_succ]; done) | (simp only [putAll, Act.put, List.setIfInBounds_toArray, List.set_cons_zero, List.set_cons_succ]; rfl)) (hJ1_10_14_17 (v191, .slice Ao78 y194.length co78, gb197) _ ⟨hHeld, (kr_ HO196), (by (with_reducible repeat (first | refine blk_drewN ?_ _ | refine blk_drew ?_ | refine blk_alloc ?_ _)); exact BK185.out), (by (with_reducible repeat (first | refine blk_drewN ?_ _ | refine blk_drew ?_ | refine blk_alloc ?_ _)); exact BK197.out), GW197.out, GE197.out, NB185_197.out, NB197_185.out, bb_⟩)
            rintro ⟨v191, v195, gb197⟩ w78 ⟨hS_, h0_, h1_, h2_, h3_, h4_, h5_, h6_, h7_⟩
            have n0_ : Aside0 (Kd.R (Kd.int .u8) 5 w78 w.heap.size (fun _ => True) v195 y194) := ⟨h0_⟩
            have n1_ : Aside0 (w78.heap[gb185]? = some (.cells #[.int .i64 0, .int .i64 0, .int .i64 0, .slice none 0 0] 61 (0, 0))) := ⟨h1_⟩
            have n2_ : Aside0 (w78.heap[gb197]? = some (.cells #[.int .i64 0, .int .i64 0, .int .i64 0, .slice none 0 0] 61 (0, 0))) := ⟨h2_⟩
            have n3_ : Aside0 (w.heap.size ≤ gb197) := ⟨h3_⟩
            have n4_ : Aside0 (w.heap.size ≤ gb197) := ⟨h4_⟩
            have n5_ : Aside0 (gb185 ≠ gb197) := ⟨h5_⟩
            have n6_ : Aside0 (gb197 ≠ gb185) := ⟨h6_⟩
            have n7_ : Aside0 (Below w.heap.size w w78) := ⟨h7_⟩
            clear BK185
            clear HB
            clear h0_ h1_ h2_ h3_ h4_ h5_ h6_ h7_
            have HO196 := n0_
            have BK185 := n1_
            have BK197 := n2_
            have GW197 := n3_
            have GE197 := n4_
            have NB185_197 := n5_
            have NB197_185 := n6_
            have HB := n7_
            clear n0_ n1_ n2_ n3_ n4_ n5_ n6_ n7_
            have hHeld : w78.cell? ⟨ad186.block, ad186.off + 5, none⟩ = some (.int .u8 (rd l0 5)) ∧ w78.cell? ⟨ad186.block, ad186.off + 6, none⟩ = some (.int .u8 (rd l0 6)) := hS_
            obtain ⟨Ao79, co79, eo79⟩ := Kd.R_slice HO196.out
            (first | subst eo79 | (injection eo79 with f1_ f2_ f3_; have f4_ := f1_.symm; have f5_ := f3_.symm; clear f1_ f2_ f3_; subst f4_; subst f5_))
            refine norm_ (a' := ?_) ?_ ?_
            rotate_left
            ·simp only [putAll, Act.put, List.setIfInBounds_toArray, List.set_cons_zero, List.set_cons_succ]
             rfl
            refine one_ (i := 18) (N := none) #[true, true, true, true, true, true, true, true, true, true, true, true, true, true, true, true, true, true, true] rfl rfl (one_of HT_.out (by kernel_rfl)) (by decide) (fun K hK => ?_)
            have hs80 : w78.cell? ⟨gb197, 0, none⟩ = some (.int .i64 0) := (blk_cell BK197.out 0).trans rfl
            have hfs80 := blk_frozen BK197.out 0
            have hns80_0 := NB185_197.out
            have hms80_0 := NB197_185.out
            have hs81 : w78.cell? ⟨gb197, 1, none⟩ = some (.int .i64 0) := (blk_cell BK197.out 1).trans rfl
            have hfs81 := blk_frozen BK197.out 1
            have hns81_0 := NB185_197.out
            have hms81_0 := NB197_185.out
            have hs82 : w78.cell? ⟨gb197, 2, none⟩ = some (.int .i64 0) := (blk_cell BK197.out 2).trans rfl
            have hfs82 := blk_frozen BK197.out 2
            have hns82_0 := NB185_197.out
            have hms82_0 := NB197_185.out
            have hs83 : w78.cell? ⟨gb197, 3, none⟩ = some (.slice none 0 0) := (blk_cell BK197.out 3).trans rfl
            have hfs83 := blk_frozen BK197.out 3
            have hns83_0 := NB185_197.out
            have hms83_0 := NB197_185.out
            refine skip_ (w1 := ?_) ?_ ?_ ?_ ?_
            rotate_left
            ·first | kernel_rfl | rfl
            ·rfl
            ·go_simp
             rfl
            refine hK.out _ _ ⟨((cell_far (p := ⟨gb197, _, none⟩) (by first | exact Nat.ne_of_lt (Nat.lt_of_lt_of_le (by have := World.block_lt_of_cell? _ _ hw188_0; first | rwa [add_block] at this | exact this) GW197.out) | (rw [add_block]; exact Nat.ne_of_lt (Nat.lt_of_lt_of_le (by have := World.block_lt_of_cell? _ _ hw188_0; first | rwa [add_block] at this | exact this) GW197.out)) | (show (Addr.add _ _).block ≠ _; rw [add_block]; exact Nat.ne_of_lt (Nat.lt_of_lt_of_le (by have := World.block_lt_of_cell? _ _ hw188_0; first | rwa [add_block] at this | exact this) GW197.out)) | (dsimp only; exact Nat.ne_of_lt (Nat.lt_of_lt_of_le (by have := World.block_lt_of_cell? _ _ hw188_0; first | rwa [add_block] at this | exact this) GW197.out))) _).trans (((cell_far (p := ⟨gb197, _, none⟩) (by first | exact Nat.ne_of_lt (Nat.lt_of_lt_of_le (by have := World.block_lt_of_cell? _ _ hw188_0; first | rwa [add_block] at this | exact this) GW197.out) | (rw [add_block]; exact Nat.ne_of_lt (Nat.lt_of_lt_of_le (by have := World.block_lt_of_cell? _ _ hw188_0; first | rwa [add_block] at this | exact this) GW197.out)) | (show (Addr.add _ _).block ≠ _; rw [add_block]; exact Nat.ne_of_lt (Nat.lt_of_lt_of_le (by have := World.block_lt_of_cell? _ _ hw188_0; first | rwa [add_block] at this | exact this) GW197.out)) | (dsimp only; exact Nat.ne_of_lt (Nat.lt_of_lt_of_le (by have := World.block_lt_of_cell? _ _ hw188_0; first | rwa [add_block] at this | exact this) GW197.out))) _).trans (((cell_far (p := ⟨gb197, _, none⟩) (by first | exact Nat.ne_of_lt (Nat.lt_of_lt_of_le (by have := World.block_lt_of_cell? _ _ hw188_0; first | rwa [add_block] at this | exact this) GW197.out) | (rw [add_block]; exact Nat.ne_of_lt (Nat.lt_of_lt_of_le (by have := World.block_lt_of_cell? _ _ hw188_0; first | rwa [add_block] at this | exact this) GW197.out)) | (show (Addr.add _ _).block ≠ _; rw [add_block]; exact Nat.ne_of_lt (Nat.lt_of_lt_of_le (by have := World.block_lt_of_cell? _ _ hw188_0; first | rwa [add_block] at this | exact this) GW197.out)) | (dsimp only; exact Nat.ne_of_lt (Nat.lt_of_lt_of_le (by have := World.block_lt_of_cell? _ _ hw188_0; first | rwa [add_block] at this | exact this) GW197.out))) _).trans (((cell_far (p := ⟨gb197, _, none⟩) (by first | exact Nat.ne_of_lt (Nat.lt_of_lt_of_le (by have := World.block_lt_of_cell? _ _ hw188_0; first | rwa [add_block] at this | exact this) GW197.out) | (rw [add_block]; exact Nat.ne_of_lt (Nat.lt_of_lt_of_le (by have := World.block_lt_of_cell? _ _ hw188_0; first | rwa [add_block] at this | exact this) GW197.out)) | (show (Addr.add _ _).block ≠ _; rw [add_block]; exact Nat.ne_of_lt (Nat.lt_of_lt_of_le (by have := World.block_lt_of_cell? _ _ hw188_0; first | rwa [add_block] at this | exact this) GW197.out)) | (dsimp only; exact Nat.ne_of_lt (Nat.lt_of_lt_of_le (by have := World.block_lt_of_cell? _ _ hw188_0; first | rwa [add_block] at this | exact this) GW197.out))) _).trans (hHeld.1)))))))), ((cell_far (p := ⟨gb197, _, none⟩) (by first | exact Nat.ne_of_lt (Nat.lt_of_lt_of_le (by have := World.block_lt_of_cell? _ _ hw189_0; first | rwa [add_block] at this | exact this) GW197.out) | (rw [add_block]; exact Nat.ne_of_lt (Nat.lt_of_lt_of_le (by have := World.block_lt_of_cell? _ _ hw189_0; first | rwa [add_block] at this | exact this) GW197.out)) | (show (Addr.add _ _).block ≠ _; rw [add_block]; exact Nat.ne_of_lt (Nat.lt_of_lt_of_le (by have := World.block_lt_of_cell? _ _ hw189_0; first | rwa [add_block] at this | exact this) GW197.out)) | (dsimp only; exact Nat.ne_of_lt (Nat.lt_of_lt_of_le (by have := World.block_lt_of_cell? _ _ hw189_0; first | rwa [add_block] at this | exact this) GW197.out))) _).trans (((cell_far (p := ⟨gb197, _, none⟩) (by first | exact Nat.ne_of_lt (Nat.lt_of_lt_of_le (by have := World.block_lt_of_cell? _ _ hw189_0; first | rwa [add_block] at this | exact this) GW197.out) | (rw [add_block]; exact Nat.ne_of_lt (Nat.lt_of_lt_of_le (by have := World.block_lt_of_cell? _ _ hw189_0; first | rwa [add_block] at this | exact this) GW197.out)) | (show (Addr.add _ _).block ≠ _; rw [add_block]; exact Nat.ne_of_lt (Nat.lt_of_lt_of_le (by have := World.block_lt_of_cell? _ _ hw189_0; first | rwa [add_block] at this | exact this) GW197.out)) | (dsimp only; exact Nat.ne_of_lt (Nat.lt_of_lt_of_le (by have := World.block_lt_of_cell? _ _ hw189_0; first | rwa [add_block] at this | exact this) GW197.out))) _).trans (((cell_far (p := ⟨gb197, _, none⟩) (by first | exact Nat.ne_of_lt (Nat.lt_of_lt_of_le (by have := World.block_lt_of_cell? _ _ hw189_0; first | rwa [add_block] at this | exact this) GW197.out) | (rw [add_block]; exact Nat.ne_of_lt (Nat.lt_of_lt_of_le (by have := World.block_lt_of_cell? _ _ hw189_0; first | rwa [add_block] at this | exact this) GW197.out)) | (show (Addr.add _ _).block ≠ _; rw [add_block]; exact Nat.ne_of_lt (Nat.lt_of_lt_of_le (by have := World.block_lt_of_cell? _ _ hw189_0; first | rwa [add_block] at this | exact this) GW197.out)) | (dsimp only; exact Nat.ne_of_lt (Nat.lt_of_lt_of_le (by have := World.block_lt_of_cell? _ _ hw189_0; first | rwa [add_block] at this | exact this) GW197.out))) _).trans (((cell_far (p := ⟨gb197, _, none⟩) (by first | exact Nat.ne_of_lt (Nat.lt_of_lt_of_le (by have := World.block_lt_of_cell? _ _ hw189_0; first | rwa [add_block] at this | exact this) GW197.out) | (rw [add_block]; exact Nat.ne_of_lt (Nat.lt_of_lt_of_le (by have := World.block_lt_of_cell? _ _ hw189_0; first | rwa [add_block] at this | exact this) GW197.out)) | (show (Addr.add _ _).block ≠ _; rw [add_block]; exact Nat.ne_of_lt (Nat.lt_of_lt_of_le (by have := World.block_lt_of_cell? _ _ hw189_0; first | rwa [add_block] at this | exact this) GW197.out)) | (dsimp only; exact Nat.ne_of_lt (Nat.lt_of_lt_of_le (by have := World.block_lt_of_cell? _ _ hw189_0; first | rwa [add_block] at this | exact this) GW197.out))) _).trans (hHeld.2))))))))⟩ (fun hHeld => ?_)
            clear hK K
            refine done_ (done_of HT_.out (by kernel_rfl)) ?_
            try go_wp2
            have n0_ : Aside0 (Kd.R (Kd.int .u8) 5 ((((w78.setCell ⟨gb197, 0, none⟩ (.int .i64 t187)).setCell ⟨gb197, 1, none⟩ (.int .i64 (wrap64 (rd l0 5)))).setCell ⟨gb197, 2, none⟩ (.int .i64 (wrap64 (rd l0 6)))).setCell ⟨gb197, 3, none⟩ (.slice Ao79 y194.length co79)) w.heap.size (fun _ => True) (.slice Ao79 y194.length co79) y194) := ⟨by (with_reducible repeat (first | apply Kd.R_alloc | apply Kd.R_drewN | apply Kd.R_drew)); exact Kd.R_mono (Kd.R_far (p := ⟨gb197, 3, none⟩) (Kd.R_far (p := ⟨gb197, 2, none⟩) (Kd.R_far (p := ⟨gb197, 1, none⟩) (Kd.R_far (p := ⟨gb197, 0, none⟩) (Kd.R_types HO196.out BK197.out (by decide)) (fun _ hk => hk.2) (.int .i64 t187)) (fun _ hk => hk.2) (.int .i64 (wrap64 (rd l0 5)))) (fun _ hk => hk.2) (.int .i64 (wrap64 (rd l0 6)))) (fun _ hk => hk.2) (.slice Ao79 y194.length co79)) (fun _ hk => trivial)⟩
            have n1_ : Aside0 (((((w78.setCell ⟨gb197, 0, none⟩ (.int .i64 t187)).setCell ⟨gb197, 1, none⟩ (.int .i64 (wrap64 (rd l0 5)))).setCell ⟨gb197, 2, none⟩ (.int .i64 (wrap64 (rd l0 6)))).setCell ⟨gb197, 3, none⟩ (.slice Ao79 y194.length co79)).heap[gb185]? = some (.cells #[.int .i64 0, .int .i64 0, .int .i64 0, .slice none 0 0] 61 (0, 0))) := ⟨by (with_reducible repeat (first | refine blk_drewN ?_ _ | refine blk_drew ?_ | refine blk_alloc ?_ _)); refine blk_far ?_ NB185_197.out _; (with_reducible repeat (first | refine blk_drewN ?_ _ | refine blk_drew ?_ | refine blk_alloc ?_ _)); refine blk_far ?_ NB185_197.out _; (with_reducible repeat (first | refine blk_drewN ?_ _ | refine blk_drew ?_ | refine blk_alloc ?_ _)); refine blk_far ?_ NB185_197.out _; (with_reducible repeat (first | refine blk_drewN ?_ _ | refine blk_drew ?_ | refine blk_alloc ?_ _)); refine blk_far ?_ NB185_197.out _; (with_reducible repeat (first | refine blk_drewN ?_ _ | refine blk_drew ?_ | refine blk_alloc ?_ _)); exact BK185.out⟩
            have n2_ : Aside0 (((((w78.setCell ⟨gb197, 0, none⟩ (.int .i64 t187)).setCell ⟨gb197, 1, none⟩ (.int .i64 (wrap64 (rd l0 5)))).setCell ⟨gb197, 2, none⟩ (.int .i64 (wrap64 (rd l0 6)))).setCell ⟨gb197, 3, none⟩ (.slice Ao79 y194.length co79)).heap[gb197]? = some (.cells #[.int .i64 t187, .int .i64 (wrap64 (rd l0 5)), .int .i64 (wrap64 (rd l0 6)), .slice Ao79 y194.length co79] 61 (0, 0))) := ⟨by (with_reducible repeat (first | refine blk_drewN ?_ _ | refine blk_drew ?_ | refine blk_alloc ?_ _)); refine blk_put (cs := #[.int .i64 t187, .int .i64 (wrap64 (rd l0 5)), .int .i64 (wrap64 (rd l0 6)), .slice none 0 0]) ?_ 3 _ rfl; (with_reducible repeat (first | refine blk_drewN ?_ _ | refine blk_drew ?_ | refine blk_alloc ?_ _)); refine blk_put (cs := #[.int .i64 t187, .int .i64 (wrap64 (rd l0 5)), .int .i64 0, .slice none 0 0]) ?_ 2 _ rfl; (with_reducible repeat (first | refine blk_drewN ?_ _ | refine blk_drew ?_ | refine blk_alloc ?_ _)); refine blk_put (cs := #[.int .i64 t187, .int .i64 0, .int .i64 0, .slice none 0 0]) ?_ 1 _ rfl; (with_reducible repeat (first | refine blk_drewN ?_ _ | refine blk_drew ?_ | refine blk_alloc ?_ _)); refine blk_put (cs := #[.int .i64 0, .int .i64 0, .int .i64 0, .slice none 0 0]) ?_ 0 _ rfl; (with_reducible repeat (first | refine blk_drewN ?_ _ | refine blk_drew ?_ | refine blk_alloc ?_ _)); exact BK197.out⟩
            have n3_ : Aside0 (Below w.heap.size w ((((w78.setCell ⟨gb197, 0, none⟩ (.int .i64 t187)).setCell ⟨gb197, 1, none⟩ (.int .i64 (wrap64 (rd l0 5)))).setCell ⟨gb197, 2, none⟩ (.int .i64 (wrap64 (rd l0 6)))).setCell ⟨gb197, 3, none⟩ (.slice Ao79 y194.length co79))) := ⟨bb_⟩
            (try clear HO196)
            (try clear BK185)
            (try clear BK197)
            (try clear HB)
            generalize ((((w78.setCell ⟨gb197, 0, none⟩ (.int .i64 t187)).setCell ⟨gb197, 1, none⟩ (.int .i64 (wrap64 (rd l0 5)))).setCell ⟨gb197, 2, none⟩ (.int .i64 (wrap64 (rd l0 6)))).setCell ⟨gb197, 3, none⟩ (.slice Ao79 y194.length co79)) = w84 at n0_ n1_ n2_ n3_ ⊢
            have HO196 := n0_
            have BK185 := n1_
            have BK197 := n2_
            have HB := n3_
            clear n0_ n1_ n2_ n3_
            have n0_ := Aside0.mk (Kd.R_drew HO196.out)
            have n1_ := Aside0.mk (blk_drew BK185.out)
            have n2_ := Aside0.mk (blk_drew BK197.out)
            have n3_ := Aside0.mk (below_drew1 HB.out)
            clear HO196
            clear BK185
            clear BK197
            clear HB
            have HO196 := n0_
            have BK185 := n1_
            have BK197 := n2_
            have HB := n3_
            clear n0_ n1_ n2_ n3_
            refine start_ (n := 13) (S := fun w' => w'.cell? ⟨gb197, 0, none⟩ = some (.int .i64 t187) ∧ w'.cell? ⟨gb197, 1, none⟩ = some (.int .i64 (wrap64 (rd l0 5))) ∧ w'.cell? ⟨gb197, 2, none⟩ = some (.int .i64 (wrap64 (rd l0 6))) ∧ w'.cell? ⟨gb197, 3, none⟩ = some (.slice Ao79 y194.length co79)) (ds := []) #[false, false, false, false, false, false, false, false, false, false, false, false, false] (by kernel_rfl) rfl rfl ⟨(blk_cell BK197.out 0).trans rfl, (blk_cell BK197.out 1).trans rfl, (blk_cell BK197.out 2).trans rfl, (blk_cell BK197.out 3).trans rfl⟩ (fun hHeld => ?_); refine with_tabW spec_l10One.tab7 spec_l10One.bits7 (fun HT_ HW_ => ?_)
            generalize w84.drew = w85 at HO196 BK185 BK197 HB hHeld ⊢
            refine take_ (i := 0) (N := some 41) (v := ?_) (a' := ?_) #[true, false, false, false, false, false, false, false, false, false, false, false, false] rfl rfl (take_ofW HT_.out HW_.out (by kernel_rfl)) (fun _ _ _ h => h) (Or.inl ⟨by rfl, ?_⟩) hHeld ?_ ?_
            rotate_left
            ·rintro w' ⟨s0, s1, s2, s3⟩
             go_simp
             with_reducible rfl
            rotate_left
            ·simp only [Act.put, List.setIfInBounds_toArray, List.set_cons_zero, List.set_cons_succ, i64_w, i32_w]
             rfl
            refine one_ (i := 1) (N := some 42) #[true, true, false, false, false, false, false, false, false, false, false, false, false] rfl rfl (one_of HT_.out (by kernel_rfl)) (by decide) (fun K hK => ?_)
            refine goes_ Try.func95 (by kernel_rfl) rfl #[.agg #[.int .i64 t187, .int .i64 (wrap64 (rd l0 5)), .int .i64 (wrap64 (rd l0 6)), .slice Ao79 y194.length co79]] (by rfl) rfl rfl (by (try simp only [List.map_toArray, List.map_cons, List.map_nil]); first | done | rfl | (simp only [List.length_drop, List.length_take]; rfl)) ?_
            with_reducible refine (spec_EntryFault.calls kj5 t187 (wrap64 (rd l0 5)) (wrap64 (rd l0 6)) _ _ y194 t198 _ ?side1 ?side2 A17.out).mono ?_
            (case side1 => exact kc_ ((Kd.R_reads' HO196.out).2.2))
            (case side2 => exact (Kd.R_reads' HO196.out).2.1)
            rintro e w86 ⟨rfl, hb⟩
            refine ⟨_, rfl, ?_⟩
            have n0_ := Aside0.mk (Kd.R_below (kr_ HO196) hb)
            have n1_ := Aside0.mk (blk_below (kb_ BK185) hb)
            have n2_ := Aside0.mk (blk_below (kb_ BK197) hb)
            have n3_ := Aside0.mk (below_step bb_ hb)
            clear HO196
            clear BK185
            clear BK197
            clear HB
            have HO196 := n0_
            have BK185 := n1_
            have BK197 := n2_
            have HB := n3_
            clear n0_ n1_ n2_ n3_
            (try clear hb)
            (try clear hb2)
            (try clear hk)
            (try clear hi)
            refine hK.out _ _ ⟨(blk_cell BK197.out 0).trans rfl, (blk_cell BK197.out 1).trans rfl, (blk_cell BK197.out 2).trans rfl, (blk_cell BK197.out 3).trans rfl⟩ (fun hHeld => ?_)
            clear hK K
            refine norm_ (a' := ?_) ?_ ?_
            rotate_left
            ·show Act.put _ (some 42) _ = _
             simp only [Act.put, List.setIfInBounds_toArray, List.set_cons_zero, List.set_cons_succ, i64_w, i32_w]
             rfl
            refine pure_ (i := 2) (N := some 43) (v := ?_) (a' := ?_) #[true, true, true, false, false, false, false, false, false, false, false, false, false] rfl rfl (any_of HT_.out (by kernel_rfl)) (fun _ _ _ h => h) (Or.inl ⟨by rfl, ?_⟩) ?_ ?_
            rotate_left
            ·intro w'
             go_simp
             with_reducible rfl
            rotate_left
            ·simp only [Act.put, List.setIfInBounds_toArray, List.set_cons_zero, List.set_cons_succ, i64_w, i32_w]
             rfl
            refine pure_ (i := 3) (N := some 44) (v := ?_) (a' := ?_) #[true, true, true, true, false, false, false, false, false, false, false, false, false] rfl rfl (any_of HT_.out (by kernel_rfl)) (fun _ _ _ h => h) (Or.inl ⟨by rfl, ?_⟩) ?_ ?_
            rotate_left
            ·intro w'
             go_simp
             with_reducible rfl
            rotate_left
            ·simp only [Act.put, List.setIfInBounds_toArray, List.set_cons_zero, List.set_cons_succ, i64_w, i32_w]
             rfl
            refine pure_ (i := 4) (N := some 45) (v := undef) (a' := ?_) #[true, true, true, true, true, false, false, false, false, false, false, false, false] rfl rfl (any_of HT_.out (by kernel_rfl)) (fun _ _ _ h => h) (Or.inr ⟨by rfl, rfl⟩) ?_ ?_
            rotate_left
            ·simp only [Act.put, List.setIfInBounds_toArray, List.set_cons_zero, List.set_cons_succ, i64_w, i32_w]
             rfl
            refine pure_ (i := 5) (N := some 46) (v := undef) (a' := ?_) #[true, true, true, true, true, true, false, false, false, false, false, false, false] rfl rfl (any_of HT_.out (by kernel_rfl)) (fun _ _ _ h => h) (Or.inr ⟨by rfl, rfl⟩) ?_ ?_
            rotate_left
            ·simp only [Act.put, List.setIfInBounds_toArray, List.set_cons_zero, List.set_cons_succ, i64_w, i32_w]
             rfl
            refine pure_ (i := 6) (N := some 47) (v := undef) (a' := ?_) #[true, true, true, true, true, true, true, false, false, false, false, false, false] rfl rfl (any_of HT_.out (by kernel_rfl)) (fun _ _ _ h => h) (Or.inr ⟨by rfl, rfl⟩) ?_ ?_
            rotate_left
            ·simp only [Act.put, List.setIfInBounds_toArray, List.set_cons_zero, List.set_cons_succ, i64_w, i32_w]
             rfl
            refine pure_ (i := 7) (N := some 48) (v := undef) (a' := ?_) #[true, true, true, true, true, true, true, true, false, false, false, false, false] rfl rfl (any_of HT_.out (by kernel_rfl)) (fun _ _ _ h => h) (Or.inr ⟨by rfl, rfl⟩) ?_ ?_
            rotate_left
            ·simp only [Act.put, List.setIfInBounds_toArray, List.set_cons_zero, List.set_cons_succ, i64_w, i32_w]
             rfl
            refine pure_ (i := 8) (N := some 49) (v := undef) (a' := ?_) #[true, true, true, true, true, true, true, true, true, false, false, false, false] rfl rfl (any_of HT_.out (by kernel_rfl)) (fun _ _ _ h => h) (Or.inr ⟨by rfl, rfl⟩) ?_ ?_
            rotate_left
            ·simp only [Act.put, List.setIfInBounds_toArray, List.set_cons_zero, List.set_cons_succ, i64_w, i32_w]
             rfl
            refine pure_ (i := 9) (N := some 50) (v := undef) (a' := ?_) #[true, true, true, true, true, true, true, true, true, true, false, false, false] rfl rfl (any_of HT_.out (by kernel_rfl)) (fun _ _ _ h => h) (Or.inr ⟨by rfl, rfl⟩) ?_ ?_
            rotate_left
            ·simp only [Act.put, List.setIfInBounds_toArray, List.set_cons_zero, List.set_cons_succ, i64_w, i32_w]
             rfl
            refine pure_ (i := 10) (N := some 51) (v := undef) (a' := ?_) #[true, true, true, true, true, true, true, true, true, true, true, false, false] rfl rfl (any_of HT_.out (by kernel_rfl)) (fun _ _ _ h => h) (Or.inr ⟨by rfl, rfl⟩) ?_ ?_
            rotate_left
            ·simp only [Act.put, List.setIfInBounds_toArray, List.set_cons_zero, List.set_cons_succ, i64_w, i32_w]
             rfl
            refine pure_ (i := 11) (N := some 52) (v := undef) (a' := ?_) #[true, true, true, true, true, true, true, true, true, true, true, true, false] rfl rfl (any_of HT_.out (by kernel_rfl)) (fun _ _ _ h => h) (Or.inr ⟨by rfl, rfl⟩) ?_ ?_
            rotate_left
            ·simp only [Act.put, List.setIfInBounds_toArray, List.set_cons_zero, List.set_cons_succ, i64_w, i32_w]
             rfl
            refine pure_ (i := 12) (N := some 53) (v := ?_) (a' := ?_) #[true, true, true, true, true, true, true, true, true, true, true, true, true] rfl rfl (any_of HT_.out (by kernel_rfl)) (fun _ _ _ h => h) (Or.inl ⟨by rfl, ?_⟩) ?_ ?_
            rotate_left
            ·intro w'
             go_simp
             with_reducible rfl
            rotate_left
            ·simp only [Act.put, List.setIfInBounds_toArray, List.set_cons_zero, List.set_cons_succ, i64_w, i32_w]
             rfl
            refine done_ (done_of HT_.out (by kernel_rfl)) ?_
            have hnb87 := NB185_197.out
            have hnc87 := NB197_185.out
            obtain ⟨hcz88_0, hcz88_1, hcz88_2, hcz88_3, hfz88_0, hfz88_1, hfz88_2, hfz88_3⟩ := cf4_ BK185
            try go_wp2
            refine bodyPost_ret (results_ct rfl _ _ gb185 61 #[.int .i64 0, .int .i64 0, .int .i64 0, .slice none 0 0] (0, 0) _ rfl (by (with_reducible repeat (first | refine blk_drewN ?_ _ | refine blk_drew ?_ | refine blk_alloc ?_ _)); refine blk_put (cs := #[.int .i64 0, .int .i64 0, .int .i64 0, .slice none 0 0]) ?_ 3 _ rfl; (with_reducible repeat (first | refine blk_drewN ?_ _ | refine blk_drew ?_ | refine blk_alloc ?_ _)); refine blk_put (cs := #[.int .i64 0, .int .i64 0, .int .i64 0, .slice none 0 0]) ?_ 2 _ rfl; (with_reducible repeat (first | refine blk_drewN ?_ _ | refine blk_drew ?_ | refine blk_alloc ?_ _)); refine blk_put (cs := #[.int .i64 0, .int .i64 0, .int .i64 0, .slice none 0 0]) ?_ 1 _ rfl; (with_reducible repeat (first | refine blk_drewN ?_ _ | refine blk_drew ?_ | refine blk_alloc ?_ _)); refine blk_put (cs := #[.int .i64 0, .int .i64 0, .int .i64 0, .slice none 0 0]) ?_ 0 _ rfl; (with_reducible repeat (first | refine blk_drewN ?_ _ | refine blk_drew ?_ | refine blk_alloc ?_ _)); exact BK185.out) Try.underlying61 rfl (by kernel_rfl)) rfl ?_
            exact ⟨_, er_, by first | exact Kd.R_nil _ _ _ _ _ | exact Kd.N_nil _ _ _ _ _ | exact Kd.V_nil _ _ _ _ _ | exact Kd.Q_nil _ _ _ _ _ | exact Kd.S_nil _ _ _ _ _, bb_⟩
          ·rw [if_neg c16] at H
           exact absurd H (by simp)
         ·rw [if_neg c15] at H
          exact absurd H (by simp)
        ·rw [if_neg c14] at H
         exact absurd H (by simp)
       ·rw [if_neg c13] at H
        exact absurd H (by simp)
      ·rw [if_neg c12] at H
       exact absurd H (by simp)
  ·rw [if_neg c5] at H
   exact absurd H (by simp)
end Go.Proofs.Ythmkjapmnlhflaa.PFnExactCrashJournal
